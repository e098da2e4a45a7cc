import PyProof.Rows.All
import Wide.All
import OpenK.AllK
import Wide.FinOn
import KE.KStateDown
import HandS.ForMost
import HandS.Flow
import HandS.IsInst
import HandS.AnyAll
import HandS.Defaults
import HandS.Zip
import HandS.Words
import HandS.HeadHook4
import HandS.EndTab
import HandS.HeadWalk
import HandS.Head2
import HandS.Head0
import HandS.Head1
import HandS.HeadEnd
import HandS.HeadHook1
import HandS.HeadHook2
import HandS.HeadHook3
import PySem.Challenge.RW_pledgedwatts_k71_limits_and_loads
set_option Elab.async false
set_option linter.all false
set_option maxRecDepth 100000
set_option maxHeartbeats 4000000
/-! DL1: data, what stands for it in the heap, ownership. -/
namespace DL
open PySem PySem.Spec PyProof.Rows L2

/-- data: what a value is, without addresses -/
inductive D where
  | non | bl (b : Bool) | int (i : Int) | str (s : Str) | lst (xs : List D) | tup (xs : List D) | obj (c : Str) (fs : List (Str × D)) | scr (ns : List Int)

/-- kinds of holding: scalar; frozen; an owned list of items of a kind -/
inductive Kd where
  | sc | im | lst (k : Kd) | ins (c : Str)
/-- what can be changed in its place -/
def mutO : HO → Bool
  | .lst _ => true
  | .ins _ _ _ => true
  | .dK _ => true
  | .dT _ => true
  | _ => false

/-- what is fixed through a law: the classes' addresses, the code tables that may grow -/
structure Gx where
  cl : Str → Addr
  tab : Addr → Prop

def toV : D → Option V
  | .non => some .non
  | .bl b => some (.bl b)
  | .int i => some (.int i)
  | .str s => some (.str s)
  | _ => none

def Ex (H H' : Hp) : Prop := ∀ b o, H b = some o → H' b = some o
theorem Ex.refl (H : Hp) : Ex H H := fun _ _ h => h
theorem Ex.trans {H H1 H2 : Hp} (a : Ex H H1) (b : Ex H1 H2) : Ex H H2 := fun x o h => b x o (a x o h)
theorem Ex.new {H : Hp} {p : Addr} {o : HO} (h : H p = none) : Ex H (upd H p o) := fun a u e => by
  rw [upd_ne (ne_of_none e h)]; exact e
theorem ex_rd {H H' : Hp} {a : Addr} {u : HO} (e : Ex H H') (h : Rd H a u) : Rd H' a u := by
  rcases h with h | ⟨o, h⟩
  · exact .inl (e _ _ h)
  · exact .inr ⟨o, e _ _ h⟩
theorem ex_l {K : PySem.W.Frag} {H H' : Hp} {a : Addr} {xs : List V} (e : Ex H H') (h : SqL K H a xs) : SqL K H' a xs := by
  rcases h with h | h
  · exact .inl (ex_rd e h)
  · exact .inr h
theorem ex_t {K : PySem.W.Frag} {H H' : Hp} {a : Addr} {xs : List V} (e : Ex H H') (h : SqT K H a xs) : SqT K H' a xs := by
  rcases h with h | h
  · exact .inl (ex_rd e h)
  · exact .inr h

mutual
/-- the value v stands for the data d, all of it in the frozen heap F -/
inductive Rep (K : PySem.W.Frag) (g : Gx) (F : Hp) : D → V → Prop
  | sc {d v} : toV d = some v → Rep K g F d v
  | lst {a ds vs} : F a = some (.lst vs) → Reps K g F ds vs → Rep K g F (.lst ds) (.ref a)
  | scr {a ns} : SqL K F a (ns.map V.int) → Rep K g F (.scr ns) (.ref a)
  | tup {a ds vs} : SqT K F a vs → Reps K g F ds vs → Rep K g F (.tup ds) (.ref a)
  | obj {c a dx fs vs} : F a = some (.ins (g.cl c) dx vs) → RepF K g F fs vs → Rep K g F (.obj c fs) (.ref a)
inductive Reps (K : PySem.W.Frag) (g : Gx) (F : Hp) : List D → List V → Prop
  | nil : Reps K g F [] []
  | cons {d v ds vs} : Rep K g F d v → Reps K g F ds vs → Reps K g F (d :: ds) (v :: vs)
inductive RepF (K : PySem.W.Frag) (g : Gx) (F : Hp) : List (Str × D) → List (Str × V) → Prop
  | nil : RepF K g F [] []
  | cons {x d v ds vs} : Rep K g F d v → RepF K g F ds vs → RepF K g F ((x, d) :: ds) ((x, v) :: vs)
end

section
variable {K : PySem.W.Frag} {g : Gx} {F F' : Hp}
mutual
theorem Rep.mono (e : Ex F F') : ∀ {d v}, Rep K g F d v → Rep K g F' d v
  | _, _, .sc h => .sc h
  | _, _, .lst h r => .lst (e _ _ h) (Reps.mono e r)
  | _, _, .scr h => .scr (ex_l e h)
  | _, _, .tup h r => .tup (ex_t e h) (Reps.mono e r)
  | _, _, .obj h r => .obj (e _ _ h) (RepF.mono e r)
theorem Reps.mono (e : Ex F F') : ∀ {ds vs}, Reps K g F ds vs → Reps K g F' ds vs
  | _, _, .nil => .nil
  | _, _, .cons h r => .cons (Rep.mono e h) (Reps.mono e r)
theorem RepF.mono (e : Ex F F') : ∀ {ds vs}, RepF K g F ds vs → RepF K g F' ds vs
  | _, _, .nil => .nil
  | _, _, .cons h r => .cons (Rep.mono e h) (RepF.mono e r)
end
theorem Reps.length : ∀ {ds vs}, Reps K g F ds vs → ds.length = vs.length
  | _, _, .nil => rfl
  | _, _, .cons _ r => by rw [List.length_cons, List.length_cons, Reps.length r]
theorem Reps.get : ∀ {ds vs} {i : Nat} {d : D}, Reps K g F ds vs → ds[i]? = some d → ∃ v, vs[i]? = some v ∧ Rep K g F d v
  | _, _, _, _, .nil, e => by simp at e
  | _, _, 0, _, .cons h _, e => by simp at e; subst e; exact ⟨_, rfl, h⟩
  | _, _, i + 1, _, .cons _ r, e => by
    obtain ⟨v, h1, h2⟩ := Reps.get (i := i) r (by simpa using e)
    exact ⟨v, by simpa using h1, h2⟩
theorem Reps.get' : ∀ {ds vs} {i : Nat} {v : V}, Reps K g F ds vs → vs[i]? = some v → ∃ d, ds[i]? = some d ∧ Rep K g F d v
  | _, _, _, _, .nil, e => by simp at e
  | _, _, 0, _, .cons h _, e => by simp at e; subst e; exact ⟨_, rfl, h⟩
  | _, _, i + 1, _, .cons _ r, e => by
    obtain ⟨v, h1, h2⟩ := Reps.get' (i := i) r (by simpa using e)
    exact ⟨v, by simpa using h1, h2⟩
theorem Reps.append : ∀ {ds vs es ws}, Reps K g F ds vs → Reps K g F es ws → Reps K g F (ds ++ es) (vs ++ ws)
  | _, _, _, _, .nil, s => s
  | _, _, _, _, .cons h r, s => .cons h (Reps.append r s)
theorem Reps.take : ∀ {ds vs} (n : Nat), Reps K g F ds vs → Reps K g F (ds.take n) (vs.take n)
  | _, _, 0, _ => .nil
  | _, _, _ + 1, .nil => .nil
  | _, _, n + 1, .cons h r => .cons h (Reps.take n r)
theorem Reps.drop : ∀ {ds vs} (n : Nat), Reps K g F ds vs → Reps K g F (ds.drop n) (vs.drop n)
  | _, _, 0, r => r
  | _, _, _ + 1, .nil => .nil
  | _, _, n + 1, .cons _ r => Reps.drop n r
theorem Reps.set {d : D} {v : V} (h : Rep K g F d v) : ∀ {ds vs} (i : Nat), Reps K g F ds vs → Reps K g F (ds.set i d) (vs.set i v)
  | _, _, _, .nil => .nil
  | _, _, 0, .cons _ r => .cons h r
  | _, _, i + 1, .cons q r => .cons q (Reps.set h i r)
theorem Reps.eraseIdx : ∀ {ds vs} (i : Nat), Reps K g F ds vs → Reps K g F (ds.eraseIdx i) (vs.eraseIdx i)
  | _, _, _, .nil => .nil
  | _, _, 0, .cons _ r => r
  | _, _, i + 1, .cons q r => .cons q (Reps.eraseIdx i r)
theorem Rep.ofInt {i : Int} {v : V} (h : Rep K g F (.int i) v) : v = .int i := by
  cases h with | sc h => simpa [toV] using h.symm
theorem Rep.ofBl {i : Bool} {v : V} (h : Rep K g F (.bl i) v) : v = .bl i := by
  cases h with | sc h => simpa [toV] using h.symm
theorem Rep.ofStr {i : Str} {v : V} (h : Rep K g F (.str i) v) : v = .str i := by
  cases h with | sc h => simpa [toV] using h.symm
theorem Rep.ofNon {v : V} (h : Rep K g F .non v) : v = .non := by
  cases h with | sc h => simpa [toV] using h.symm
theorem Rep.ofLst {ds : List D} {v : V} (h : Rep K g F (.lst ds) v) : ∃ a vs, v = .ref a ∧ F a = some (.lst vs) ∧ Reps K g F ds vs := by
  cases h with
  | sc h => simp [toV] at h
  | lst h r => exact ⟨_, _, rfl, h, r⟩
theorem Rep.ofTup {ds : List D} {v : V} (h : Rep K g F (.tup ds) v) : ∃ a vs, v = .ref a ∧ SqT K F a vs ∧ Reps K g F ds vs := by
  cases h with
  | sc h => simp [toV] at h
  | tup h r => exact ⟨_, _, rfl, h, r⟩
theorem Rep.ofObj {c : Str} {fs : List (Str × D)} {v : V} (h : Rep K g F (.obj c fs) v) : ∃ a dx vs, v = .ref a ∧ F a = some (.ins (g.cl c) dx vs) ∧ RepF K g F fs vs := by
  cases h with
  | sc h => simp [toV] at h
  | obj h r => exact ⟨_, _, _, rfl, h, r⟩
theorem RepF.look : ∀ {fs vs} {x : Str} {d : D}, RepF K g F fs vs → fs.lookup x = some d → ∃ v, vs.lookup x = some v ∧ Rep K g F d v
  | _, _, _, _, .nil, e => by simp at e
  | _, _, x, d, .cons (x := y) h r, e => by
    rw [List.lookup_cons] at e ⊢
    cases q : (x == y) with
    | true => rw [q] at e; cases e; exact ⟨_, rfl, h⟩
    | false => rw [q] at e; exact RepF.look r e
theorem RepF.lookN : ∀ {fs vs} {x : Str}, RepF K g F fs vs → fs.lookup x = none → vs.lookup x = none
  | _, _, _, .nil, _ => rfl
  | _, _, x, .cons (x := y) h r, e => by
    rw [List.lookup_cons] at e ⊢
    cases q : (x == y) with
    | true => rw [q] at e; cases e
    | false => rw [q] at e; exact RepF.lookN r e
theorem Rep.ofScr {ns : List Int} {v : V} (h : Rep K g F (.scr ns) v) : ∃ a, v = .ref a ∧ SqL K F a (ns.map V.int) := by
  cases h with
  | sc h => simp [toV] at h
  | scr h => exact ⟨_, rfl, h⟩
theorem reps_ints : ∀ ns : List Int, Reps K g F (ns.map D.int) (ns.map V.int)
  | [] => .nil
  | n :: ns => .cons (.sc rfl) (reps_ints ns)
/-- scalars stand without a heap -/
theorem toV.rep {d : D} {v : V} (h : toV d = some v) : Rep K g F d v := .sc h
end

/-- the value v holds the data d, as a kind says: frozen in F, or owned (in H, not in F) at addresses of S -/
def Hold (K : PySem.W.Frag) (g : Gx) (F H : Hp) : Kd → D → V → (Addr → Prop) → Prop
  | .sc, d, v, _ => toV d = some v
  | .im, d, v, _ => Rep K g F d v
  | .lst k, d, v, S => ∃ (a : Addr) (vs : List V) (ds : List D), d = .lst ds ∧ v = .ref a ∧ S a ∧ F a = none ∧ H a = some (.lst vs) ∧ ds.length = vs.length ∧
      ∃ T : Nat → Addr → Prop, (∀ i j b, T i b → T j b → i = j) ∧ (∀ i b, T i b → S b ∧ b ≠ a) ∧
        ∀ (i : Nat) (x : D) (y : V), ds[i]? = some x → vs[i]? = some y → Hold K g F H k x y (T i)
  | .ins c, d, v, S => ∃ (a dx : Addr) (vs : List (Str × V)) (fs : List (Str × D)), d = .obj c fs ∧ v = .ref a ∧ S a ∧ F a = none ∧ H a = some (.ins (g.cl c) dx vs) ∧ RepF K g F fs vs
/-- .. as it may be read -/
def Vw (K : PySem.W.Frag) (g : Gx) (F H : Hp) : Kd → D → V → Prop
  | .sc, d, v => toV d = some v
  | .im, d, v => Rep K g F d v
  | .lst k, d, v => ∃ (a : Addr) (vs : List V) (ds : List D), d = .lst ds ∧ v = .ref a ∧ H a = some (.lst vs) ∧ ds.length = vs.length ∧
        ∀ (i : Nat) (x : D) (y : V), ds[i]? = some x → vs[i]? = some y → Vw K g F H k x y
  | .ins c, d, v => ∃ (a dx : Addr) (vs : List (Str × V)) (fs : List (Str × D)), d = .obj c fs ∧ v = .ref a ∧ H a = some (.ins (g.cl c) dx vs) ∧ RepF K g F fs vs
def Kd.fl : Kd → Bool
  | .sc => true
  | .im => true
  | _ => false
section
variable {K : PySem.W.Frag} {g : Gx} {F F' H H' : Hp} {S S' : Addr → Prop}
theorem Hold.vw : ∀ {k : Kd} {d : D} {v : V} {S : Addr → Prop}, Hold K g F H k d v S → Vw K g F H k d v
  | .sc, _, _, _, h => h
  | .im, _, _, _, h => h
  | .lst k, _, _, _, h => by
    obtain ⟨a, vs, ds, e1, e2, _, _, h1, h2, T, _, _, h3⟩ := h
    exact ⟨a, vs, ds, e1, e2, h1, h2, fun i x y a b => Hold.vw (h3 i x y a b)⟩
  | .ins c, _, _, _, h => by
    obtain ⟨a, dx, vs, fs, e1, e2, _, _, h1, h2⟩ := h
    exact ⟨a, dx, vs, fs, e1, e2, h1, h2⟩
theorem Vw.rep : ∀ {k : Kd} {d : D} {v : V}, Vw K g F H k d v → k.fl = true → Rep K g F d v
  | .sc, _, _, h, _ => .sc h
  | .im, _, _, h, _ => h
theorem Hold.up (h : ∀ b, S b → S' b) : ∀ {k : Kd} {d : D} {v : V}, Hold K g F H k d v S → Hold K g F H k d v S'
  | .sc, _, _, q => q
  | .im, _, _, q => q
  | .lst k, _, _, q => by
    obtain ⟨a, vs, ds, e1, e2, s, f, h1, h2, T, t1, t2, h3⟩ := q
    exact ⟨a, vs, ds, e1, e2, h _ s, f, h1, h2, T, t1, fun i b z => ⟨h b (t2 i b z).1, (t2 i b z).2⟩, h3⟩
  | .ins c, _, _, q => by
    obtain ⟨a, dx, vs, fs, e1, e2, s, r⟩ := q
    exact ⟨a, dx, vs, fs, e1, e2, h _ s, r⟩
/-- only what is there, and not frozen -/
theorem Hold.there : ∀ {k : Kd} {d : D} {v : V} {S : Addr → Prop}, Hold K g F H k d v S → Hold K g F H k d v (fun b => S b ∧ F b = none ∧ ∃ o, H b = some o ∧ mutO o = true)
  | .sc, _, _, _, q => q
  | .im, _, _, _, q => q
  | .lst k, _, _, S, q => by
    obtain ⟨a, vs, ds, e1, e2, s, f, h1, h2, T, t1, t2, h3⟩ := q
    exact ⟨a, vs, ds, e1, e2, ⟨s, f, _, h1, rfl⟩, f, h1, h2, fun i b => T i b ∧ F b = none ∧ ∃ o, H b = some o ∧ mutO o = true, fun i j b x y => t1 i j b x.1 y.1, fun i b z => ⟨⟨(t2 i b z.1).1, z.2⟩, (t2 i b z.1).2⟩, fun i x y a b => Hold.there (h3 i x y a b)⟩
  | .ins c, _, _, S, q => by
    obtain ⟨a, dx, vs, fs, e1, e2, s, f, h1, r⟩ := q
    exact ⟨a, dx, vs, fs, e1, e2, ⟨s, f, _, h1, rfl⟩, f, h1, r⟩
/-- what is owned stays held where its objects stay and stay unfrozen -/
theorem Hold.keep (e : Ex F F') : ∀ {k : Kd} {d : D} {v : V} {S : Addr → Prop}, Hold K g F H k d v S → (∀ b o, S b → F b = none → H b = some o → mutO o = true → H' b = some o ∧ F' b = none) → Hold K g F' H' k d v S
  | .sc, _, _, _, q, _ => q
  | .im, _, _, _, q, _ => Rep.mono e q
  | .lst k, _, _, S, q, st => by
    obtain ⟨a, vs, ds, e1, e2, s, f, h1, h2, T, t1, t2, h3⟩ := q
    obtain ⟨s1, s2⟩ := st a _ s f h1 rfl
    exact ⟨a, vs, ds, e1, e2, s, s2, s1, h2, T, t1, t2, fun i x y a b => Hold.keep e (h3 i x y a b) fun c o z => st c o (t2 i c z).1⟩
  | .ins c, _, _, S, q, st => by
    obtain ⟨a, dx, vs, fs, e1, e2, s, f, h1, r⟩ := q
    obtain ⟨s1, s2⟩ := st a _ s f h1 rfl
    exact ⟨a, dx, vs, fs, e1, e2, s, s2, s1, r.mono e⟩
theorem Vw.keep (e : Ex F F') : ∀ {k : Kd} {d : D} {v : V}, Vw K g F H k d v → (∀ b o, H b = some o → mutO o = true → H' b = some o) → Vw K g F' H' k d v
  | .sc, _, _, q, _ => q
  | .im, _, _, q, _ => Rep.mono e q
  | .lst k, _, _, q, st => by
    obtain ⟨a, vs, ds, e1, e2, h1, h2, h3⟩ := q
    exact ⟨a, vs, ds, e1, e2, st _ _ h1 rfl, h2, fun i x y a b => Vw.keep e (h3 i x y a b) st⟩
  | .ins c, _, _, q, st => by
    obtain ⟨a, dx, vs, fs, e1, e2, h1, r⟩ := q
    exact ⟨a, dx, vs, fs, e1, e2, st _ _ h1 rfl, r.mono e⟩
/-- a view, all of it in one heap -/
theorem reps_of {ds : List D} {vs : List V} (hl : ds.length = vs.length) (h : ∀ (i : Nat) (x : D) (y : V), ds[i]? = some x → vs[i]? = some y → Rep K g F x y) : Reps K g F ds vs := by
  induction ds generalizing vs with
  | nil => cases vs with
    | nil => exact .nil
    | cons _ _ => simp at hl
  | cons d ds ih => cases vs with
    | nil => simp at hl
    | cons v vs => exact .cons (h 0 d v rfl rfl) (ih (by simpa using hl) fun i x y a b => h (i + 1) x y (by simpa using a) (by simpa using b))
theorem Vw.inH (e : Ex F H') (st : ∀ b o, H b = some o → mutO o = true → H' b = some o) : ∀ {k : Kd} {d : D} {v : V}, Vw K g F H k d v → Rep K g H' d v
  | .sc, _, _, q => .sc q
  | .im, _, _, q => Rep.mono e q
  | .lst k, _, _, q => by
    obtain ⟨a, vs, ds, rfl, rfl, h1, h2, h3⟩ := q
    exact .lst (st _ _ h1 rfl) (reps_of h2 fun i x y a b => Vw.inH e st (h3 i x y a b))
  | .ins c, _, _, q => by
    obtain ⟨a, dx, vs, fs, rfl, rfl, h1, r⟩ := q
    exact .obj (st _ _ h1 rfl) (r.mono e)
/-- a list of scalars, or of frozen data: its items -/
theorem Hold.items {k : Kd} {d : D} {v : V} (hk : k.fl = true) (h : Hold K g F H (.lst k) d v S) : ∃ (a : Addr) (vs : List V) (ds : List D), d = .lst ds ∧ v = .ref a ∧ S a ∧ F a = none ∧ H a = some (.lst vs) ∧ Reps K g F ds vs ∧ ds.length = vs.length ∧ ∀ (i : Nat) (x : D) (y : V), ds[i]? = some x → vs[i]? = some y → Vw K g F H k x y := by
  obtain ⟨a, vs, ds, e1, e2, s, f, h1, h2, T, t1, t2, h3⟩ := h
  exact ⟨a, vs, ds, e1, e2, s, f, h1, reps_of h2 fun i x y a b => (h3 i x y a b).vw.rep hk, h2, fun i x y a b => (h3 i x y a b).vw⟩
theorem Vw.hold {k : Kd} (hk : k.fl = true) {d : D} {v : V} (h : Vw K g F H k d v) : Hold K g F H k d v S := by
  cases k with
  | sc => exact h
  | im => exact h
  | lst k => cases hk
  | ins c => cases hk
/-- a list of flat items is held -/
theorem Hold.mk {k : Kd} (hk : k.fl = true) {a : Addr} {vs : List V} {ds : List D} (s : S a) (f : F a = none) (h1 : H a = some (.lst vs)) (hl : ds.length = vs.length) (h : ∀ (i : Nat) (x : D) (y : V), ds[i]? = some x → vs[i]? = some y → Vw K g F H k x y) : Hold K g F H (.lst k) (.lst ds) (.ref a) S :=
  ⟨a, vs, ds, rfl, rfl, s, f, h1, hl, fun _ _ => False, fun _ _ _ z => z.elim, fun _ _ z => z.elim, fun i x y a b => (h i x y a b).hold hk⟩
end
/-- freezing: what S owns is taken into the frozen heap -/
noncomputable def frz (F H : Hp) (S : Addr → Prop) : Hp := fun b => match F b with
  | some o => some o
  | none => by
    classical
    exact if S b then H b else none
section
variable {K : PySem.W.Frag} {g : Gx} {F F' H H' : Hp} {S S' : Addr → Prop}
theorem frz_ex : Ex F (frz F H S) := fun b o h => by unfold frz; rw [h]
theorem frz_in {b : Addr} (h : F b = none) (s : S b) : frz F H S b = H b := by unfold frz; rw [h]; exact if_pos s
theorem frz_out {b : Addr} (s : ¬ S b) : frz F H S b = F b := by
  unfold frz
  cases h : F b with
  | some o => rfl
  | none => exact if_neg s
theorem frz_sub (h : Ex F H) : Ex (frz F H S) H := fun b o q => by
  cases e : F b with
  | some u => rw [frz_ex b u e] at q; cases q; exact h b _ e
  | none =>
    by_cases s : S b
    · rw [frz_in e s] at q; exact q
    · rw [frz_out s, e] at q; cases q
theorem Hold.frz : ∀ {k : Kd} {d : D} {v : V} {T : Addr → Prop}, Hold K g F H k d v T → (∀ b, T b → S b) → Rep K g (frz F H S) d v
  | .sc, _, _, _, q, _ => .sc q
  | .im, _, _, _, q, _ => Rep.mono frz_ex q
  | .lst k, _, _, _, q, st => by
    obtain ⟨a, vs, ds, rfl, rfl, s, f, h1, h2, T, t1, t2, h3⟩ := q
    exact .lst (by rw [frz_in f (st a s)]; exact h1) (reps_of h2 fun i x y a b => Hold.frz (h3 i x y a b) fun c z => st c (t2 i c z).1)
  | .ins c, _, _, _, q, st => by
    obtain ⟨a, dx, vs, fs, rfl, rfl, s, f, h1, r⟩ := q
    exact .obj (by rw [frz_in f (st a s)]; exact h1) (r.mono frz_ex)
end
end DL

set_option maxHeartbeats 4000000
/-! DL2: the state of a def's body: what each slot holds, what stands still. -/
namespace DL
open PySem PySem.Spec PyProof.Rows L2

/-- a slot: how it holds; io: it is a parameter that the def changes for its caller -/
structure Sl where
  kd : Kd
  io : Bool := false
/-- the data of the slots -/
abbrev Rho := List (Option D)
/-- a def's base: the heap and the frozen heap at its entry, what it may change (by slot), the parameters' values -/
structure Bs where
  H0 : Hp
  F0 : Hp
  io : Nat → Addr → Prop
  vs : L2.St
abbrev Tabs (g : Gx) (F H : Hp) : Prop := ∀ P, g.tab P → GxR.TabG H P ∧ F P = none
structure Core (g : Gx) (κ : List Sl) (B : Bs) (F H : Hp) (σ : L2.St) : Prop where
  ext : Ex B.F0 F
  sub : Ex F H
  frame : ∀ b o, B.H0 b = some o → (∀ i, ¬ B.io i b) → ¬ g.tab b → H b = some o
  fz : ∀ b o, B.H0 b = some o → F b = B.F0 b
  dom : ∀ b, H b = none → B.H0 b = none
  tab : Tabs g F H
  pin : ∀ (i : Nat) s, κ[i]? = some s → s.io = true → σ[i]? = B.vs[i]?
  noio : ∀ (i : Nat) s b, κ[i]? = some s → s.io = false → ¬ B.io i b
  len : σ.length = κ.length
structure HoldE (K : PySem.W.Frag) (g : Gx) (κ : List Sl) (B : Bs) (F H : Hp) (σ : L2.St) (ρ : Rho) (S : Nat → Addr → Prop) : Prop where
  lenR : ρ.length = κ.length
  dis : ∀ i j b, S i b → S j b → i = j
  mine : ∀ i b, S i b → B.io i b ∨ B.H0 b = none
  held : ∀ (i : Nat) s d, κ[i]? = some s → ρ[i]? = some (some d) → ∃ v, σ[i]? = some (some v) ∧ Hold K g F H s.kd d v (S i)
def Ok (K : PySem.W.Frag) (g : Gx) (κ : List Sl) (B : Bs) (F H : Hp) (σ : L2.St) (ρ : Rho) : Prop := Core g κ B F H σ ∧ ∃ S, HoldE K g κ B F H σ ρ S
/-- .. and a value of its own besides -/
def OkN (K : PySem.W.Frag) (g : Gx) (κ : List Sl) (B : Bs) (F H : Hp) (σ : L2.St) (ρ : Rho) (k : Kd) (d : D) (v : V) : Prop :=
  Core g κ B F H σ ∧ ∃ S, HoldE K g κ B F H σ ρ S ∧ Hold K g F H k d v (S κ.length) ∧ ∀ b, S κ.length b → B.H0 b = none
/-- what a quiet step leaves -/
def ExT (g : Gx) (H H' : Hp) : Prop := ∀ b o, H b = some o → ¬ g.tab b → H' b = some o
theorem ExT.refl (g : Gx) (H : Hp) : ExT g H H := fun _ _ h _ => h
theorem ExT.trans {g : Gx} {H H1 H2 : Hp} (a : ExT g H H1) (b : ExT g H1 H2) : ExT g H H2 := fun x o h t => b x o (a x o h t) t
theorem Ex.toT {g : Gx} {H H' : Hp} (a : Ex H H') : ExT g H H' := fun b o h _ => a b o h
section
variable {K : PySem.W.Frag} {g : Gx} {κ : List Sl} {B : Bs} {F F' H H' : Hp} {σ σ' : L2.St} {ρ ρ' : Rho} {k : Kd} {d : D} {v : V}
theorem OkN.ok (h : OkN K g κ B F H σ ρ k d v) : Ok K g κ B F H σ ρ := ⟨h.1, h.2.choose, h.2.choose_spec.1⟩
theorem notab {o : HO} (t : Tabs g F H) {b : Addr} (h : H b = some o) (m : mutO o = true := by rfl) : ¬ g.tab b := fun z => by
  obtain ⟨⟨ps, e, _⟩, _⟩ := t b z
  rw [h] at e; cases e; cases m
theorem ExT.mut (t : Tabs g F H) (e : ExT g H H') : ∀ b o, H b = some o → mutO o = true → H' b = some o := fun b o h m => e b _ h (notab t h m)
theorem HoldE.weak {S S' : Nat → Addr → Prop} (h : HoldE K g κ B F H σ ρ S) (up : ∀ i s d v, κ[i]? = some s → Hold K g F H s.kd d v (S i) → Hold K g F H s.kd d v (S' i)) (dn : ∀ i b, S' i b → S i b) : HoldE K g κ B F H σ ρ S' :=
  ⟨h.lenR, fun i j b x y => h.dis i j b (dn i b x) (dn j b y), fun i b x => h.mine i b (dn i b x), fun i s d a b => let ⟨v, q, r⟩ := h.held i s d a b; ⟨v, q, up i s d v a r⟩⟩
/-- only what is there -/
theorem HoldE.there {S : Nat → Addr → Prop} (h : HoldE K g κ B F H σ ρ S) : HoldE K g κ B F H σ ρ (fun i b => S i b ∧ F b = none ∧ ∃ o, H b = some o ∧ mutO o = true) :=
  h.weak (fun _ _ _ _ _ q => q.there) fun _ _ z => z.1
theorem Ok.there (h : Ok K g κ B F H σ ρ) : ∃ S, HoldE K g κ B F H σ ρ S ∧ ∀ i b, S i b → F b = none ∧ ∃ o, H b = some o ∧ mutO o = true :=
  let ⟨_, S, e⟩ := h; ⟨_, e.there, fun _ _ z => z.2⟩
/-- the heap has grown, nothing that the slots hold has changed -/
theorem Core.grow (c : Core g κ B F H σ) (e1 : Ex F F') (e2 : Ex F' H') (h1 : ExT g H H') (h2 : ∀ b o, H b = some o → F' b = F b) (h3 : ∀ b, H' b = none → H b = none) (h4 : Tabs g F' H') : Core g κ B F' H' σ :=
  ⟨c.ext.trans e1, e2, fun b o q n t => h1 b o (c.frame b o q n t) t, fun b o q => (by
    cases z : H b with
    | some u =>
      rw [h2 b u z]
      exact c.fz b o q
    | none =>
      rw [c.dom b z] at q
      cases q), fun b q => c.dom b (h3 b q), h4, c.pin, c.noio, c.len⟩
theorem HoldE.grow {S : Nat → Addr → Prop} (c : Core g κ B F H σ) (h : HoldE K g κ B F H σ ρ S) (e1 : Ex F F') (h1 : ExT g H H') (h2 : ∀ b o, H b = some o → F' b = F b) : HoldE K g κ B F' H' σ ρ S :=
  ⟨h.lenR, h.dis, h.mine, fun i s d a b => by
    obtain ⟨v, q, r⟩ := h.held i s d a b
    exact ⟨v, q, r.keep e1 fun b o _ f l m => ⟨h1.mut c.tab b o l m, by rw [h2 b _ l]; exact f⟩⟩⟩
theorem Ok.grow (h : Ok K g κ B F H σ ρ) (e1 : Ex F F') (e2 : Ex F' H') (h1 : ExT g H H') (h2 : ∀ b o, H b = some o → F' b = F b) (h3 : ∀ b, H' b = none → H b = none) (h4 : Tabs g F' H') : Ok K g κ B F' H' σ ρ :=
  ⟨h.1.grow e1 e2 h1 h2 h3 h4, h.2.choose, h.2.choose_spec.grow h.1 e1 h1 h2⟩
theorem Ok.fnone (h : Ok K g κ B F H σ ρ) {p : Addr} (hp : H p = none) : F p = none := by
  cases e : F p with
  | none => rfl
  | some o => rw [h.1.sub p o e] at hp; cases hp
theorem Tabs.upd (t : Tabs g F H) {p : Addr} {o : HO} (hp : H p = none) : Tabs g F (L2.upd H p o) := fun P hP => by
  obtain ⟨⟨ps, e, q⟩, f⟩ := t P hP
  exact ⟨⟨ps, by rw [upd_ne (ne_of_none e hp)]; exact e, q⟩, f⟩
theorem Tabs.upd2 (t : Tabs g F H) {p : Addr} {o : HO} (hp : H p = none) : Tabs g (L2.upd F p o) (L2.upd H p o) := fun P hP => by
  obtain ⟨⟨ps, e, q⟩, f⟩ := t P hP
  have n := ne_of_none e hp
  exact ⟨⟨ps, by rw [upd_ne n]; exact e, q⟩, by rw [upd_ne n]; exact f⟩
theorem upd_none' {H : Hp} {a b : Addr} {o : HO} (e : L2.upd H a o b = none) : H b = none := by
  by_cases h : b = a
  · subst h; rw [upd_same] at e; cases e
  · rw [upd_ne h] at e; exact e
/-- a new frozen object -/
theorem Ok.newF {p : Addr} {o : HO} (h : Ok K g κ B F H σ ρ) (hp : H p = none) : Ok K g κ B (L2.upd F p o) (L2.upd H p o) σ ρ := by
  have fp := h.fnone hp
  refine h.grow (.new fp) (fun b u e => ?_) (Ex.toT (.new hp)) (fun b u e => upd_ne (ne_of_none e hp)) (fun b e => upd_none' e) (h.1.tab.upd2 hp)
  by_cases q : b = p
  · subst q; rw [upd_same] at e ⊢; exact e
  · rw [upd_ne q] at e ⊢; exact h.1.sub b u e
/-- a new list of its own, of flat items -/
theorem Ok.newL {p : Addr} {vs : List V} {ds : List D} (h : Ok K g κ B F H σ ρ) (hp : H p = none) (hk : k.fl = true) (hl : ds.length = vs.length) (hv : ∀ (i : Nat) (x : D) (y : V), ds[i]? = some x → vs[i]? = some y → Vw K g F H k x y) :
    OkN K g κ B F (L2.upd H p (.lst vs)) σ ρ (.lst k) (.lst ds) (.ref p) := by
  obtain ⟨S, e, t⟩ := h.there
  have fp := h.fnone hp
  have c2 : Core g κ B F (L2.upd H p (.lst vs)) σ := h.1.grow (Ex.refl _) (fun b u e => by
    have : b ≠ p := fun z => by subst z; rw [fp] at e; cases e
    rw [upd_ne this]; exact h.1.sub b u e) (Ex.toT (.new hp)) (fun _ _ _ => rfl) (fun b e => upd_none' e) (h.1.tab.upd hp)
  have e2 := e.grow (F' := F) (H' := L2.upd H p (.lst vs)) h.1 (Ex.refl _) (Ex.toT (.new hp)) (fun _ _ _ => rfl)
  have np : ∀ i b, S i b → b ≠ p := fun i b z q => by
    obtain ⟨_, xs, l, _⟩ := t i b z
    rw [q, hp] at l; cases l
  refine ⟨c2, fun i b => if i = κ.length then b = p else S i b, ⟨e2.lenR, fun i j b x y => ?_, fun i b x => ?_, fun i s d a b => ?_⟩, ?_, ?_⟩
  · by_cases hi : i = κ.length
    · by_cases hj : j = κ.length
      · rw [hi, hj]
      · simp only [if_pos hi, if_neg hj] at x y
        exact (np j b y x).elim
    · by_cases hj : j = κ.length
      · simp only [if_neg hi, if_pos hj] at x y
        exact (np i b x y).elim
      · simp only [if_neg hi, if_neg hj] at x y
        exact e.dis i j b x y
  · by_cases hi : i = κ.length
    · simp only [if_pos hi] at x
      rw [x]
      exact .inr (h.1.dom p hp)
    · simp only [if_neg hi] at x
      exact e.mine i b x
  · have hi : i ≠ κ.length := fun z => by
      have := (List.getElem?_eq_some_iff.mp a).1
      omega
    obtain ⟨v, q, r⟩ := e2.held i s d a b
    exact ⟨v, q, by simp only [if_neg hi]; exact r⟩
  · refine Hold.mk hk (by simp) fp upd_same hl fun i x y a b => (hv i x y a b).keep (Ex.refl _) fun b xs e _ => ?_
    rw [upd_ne (ne_of_none e hp)]; exact e
  · intro b z
    simp only [if_pos] at z
    rw [z]; exact h.1.dom p hp
/-- an owned value is frozen -/
theorem OkN.freeze (h : OkN K g κ B F H σ ρ k d v) : ∃ F', Ex F F' ∧ Ok K g κ B F' H σ ρ ∧ Rep K g F' d v := by
  obtain ⟨c, S, e, hd, hn⟩ := h
  have hd2 := hd.there
  let T : Addr → Prop := fun b => S κ.length b ∧ F b = none ∧ ∃ o, H b = some o ∧ mutO o = true
  refine ⟨frz F H T, frz_ex, ⟨⟨c.ext.trans frz_ex, frz_sub c.sub, c.frame, fun b o q => ?_, c.dom, fun P hP => ?_, c.pin, c.noio, c.len⟩, fun i b => i ≠ κ.length ∧ S i b, ⟨e.lenR, fun i j b x y => e.dis i j b x.2 y.2, fun i b x => e.mine i b x.2, fun i s d a b => ?_⟩⟩, Hold.frz hd2 fun _ z => z⟩
  · rw [frz_out (fun z => by rw [hn b z.1] at q; cases q)]
    exact c.fz b o q
  · obtain ⟨⟨ps, e1, q⟩, f⟩ := c.tab P hP
    refine ⟨⟨ps, e1, q⟩, ?_⟩
    rw [frz_out (fun z => by obtain ⟨_, _, xs, l, m⟩ := z; rw [e1] at l; cases l; cases m)]
    exact f
  · obtain ⟨v, q, r⟩ := e.held i s d a b
    have hi : i ≠ κ.length := fun z => by
      have := (List.getElem?_eq_some_iff.mp a).1
      omega
    refine ⟨v, q, Hold.up (fun b z => ⟨hi, z⟩) (r.keep frz_ex fun b xs s f l _ => ⟨l, ?_⟩)⟩
    rw [frz_out (fun z => hi (e.dis i κ.length b s z.1))]
    exact f
/-- a flat value beside -/
theorem Ok.flat (h : Ok K g κ B F H σ ρ) (hk : k.fl = true) (w : Vw K g F H k d v) : OkN K g κ B F H σ ρ k d v := by
  obtain ⟨c, S, e⟩ := h
  refine ⟨c, fun i b => i ≠ κ.length ∧ S i b, ⟨e.lenR, fun i j b x y => e.dis i j b x.2 y.2, fun i b x => e.mine i b x.2, fun i s d a b => ?_⟩, w.hold hk, fun b z => (z.1 rfl).elim⟩
  obtain ⟨v, q, r⟩ := e.held i s d a b
  have hi : i ≠ κ.length := fun z => by
    have := (List.getElem?_eq_some_iff.mp a).1
    omega
  exact ⟨v, q, Hold.up (fun b z => ⟨hi, z⟩) r⟩
/-- a name is stored -/
theorem OkN.set {i : Nat} {s : Sl} (h : OkN K g κ B F H σ ρ k d v) (hi : κ[i]? = some s) (hs : s.io = false) (hk : s.kd = k) : Ok K g κ B F H (σ.set i (some v)) (ρ.set i (some d)) := by
  obtain ⟨c, S, e, hd, hn⟩ := h
  have hlt := (List.getElem?_eq_some_iff.mp hi).1
  refine ⟨⟨c.ext, c.sub, c.frame, c.fz, c.dom, c.tab, fun j t a b => ?_, c.noio, by rw [List.length_set]; exact c.len⟩, fun j b => if j = i then S κ.length b else j ≠ κ.length ∧ S j b, ⟨by rw [List.length_set]; exact e.lenR, fun j l b x y => ?_, fun j b x => ?_, fun j t d' a b => ?_⟩⟩
  · have : j ≠ i := fun z => by rw [z, hi] at a; cases a; rw [hs] at b; cases b
    rw [List.getElem?_set_ne (Ne.symm this)]
    exact c.pin j t a b
  · by_cases h1 : j = i
    · by_cases h2 : l = i
      · rw [h1, h2]
      · simp only [if_pos h1, if_neg h2] at x y
        exact (y.1 (e.dis κ.length l b x y.2).symm).elim
    · by_cases h2 : l = i
      · simp only [if_neg h1, if_pos h2] at x y
        exact (x.1 (e.dis j κ.length b x.2 y)).elim
      · simp only [if_neg h1, if_neg h2] at x y
        exact e.dis j l b x.2 y.2
  · by_cases h1 : j = i
    · simp only [if_pos h1] at x
      exact .inr (hn b x)
    · simp only [if_neg h1] at x
      exact e.mine j b x.2
  · by_cases h1 : j = i
    · subst h1
      rw [hi] at a; cases a
      rw [List.getElem?_set_self (by rw [e.lenR]; exact hlt)] at b
      cases b
      refine ⟨v, by rw [List.getElem?_set_self (by rw [c.len]; exact hlt)], ?_⟩
      simp only [if_pos]
      rw [hk]; exact hd
    · rw [List.getElem?_set_ne (Ne.symm h1)] at b
      obtain ⟨w, q, r⟩ := e.held j t d' a b
      have hj : j ≠ κ.length := fun z => by
        have := (List.getElem?_eq_some_iff.mp a).1
        omega
      refine ⟨w, by rw [List.getElem?_set_ne (Ne.symm h1)]; exact q, ?_⟩
      simp only [if_neg h1]
      exact Hold.up (fun b z => ⟨hj, z⟩) r
/-- a slot's data is forgotten -/
theorem Ok.drop (h : Ok K g κ B F H σ ρ) (i : Nat) : Ok K g κ B F H σ (ρ.set i none) := by
  obtain ⟨c, S, e⟩ := h
  refine ⟨c, S, ⟨by rw [List.length_set]; exact e.lenR, e.dis, e.mine, fun j s d a b => ?_⟩⟩
  by_cases h1 : j = i
  · subst h1
    have hlt := (List.getElem?_eq_some_iff.mp a).1
    rw [List.getElem?_set_self (by rw [e.lenR]; exact hlt)] at b
    cases b
  · rw [List.getElem?_set_ne (Ne.symm h1)] at b
    exact e.held j s d a b
/-- a slot's own value is taken out of it -/
theorem Ok.take {i : Nat} {s : Sl} (h : Ok K g κ B F H σ ρ) (hi : κ[i]? = some s) (hs : s.io = false) (hr : ρ[i]? = some (some d)) : ∃ v, σ[i]? = some (some v) ∧ OkN K g κ B F H σ (ρ.set i none) s.kd d v := by
  obtain ⟨c, S, e⟩ := h
  have hlt := (List.getElem?_eq_some_iff.mp hi).1
  obtain ⟨v, q, r⟩ := e.held i s d hi hr
  refine ⟨v, q, c, fun j b => if j = κ.length then S i b else j ≠ i ∧ S j b, ⟨by rw [List.length_set]; exact e.lenR, fun j l b x y => ?_, fun j b x => ?_, fun j t d' a b => ?_⟩, by simp only [if_pos]; exact r, fun b z => ?_⟩
  · by_cases h1 : j = κ.length
    · by_cases h2 : l = κ.length
      · rw [h1, h2]
      · simp only [if_pos h1, if_neg h2] at x y
        exact (y.1 (e.dis i l b x y.2).symm).elim
    · by_cases h2 : l = κ.length
      · simp only [if_neg h1, if_pos h2] at x y
        exact (x.1 (e.dis j i b x.2 y)).elim
      · simp only [if_neg h1, if_neg h2] at x y
        exact e.dis j l b x.2 y.2
  · by_cases h1 : j = κ.length
    · simp only [if_pos h1] at x
      exact .inr ((e.mine i b x).resolve_left (c.noio i s b hi hs))
    · simp only [if_neg h1] at x
      exact e.mine j b x.2
  · have hj : j ≠ κ.length := fun z => by
      have := (List.getElem?_eq_some_iff.mp a).1
      omega
    by_cases h1 : j = i
    · subst h1
      rw [List.getElem?_set_self (by rw [e.lenR]; exact hlt)] at b
      cases b
    · rw [List.getElem?_set_ne (Ne.symm h1)] at b
      obtain ⟨w, q, r⟩ := e.held j t d' a b
      refine ⟨w, q, ?_⟩
      simp only [if_neg hj]
      exact Hold.up (fun b z => ⟨h1, z⟩) r
  · simp only [if_pos] at z
    exact (e.mine i b z).resolve_left (c.noio i s b hi hs)
theorem Ok.get {i : Nat} {s : Sl} (h : Ok K g κ B F H σ ρ) (hi : κ[i]? = some s) (hr : ρ[i]? = some (some d)) : ∃ v, σ[i]? = some (some v) ∧ Vw K g F H s.kd d v := by
  obtain ⟨c, S, e⟩ := h
  obtain ⟨v, q, r⟩ := e.held i s d hi hr
  exact ⟨v, q, r.vw⟩
/-- the list in a slot is changed in its place -/
theorem Ok.write {i : Nat} {s : Sl} {ds ds' : List D} (h : Ok K g κ B F H σ ρ) (hi : κ[i]? = some s) (hk : s.kd = .lst k) (hf : k.fl = true) (hr : ρ[i]? = some (some (.lst ds))) :
    ∃ a vs, σ[i]? = some (some (.ref a)) ∧ H a = some (.lst vs) ∧ ds.length = vs.length ∧ (∀ (j : Nat) (x : D) (y : V), ds[j]? = some x → vs[j]? = some y → Vw K g F H k x y) ∧
      ∀ vs', ds'.length = vs'.length → (∀ (j : Nat) (x : D) (y : V), ds'[j]? = some x → vs'[j]? = some y → Vw K g F H k x y) → Ok K g κ B F (L2.upd H a (.lst vs')) σ (ρ.set i (some (.lst ds'))) := by
  obtain ⟨c, S, e⟩ := h
  have hlt := (List.getElem?_eq_some_iff.mp hi).1
  obtain ⟨v, q, r⟩ := e.held i s _ hi hr
  rw [hk] at r
  obtain ⟨a, vs, ds0, e1, e2, sa, fa, ha, hl, T, t1, t2, h3⟩ := r
  cases e1
  subst e2
  have ta := notab c.tab ha
  refine ⟨a, vs, q, ha, hl, fun j x y p p' => (h3 j x y p p').vw, fun vs' hl' hv => ⟨⟨c.ext, fun b o z => ?_, fun b o z n t => ?_, c.fz, fun b z => c.dom b (upd_none' z), fun P hP => ?_, c.pin, c.noio, c.len⟩, S, ⟨by rw [List.length_set]; exact e.lenR, e.dis, e.mine, fun j t d' p p' => ?_⟩⟩⟩
  · have : b ≠ a := fun w => by rw [w, fa] at z; cases z
    rw [upd_ne this]; exact c.sub b o z
  · have : b ≠ a := fun w => by
      rcases e.mine i a sa with m | m
      · exact n i (by rw [w]; exact m)
      · rw [w, m] at z; cases z
    rw [upd_ne this]; exact c.frame b o z n t
  · obtain ⟨⟨ps, e1, w⟩, f⟩ := c.tab P hP
    have : P ≠ a := fun w => ta (w ▸ hP)
    exact ⟨⟨ps, by rw [upd_ne this]; exact e1, w⟩, f⟩
  · by_cases h1 : j = i
    · subst h1
      rw [hi] at p; cases p
      rw [List.getElem?_set_self (by rw [e.lenR]; exact hlt)] at p'
      cases p'
      refine ⟨.ref a, q, ?_⟩
      rw [hk]
      refine Hold.mk hf sa fa upd_same hl' fun i x y p p' => ?_
      have := hv i x y p p'
      cases k with
      | sc => exact this
      | im => exact this
      | lst k => cases hf
      | ins c => cases hf
    · rw [List.getElem?_set_ne (Ne.symm h1)] at p'
      obtain ⟨w, q', r'⟩ := e.held j t d' p p'
      refine ⟨w, q', r'.keep (Ex.refl _) fun b xs sb fb lb _ => ⟨?_, fb⟩⟩
      have : b ≠ a := fun z => h1 (e.dis j i a (z ▸ sb) sa)
      rw [upd_ne this]; exact lb
end
end DL

set_option maxHeartbeats 4000000
/-! DL3: the mirror's monad, what a piece of code does (judgements), expressions. -/
namespace DL
open PySem PySem.Spec PyProof.Rows L2

/-- the mirror of code: from the slots' data to a result and the slots' data -/
abbrev M (α : Type) := Rho → Option (α × Rho)
def ret {α : Type} (a : α) : M α := fun ρ => some (a, ρ)
def bnd {α β : Type} (x : M α) (f : α → M β) : M β := fun ρ => match x ρ with
  | some (a, ρ') => f a ρ'
  | none => none
def lft {α : Type} (o : Option α) : M α := fun ρ => match o with
  | some a => some (a, ρ)
  | none => none
theorem bnd_some {α β : Type} {x : M α} {f : α → M β} {ρ ρ' : Rho} {b : β} (h : bnd x f ρ = some (b, ρ')) : ∃ a ρ1, x ρ = some (a, ρ1) ∧ f a ρ1 = some (b, ρ') := by
  unfold bnd at h
  cases e : x ρ with
  | none => rw [e] at h; cases h
  | some p => obtain ⟨a, ρ1⟩ := p; rw [e] at h; exact ⟨a, ρ1, rfl, h⟩
theorem lft_some {α : Type} {o : Option α} {ρ ρ' : Rho} {b : α} (h : lft o ρ = some (b, ρ')) : o = some b ∧ ρ' = ρ := by
  unfold lft at h
  cases o with
  | none => cases h
  | some a => cases h; exact ⟨rfl, rfl⟩
theorem ret_some {α : Type} {a b : α} {ρ ρ' : Rho} (h : ret a ρ = some (b, ρ')) : a = b ∧ ρ' = ρ := by
  cases h; exact ⟨rfl, rfl⟩

/-- how a statement ends -/
inductive Fl where
  | nx | bk | ct | rt (d : D)

/-! ### the most general readings of a mirror -/
def tOf (K : PySem.W.Frag) (g : Gx) (κ : List Sl) (b : Bool) (k : Kd) (m : M D) : TE := fun σ H Q => ∃ B F ρ d ρ', Ok K g κ B F H σ ρ ∧ m ρ = some (d, ρ') ∧
  ∀ v F' H', Ok K g κ B F' H' σ ρ' → Ex F F' → (b = true → ExT g H H') → Vw K g F' H' k d v → Q v H'
/-- .. of a value of its own -/
def nOf (K : PySem.W.Frag) (g : Gx) (κ : List Sl) (b : Bool) (k : Kd) (m : M D) : TE := fun σ H Q => ∃ B F ρ d ρ', Ok K g κ B F H σ ρ ∧ m ρ = some (d, ρ') ∧
  ∀ v F' H', OkN K g κ B F' H' σ ρ' k d v → Ex F F' → (b = true → ExT g H H') → Q v H'
def ttOf (K : PySem.W.Frag) (g : Gx) (κ : List Sl) (b : Bool) (m : M Bool) : TT := fun σ H Q => ∃ B F ρ d ρ', Ok K g κ B F H σ ρ ∧ m ρ = some (d, ρ') ∧
  ∀ F' H', Ok K g κ B F' H' σ ρ' → Ex F F' → (b = true → ExT g H H') → Q d H'
/-- .. of arguments: flat values -/
def aOf (K : PySem.W.Frag) (g : Gx) (κ : List Sl) (b : Bool) (m : M (List D)) : TA := fun σ H Q => ∃ B F ρ ds ρ', Ok K g κ B F H σ ρ ∧ m ρ = some (ds, ρ') ∧
  ∀ vs F' H', Ok K g κ B F' H' σ ρ' → Ex F F' → (b = true → ExT g H H') → Reps K g F' ds vs → Q vs H'
/-- .. of arguments: scalars -/
def aScOf (K : PySem.W.Frag) (g : Gx) (κ : List Sl) (b : Bool) (m : M (List D)) : TA := fun σ H Q => ∃ B F ρ ds ρ', Ok K g κ B F H σ ρ ∧ m ρ = some (ds, ρ') ∧
  ∀ vs F' H', Ok K g κ B F' H' σ ρ' → Ex F F' → (b = true → ExT g H H') → Reps K g (fun _ => none) ds vs → Q vs H'
def sOf (K : PySem.W.Frag) (g : Gx) (κ : List Sl) (kr : Kd) (m : M Fl) : TS := fun D σ H => ∃ B F ρ f ρ', Ok K g κ B F H σ ρ ∧ m ρ = some (f, ρ') ∧ match f with
  | .nx => ∀ σ' F' H', Ok K g κ B F' H' σ' ρ' → Ex F F' → D.nx σ' H'
  | .bk => ∀ σ' F' H', Ok K g κ B F' H' σ' ρ' → Ex F F' → D.bk σ' H'
  | .ct => ∀ σ' F' H', Ok K g κ B F' H' σ' ρ' → Ex F F' → D.ct σ' H'
  | .rt r => ∀ v σ' F' H', OkN K g κ B F' H' σ' ρ' kr r v → Ex F F' → D.rt v H'
/-- a target: the data is stored (flat data) -/
def gOf (K : PySem.W.Frag) (g : Gx) (κ : List Sl) (m : D → M Unit) : TG := fun v σ H Q => ∃ B F ρ d ρ', Ok K g κ B F H σ ρ ∧ Rep K g F d v ∧ m d ρ = some ((), ρ') ∧
  ∀ σ', Ok K g κ B F H σ' ρ' → Q σ' H

abbrev EX (X : Cx) (g : Gx) (κ : List Sl) (b : Bool) (k : Kd) (e : Expr) (m : M D) : Prop := PE X e (tOf X.K g κ b k m)
abbrev NX (X : Cx) (g : Gx) (κ : List Sl) (b : Bool) (k : Kd) (e : Expr) (m : M D) : Prop := PE X e (nOf X.K g κ b k m)
abbrev TX (X : Cx) (g : Gx) (κ : List Sl) (b : Bool) (e : Expr) (m : M Bool) : Prop := PT X e (ttOf X.K g κ b m)
abbrev AX (X : Cx) (g : Gx) (κ : List Sl) (b : Bool) (es : List Expr) (m : M (List D)) : Prop := PA X es (aOf X.K g κ b m)
abbrev SX (X : Cx) (g : Gx) (κ : List Sl) (kr : Kd) (st : Stmt) (m : M Fl) : Prop := PS X st (sOf X.K g κ kr m)
abbrev BX (X : Cx) (g : Gx) (κ : List Sl) (kr : Kd) (sts : List Stmt) (m : M Fl) : Prop := PSs X sts (sOf X.K g κ kr m)
abbrev GX (X : Cx) (g : Gx) (κ : List Sl) (tg : Expr) (m : D → M Unit) : Prop := PG X tg (gOf X.K g κ m)

section
variable {X : Cx}
theorem PE.weak {e : Expr} {t t' : TE} (h : PE X e t) (w : ∀ σ H Q, t' σ H Q → t σ H Q) : PE X e t' := ⟨fun pins s σ H Q I q => h.run pins s σ H Q I (w σ H Q q)⟩
theorem PT.weak {e : Expr} {t t' : TT} (h : PT X e t) (w : ∀ σ H Q, t' σ H Q → t σ H Q) : PT X e t' := ⟨fun pins s σ H Q I q => h.run pins s σ H Q I (w σ H Q q)⟩
theorem PW.weak {e : Expr} {t t' : TT} (h : PW X e t) (w : ∀ σ H Q, t' σ H Q → t σ H Q) : PW X e t' := ⟨fun wh pins s σ H Q I q => h.run wh pins s σ H Q I (w σ H Q q)⟩
theorem PA.weak {es : List Expr} {t t' : TA} (h : PA X es t) (w : ∀ σ H Q, t' σ H Q → t σ H Q) : PA X es t' := ⟨fun pos pins s σ H Q I q => h.run pos pins s σ H Q I (w σ H Q q)⟩
theorem PS.weak {st : Stmt} {t t' : TS} (h : PS X st t) (w : ∀ D σ H, t' D σ H → t D σ H) : PS X st t' := ⟨fun pins s σ H D I q => h.run pins s σ H D I (w D σ H q)⟩
theorem PSs.weak {st : List Stmt} {t t' : TS} (h : PSs X st t) (w : ∀ D σ H, t' D σ H → t D σ H) : PSs X st t' := ⟨fun pins s σ H D I q => h.run pins s σ H D I (w D σ H q)⟩
theorem PG.weak {e : Expr} {t t' : TG} (h : PG X e t) (w : ∀ v σ H Q, t' v σ H Q → t v σ H Q) : PG X e t' := ⟨fun pins s σ H v u Q I r q => h.run pins s σ H v u Q I r (w v σ H Q q)⟩
end
section
variable {K : PySem.W.Frag} {g : Gx} {F H : Hp}
theorem Vw.sc {k : Kd} {d : D} {v : V} {F' H' : Hp} (hk : k.fl = true) (w : Vw K g F H k d v) (h : (toV d).isSome = true) : Vw K g F' H' .sc d v := by
  have r := w.rep hk
  cases r with
  | sc h => exact h
  | lst _ _ => cases h
  | tup _ _ => cases h
  | obj _ _ => cases h
  | scr _ => cases h
theorem Vw.im {k : Kd} {d : D} {v : V} (hk : k.fl = true) (w : Vw K g F H k d v) : Vw K g F H .im d v := w.rep hk
end
section
variable {X : Cx} {g : Gx} {κ : List Sl} {b b1 b2 b3 : Bool} {k k1 k2 k3 : Kd}

/-! ### from one form to another -/
theorem ex_of_n {e : Expr} {m : M D} (h : NX X g κ b k e m) : EX X g κ b .im e m :=
  PE.weak h fun σ H Q ⟨B, F, ρ, d, ρ', ok, hm, q⟩ => ⟨B, F, ρ, d, ρ', ok, hm, fun v F' H' okn e1 e2 => by
    obtain ⟨F2, x, ok2, r⟩ := okn.freeze
    exact q v F2 H' ok2 (e1.trans x) e2 r⟩
theorem n_of_ex {e : Expr} {m : M D} (h : EX X g κ b k e m) (hk : k.fl = true) : NX X g κ b k e m :=
  PE.weak h fun σ H Q ⟨B, F, ρ, d, ρ', ok, hm, q⟩ => ⟨B, F, ρ, d, ρ', ok, hm, fun v F' H' ok' e1 e2 w => q v F' H' (ok'.flat hk w) e1 e2⟩
theorem ex_im {e : Expr} {m : M D} (h : EX X g κ b k e m) (hk : k.fl = true) : EX X g κ b .im e m :=
  PE.weak h fun σ H Q ⟨B, F, ρ, d, ρ', ok, hm, q⟩ => ⟨B, F, ρ, d, ρ', ok, hm, fun v F' H' ok' e1 e2 w => q v F' H' ok' e1 e2 (w.im hk)⟩
/-- a scalar is told to be one -/
def eSc (m : M D) : M D := bnd m fun d => lft (if (toV d).isSome then some d else none)
theorem ex_sc {e : Expr} {m : M D} (h : EX X g κ b k e m) (hk : k.fl = true) : EX X g κ b .sc e (eSc m) :=
  PE.weak h fun σ H Q ⟨B, F, ρ, d, ρ', ok, hm, q⟩ => by
    obtain ⟨a, ρ1, h1, h2⟩ := bnd_some hm
    obtain ⟨h3, rfl⟩ := lft_some h2
    by_cases hs : (toV a).isSome = true
    · rw [if_pos hs] at h3
      cases h3
      exact ⟨B, F, ρ, _, _, ok, h1, fun v F' H' ok' e1 e2 w => q v F' H' ok' e1 e2 (w.sc hk hs)⟩
    · rw [if_neg hs] at h3
      cases h3
theorem ex_slow {e : Expr} {m : M D} (h : EX X g κ true k e m) : EX X g κ false k e m :=
  PE.weak h fun σ H Q ⟨B, F, ρ, d, ρ', ok, hm, q⟩ => ⟨B, F, ρ, d, ρ', ok, hm, fun v F' H' ok' e1 e2 w => q v F' H' ok' e1 (fun z => by cases z) w⟩

/-! ### names, constants -/
def eVar (i : Nat) : M D := fun ρ => match ρ[i]? with
  | some (some d) => some (d, ρ)
  | _ => none
theorem eVar_some {i : Nat} {ρ ρ' : Rho} {d : D} (h : eVar i ρ = some (d, ρ')) : ρ[i]? = some (some d) ∧ ρ' = ρ := by
  unfold eVar at h
  split at h
  · rename_i x e
    cases h
    exact ⟨e, rfl⟩
  · cases h
theorem ex_var {e : Expr} {i : Nat} {s : Sl} (h : PE X e (tVar i)) (hi : κ[i]? = some s) : EX X g κ true s.kd e (eVar i) :=
  PE.weak h fun σ H Q ⟨B, F, ρ, d, ρ', ok, hm, q⟩ => by
    obtain ⟨hr, rfl⟩ := eVar_some hm
    obtain ⟨v, hv, w⟩ := ok.get hi hr
    exact ⟨v, hv, q v F H ok (Ex.refl F) (fun _ => ExT.refl g H) w⟩
/-- a name's own value, taken out of it -/
def eTake (i : Nat) : M D := fun ρ => match ρ[i]? with
  | some (some d) => some (d, ρ.set i none)
  | _ => none
theorem nx_take {e : Expr} {i : Nat} {s : Sl} (h : PE X e (tVar i)) (hi : κ[i]? = some s) (hs : s.io = false) : NX X g κ true s.kd e (eTake i) :=
  PE.weak h fun σ H Q ⟨B, F, ρ, d, ρ', ok, hm, q⟩ => by
    have : ρ[i]? = some (some d) ∧ ρ' = ρ.set i none := by
      unfold eTake at hm
      split at hm
      · rename_i x e
        cases hm
        exact ⟨e, rfl⟩
      · cases hm
    obtain ⟨hr, rfl⟩ := this
    obtain ⟨v, hv, w⟩ := ok.take hi hs hr
    exact ⟨v, hv, q v F H w (Ex.refl F) (fun _ => ExT.refl g H)⟩
def eC (d : D) : M D := ret d
theorem ex_c {e : Expr} {d : D} {v : V} (h : PE X e (tC v)) (hd : toV d = some v) : EX X g κ true .sc e (eC d) :=
  PE.weak h fun σ H Q ⟨B, F, ρ, d', ρ', ok, hm, q⟩ => by
    obtain ⟨rfl, rfl⟩ := ret_some hm
    exact q v F H ok (Ex.refl F) (fun _ => ExT.refl g H) hd
theorem ex_int {i : Int} {j pos} : EX X g κ true .sc (.Constant (.int i) j pos) (eC (.int i)) := ex_c pe_int rfl
theorem ex_bl {i : Bool} {j pos} : EX X g κ true .sc (.Constant (.bool i) j pos) (eC (.bl i)) := ex_c pe_bl rfl
theorem ex_non {j pos} : EX X g κ true .sc (.Constant .none j pos) (eC .non) := ex_c pe_non rfl
theorem ex_str {x : Str} {j pos} : EX X g κ true .sc (.Constant (.str x) j pos) (eC (.str x)) := ex_c pe_str rfl

/-! ### operators -/
def eOp1 (f : D → Option D) (a : M D) : M D := bnd a fun x => lft (f x)
def eOp2 (f : D → D → Option D) (a c : M D) : M D := bnd a fun x => bnd c fun y => lft (f x y)
/-- an operator on data that makes a scalar -/
def ScOp (K : PySem.W.Frag) (g : Gx) (f : D → D → Option D) (r : R2) : Prop := ∀ (F H : Hp) (x y d : D) (v w : V) (Q : VK), Rep K g F x v → Rep K g F y w → Ex F H → f x y = some d → (∀ z, toV d = some z → Q z H) → r v w H Q
theorem ScOp.or {K : PySem.W.Frag} {f f' : D → D → Option D} {r r' : R2} (h : ScOp K g f r) (h' : ScOp K g f' r') : ScOp K g (fun x y => (f x y).orElse fun _ => f' x y) (fun x y H Q => r x y H Q ∨ r' x y H Q) := fun F H x y d v w Q a c e hf q => by
  have hf : ((f x y).orElse fun _ => f' x y) = some d := hf
  cases hx : f x y with
  | some z =>
    rw [hx] at hf
    cases hf
    exact .inl (h F H x y _ v w Q a c e hx q)
  | none =>
    rw [hx] at hf
    exact .inr (h' F H x y _ v w Q a c e hf q)
theorem ScOp.any {K : PySem.W.Frag} {f : D → D → Option D} {r : R2} (h : ∀ (F H : Hp) (x y d : D) (v w : V) (Q : VK), Rep K g F x v → Rep K g F y w → f x y = some d → (∀ z, toV d = some z → Q z H) → r v w H Q) : ScOp K g f r :=
  fun F H x y d v w Q a c _ hf q => h F H x y d v w Q a c hf q
/-- two operands, then a scalar -/
theorem two_sc {a c : TE → TE → TE} {ta tc : TE} {r : R2} {f : D → D → Option D} {ma mc : M D} (h1 : k1.fl = true) (h2 : k2.fl = true) (hf : ScOp X.K g f r) {σ : L2.St} {H : Hp} {Q : VK}
    (h : tOf X.K g κ (b1 && b2) .sc (eOp2 f ma mc) σ H Q) : tOp r (tOf X.K g κ b1 k1 ma) (tOf X.K g κ b2 k2 mc) σ H Q := by
  obtain ⟨B, F, ρ, d, ρ', ok, hm, q⟩ := h
  obtain ⟨x, ρ1, hx, hm⟩ := bnd_some hm
  obtain ⟨y, ρ2, hy, hm⟩ := bnd_some hm
  obtain ⟨hz, rfl⟩ := lft_some hm
  refine ⟨B, F, ρ, x, ρ1, ok, hx, fun v F1 H1 ok1 e1 q1 w1 => ⟨B, F1, ρ1, y, _, ok1, hy, fun w F2 H2 ok2 e2 q2 w2 => ?_⟩⟩
  exact hf F2 H2 x y d v w Q ((w1.rep h1).mono e2) (w2.rep h2) ok2.1.sub hz fun z hz => q z F2 H2 ok2 (e1.trans e2) (fun hb => by
    rw [Bool.and_eq_true] at hb
    exact (q1 hb.1).trans (q2 hb.2)) hz
theorem ex_op {op : Operator} {a c : Expr} {r : R2} {f : D → D → Option D} {ma mc : M D} {pos : Pos} (ho : OpR X (binaryOp op) r) (hf : ScOp X.K g f r) (ha : EX X g κ b1 k1 a ma) (hc : EX X g κ b2 k2 c mc) (h1 : k1.fl = true := by rfl) (h2 : k2.fl = true := by rfl) :
    EX X g κ (b1 && b2) .sc (.BinOp a op c pos) (eOp2 f ma mc) := PE.weak (pe_op ho ha hc) fun _ _ _ h => two_sc (a := fun x _ => x) (c := fun x _ => x) (ta := tC .non) (tc := tC .non) h1 h2 hf h
theorem ex_cmp {op : CmpOp} {a c : Expr} {r : R2} {f : D → D → Option D} {ma mc : M D} {pos : Pos} (ho : OpR X (compareOp op) r) (hf : ScOp X.K g f r) (hm : behindInMarks op c = false) (ha : EX X g κ b1 k1 a ma) (hc : EX X g κ b2 k2 c mc) (h1 : k1.fl = true := by rfl) (h2 : k2.fl = true := by rfl) :
    EX X g κ (b1 && b2) .sc (.Compare a [op] [c] pos) (eOp2 f ma mc) := PE.weak (pe_cmpR ho ha hc hm) fun _ _ _ h => two_sc (a := fun x _ => x) (c := fun x _ => x) (ta := tC .non) (tc := tC .non) h1 h2 hf h
/-- a test's bool -/
def asB : D → Option Bool
  | .bl b => some b
  | _ => none
def tB1 (m : M D) : M Bool := bnd m fun d => lft (asB d)
theorem asB_some {d : D} {c : Bool} (h : asB d = some c) : d = .bl c := by
  cases d <;> simp [asB] at h
  rw [h]
theorem tx_cmp {op : CmpOp} {a c : Expr} {r : R2} {f : D → D → Option D} {ma mc : M D} {pos : Pos} (ho : OpR X (compareOp op) r) (hf : ScOp X.K g f r) (hm : behindInMarks op c = false) (ha : EX X g κ b1 k1 a ma) (hc : EX X g κ b2 k2 c mc) (h1 : k1.fl = true := by rfl) (h2 : k2.fl = true := by rfl) :
    TX X g κ (b1 && b2) (.Compare a [op] [c] pos) (tB1 (eOp2 f ma mc)) := PT.weak (pt_cmpR ho ha hc hm) fun σ H Q h => by
  obtain ⟨B, F, ρ, d, ρ', ok, hm, q⟩ := h
  obtain ⟨x, ρ1, hx, hm⟩ := bnd_some hm
  obtain ⟨hb, rfl⟩ := lft_some hm
  refine two_sc (a := fun x _ => x) (c := fun x _ => x) (ta := tC .non) (tc := tC .non) h1 h2 hf ⟨B, F, ρ, x, _, ok, hx, fun v F' H' ok' e1 e2 w => ?_⟩
  have := asB_some hb
  subst this
  exact ⟨d, (Option.some.inj w).symm, q F' H' ok' e1 e2⟩
/-- an expression that is a bool, as a test -/
theorem tx_val {e : Expr} {m : M D} (h : EX X g κ b k e m) (hk : k.fl = true := by rfl) (he : ∀ whole, isTrue e X.env whole = (do let v ← whole; standAt e.pos; holding [v] (truthy v)) := by intro _; rfl) : TX X g κ b e (tB1 m) :=
  PT.weak (pt_val h he) fun σ H Q hh => by
    obtain ⟨B, F, ρ, d, ρ', ok, hm, q⟩ := hh
    obtain ⟨x, ρ1, hx, hm⟩ := bnd_some hm
    obtain ⟨hb, rfl⟩ := lft_some hm
    refine ⟨B, F, ρ, x, _, ok, hx, fun v F' H' ok' e1 e2 w => ?_⟩
    have := asB_some hb
    subst this
    exact ⟨d, (w.rep hk).ofBl, q F' H' ok' e1 e2⟩
/-- truth by the value -/
def truD : D → Option Bool
  | .non => some false
  | .bl b => some b
  | .int i => some (i != 0)
  | .lst ds => some (!ds.isEmpty)
  | .tup ds => some (!ds.isEmpty)
  | .scr ns => some (!ns.isEmpty)
  | _ => none
theorem isEmpty_reps {K : PySem.W.Frag} {F : Hp} {ds : List D} {vs : List V} (h : Reps K g F ds vs) : ds.isEmpty = vs.isEmpty := by cases h <;> rfl
def tTru (m : M D) : M Bool := bnd m fun d => lft (truD d)
theorem tx_truth {e : Expr} {m : M D} (h : EX X g κ b k e m) (he : ∀ whole, isTrue e X.env whole = (do let v ← whole; standAt e.pos; holding [v] (truthy v)) := by intro _; rfl) : TX X g κ b e (tTru m) :=
  PT.weak (pt_truth h he) fun σ H Q hh => by
    obtain ⟨B, F, ρ, d, ρ', ok, hm, q⟩ := hh
    obtain ⟨x, ρ1, hx, hm⟩ := bnd_some hm
    obtain ⟨hb, rfl⟩ := lft_some hm
    refine ⟨B, F, ρ, x, _, ok, hx, fun v F' H' ok' e1 e2 w => ⟨d, ?_, q F' H' ok' e1 e2⟩⟩
    have r : Rep X.K g H' x v := w.inH ok'.1.sub fun _ _ z _ => z
    cases x with
    | non => cases hb; rw [r.ofNon]; rfl
    | bl c => cases hb; rw [r.ofBl]; rfl
    | int i => cases hb; rw [r.ofInt]; rfl
    | str s => cases hb
    | lst ds =>
      cases hb
      obtain ⟨a, vs, rfl, l, rs⟩ := r.ofLst
      exact .inl ⟨vs, SqL.of l, by rw [isEmpty_reps rs]⟩
    | tup ds =>
      cases hb
      obtain ⟨a, vs, rfl, l, rs⟩ := r.ofTup
      exact .inr (.inl ⟨vs, l, by rw [isEmpty_reps rs]⟩)
    | obj c fs => cases hb
    | scr ns =>
      cases hb
      obtain ⟨a, rfl, l⟩ := r.ofScr
      exact .inl ⟨_, l, by cases ns <;> rfl⟩
end
end DL

set_option maxHeartbeats 4000000
/-! DL4: operators on data, chains, and/or/not, tuples, lists, subscripts, built-ins that make scalars. -/
namespace DL
open PySem PySem.Spec PyProof.Rows L2

/-! ### data operators -/
def dInt2 (f : Int → Int → Option D) : D → D → Option D
  | .int i, .int j => f i j
  | _, _ => none
def dAdd : D → D → Option D := dInt2 fun i j => some (.int (i + j))
def dSub : D → D → Option D := dInt2 fun i j => some (.int (i - j))
def dMul : D → D → Option D := dInt2 fun i j => if (-(2 ^ 64) < i ∧ i < 2 ^ 64) ∨ (-(2 ^ 64) < j ∧ j < 2 ^ 64) then some (.int (i * j)) else none
def dMod : D → D → Option D := dInt2 fun i j => if 0 < j then some (.int (i % j)) else none
def dDiv : D → D → Option D := dInt2 fun i j => if 0 < j ∧ j < 1073741824 then some (.int (i / j)) else none
def dPow : D → D → Option D := dInt2 fun i j => if 0 ≤ j ∧ j ≤ 1000000 ∧ i.natAbs < 2 ^ 64 then some (.int (i ^ j.toNat)) else none
def dLt : D → D → Option D := dInt2 fun i j => some (.bl (decide (i < j)))
def dLe : D → D → Option D := dInt2 fun i j => some (.bl (decide (i ≤ j)))
def dGt : D → D → Option D := dInt2 fun i j => some (.bl (decide (j < i)))
def dGe : D → D → Option D := dInt2 fun i j => some (.bl (decide (j ≤ i)))
def dAddS : D → D → Option D
  | .str x, .str y => if x.length + y.length ≤ 100000 then some (.str (x ++ y)) else none
  | _, _ => none
mutual
def toP : D → Option PyData
  | .non => some .none
  | .bl b => some (.bool b)
  | .int i => some (.int i)
  | .str s => some (.str s)
  | .lst ds => (toPs ds).map .list
  | .tup ds => (toPs ds).map .tuple
  | .obj _ _ => none
  | .scr _ => none
def toPs : List D → Option (List PyData)
  | [] => some []
  | d :: ds => match toP d, toPs ds with
    | some p, some ps => some (p :: ps)
    | _, _ => none
end
def dEqB (x y : D) : Option Bool := match toP x, toP y with
  | some p, some q => if SeqAt.shaped p && SeqAt.shaped q then some (PyData.eqv p q) else none
  | _, _ => none
def dEq (x y : D) : Option D := (dEqB x y).map .bl
def dNe (x y : D) : Option D := (dEqB x y).map fun b => .bl (!b)
def isNon : D → Bool
  | .non => true
  | _ => false
def dIsN (x y : D) : Option D := if isNon y then some (.bl (isNon x)) else none
def dNotN (x y : D) : Option D := if isNon y then some (.bl (!isNon x)) else none
/-- a sign in a text -/
def dInS : D → D → Option D
  | .str x, .str y => match x.cps.toList with
    | [c] => some (.bl (decide (c ∈ y.cps.toList)))
    | _ => none
  | _, _ => none
/-- flat data in a list or a tuple -/
def flatD : D → Bool
  | .non => true
  | .bl _ => true
  | .int _ => true
  | .str _ => true
  | _ => false
def itemsD : D → Option (List D)
  | .lst ds => some ds
  | .tup ds => some ds
  | .scr ns => some (ns.map .int)
  | _ => none
def toVs : List D → Option (List V)
  | [] => some []
  | d :: ds => match toV d, toVs ds with
    | some v, some vs => some (v :: vs)
    | _, _ => none
def dInB (x y : D) : Option Bool := match toV x, (itemsD y).bind toVs with
  | some v, some vs => if flatV v && vs.all flatV then some (inV v vs) else none
  | _, _ => none
def dIn (x y : D) : Option D := (dInB x y).map .bl
def dNotIn (x y : D) : Option D := (dInB x y).map fun b => .bl (!b)

section
variable {K : PySem.W.Frag} {g : Gx}
theorem sc_int2 {C : Int → Int → Prop} {h : Int → Int → V} {f : Int → Int → Option D} (hf : ∀ i j d, f i j = some d → C i j ∧ toV d = some (h i j)) : ScOp K g (dInt2 f) (rI C h) := fun F H x y d v w Q a c _ e q => by
  cases x <;> cases y <;> try (cases e)
  rename_i i j
  obtain ⟨h1, h2⟩ := hf i j d e
  exact ⟨i, j, a.ofInt, c.ofInt, h1, q _ h2⟩
theorem sc_int0 {h : Int → Int → V} {f : Int → Int → Option D} (hf : ∀ i j d, f i j = some d → toV d = some (h i j)) : ScOp K g (dInt2 f) (rI0 h) := fun F H x y d v w Q a c _ e q => by
  cases x <;> cases y <;> try (cases e)
  rename_i i j
  exact ⟨i, j, a.ofInt, c.ofInt, q _ (hf i j d e)⟩
theorem sc_add : ScOp K g dAdd (rI0 fun i j => .int (i + j)) := sc_int0 fun i j d e => by cases e; rfl
theorem sc_sub : ScOp K g dSub (rI0 fun i j => .int (i - j)) := sc_int0 fun i j d e => by cases e; rfl
theorem sc_lt : ScOp K g dLt (rI0 fun i j => .bl (decide (i < j))) := sc_int0 fun i j d e => by cases e; rfl
theorem sc_le : ScOp K g dLe (rI0 fun i j => .bl (decide (i ≤ j))) := sc_int0 fun i j d e => by cases e; rfl
theorem sc_gt : ScOp K g dGt (rI0 fun i j => .bl (decide (j < i))) := sc_int0 fun i j d e => by cases e; rfl
theorem sc_ge : ScOp K g dGe (rI0 fun i j => .bl (decide (j ≤ i))) := sc_int0 fun i j d e => by cases e; rfl
theorem sc_mul : ScOp K g dMul (rI CMul fun i j => .int (i * j)) := sc_int2 fun i j d e => by
  split at e
  · rename_i h; cases e; exact ⟨h, rfl⟩
  · cases e
theorem sc_mod : ScOp K g dMod (rI (fun _ j => 0 < j) fun i j => .int (i % j)) := sc_int2 fun i j d e => by
  split at e
  · rename_i h; cases e; exact ⟨h, rfl⟩
  · cases e
theorem sc_div : ScOp K g dDiv (rI CDiv fun i j => .int (i / j)) := sc_int2 fun i j d e => by
  split at e
  · rename_i h; cases e; exact ⟨h, rfl⟩
  · cases e
theorem sc_pow : ScOp K g dPow (rI CPow fun i j => .int (i ^ j.toNat)) := sc_int2 fun i j d e => by
  split at e
  · rename_i h; cases e; exact ⟨h, rfl⟩
  · cases e
theorem sc_addS : ScOp K g dAddS (fun x y H Q => ∃ i j, x = .str i ∧ y = .str j ∧ i.length + j.length ≤ sizeLine ∧ Q (.str (i ++ j)) H) := fun F H x y d v w Q a c _ e q => by
  cases x <;> cases y <;> try (cases e)
  rename_i i j
  have e : (if i.length + j.length ≤ 100000 then some (D.str (i ++ j)) else none) = some d := e
  split at e
  · rename_i h
    cases e
    exact ⟨i, j, a.ofStr, c.ofStr, Nat.le_trans h (by decide), q _ rfl⟩
  · cases e
mutual
theorem dp_of {F H : Hp} (e : Ex F H) : ∀ {d : D} {v : V} {p : PyData}, Rep K g F d v → toP d = some p → Dp K H v p
  | .non, _, _, r, h => by rw [toP] at h; cases h; rw [r.ofNon]; exact .non
  | .bl b, _, _, r, h => by rw [toP] at h; cases h; rw [r.ofBl]; exact .bl b
  | .int i, _, _, r, h => by rw [toP] at h; cases h; rw [r.ofInt]; exact .int i
  | .str s, _, _, r, h => by rw [toP] at h; cases h; rw [r.ofStr]; exact .str s
  | .lst ds, _, _, r, h => by
    rw [toP] at h
    obtain ⟨ps, h1, rfl⟩ := Option.map_eq_some_iff.mp h
    obtain ⟨a, vs, rfl, l, rs⟩ := r.ofLst
    exact .lst (SqL.of (e _ _ l)) (dps_of e rs h1)
  | .tup ds, _, _, r, h => by
    rw [toP] at h
    obtain ⟨ps, h1, rfl⟩ := Option.map_eq_some_iff.mp h
    obtain ⟨a, vs, rfl, l, rs⟩ := r.ofTup
    exact .tup (ex_t e l) (dps_of e rs h1)
  | .obj _ _, _, _, r, h => by rw [toP] at h; cases h
  | .scr _, _, _, r, h => by rw [toP] at h; cases h
theorem dps_of {F H : Hp} (e : Ex F H) : ∀ {ds : List D} {vs : List V} {ps : List PyData}, Reps K g F ds vs → toPs ds = some ps → DpAll K H vs ps
  | [], _, _, r, h => by rw [toPs] at h; cases h; cases r; exact .nil
  | d :: ds, _, _, r, h => by
    rw [toPs] at h
    cases r with
    | cons r1 r2 =>
      cases hp : toP d with
      | none => rw [hp] at h; cases h
      | some p =>
        cases hps : toPs ds with
        | none => rw [hp, hps] at h; cases h
        | some ps =>
          rw [hp, hps] at h
          cases h
          exact .cons (dp_of e r1 hp) (dps_of e r2 hps)
end
theorem dEqB_some {x y : D} {b : Bool} (h : dEqB x y = some b) : ∃ p q, toP x = some p ∧ toP y = some q ∧ SeqAt.shaped p = true ∧ SeqAt.shaped q = true ∧ b = PyData.eqv p q := by
  unfold dEqB at h
  cases hp : toP x with
  | none => rw [hp] at h; cases h
  | some p =>
    cases hq : toP y with
    | none => rw [hp, hq] at h; cases h
    | some q =>
      rw [hp, hq] at h
      have h : (if (SeqAt.shaped p && SeqAt.shaped q) = true then some (PyData.eqv p q) else none) = some b := h
      split at h
      · rename_i hs
        cases h
        obtain ⟨s1, s2⟩ := Bool.and_eq_true_iff.mp hs
        exact ⟨p, q, rfl, rfl, s1, s2, rfl⟩
      · cases h
theorem sc_eq : ScOp K g dEq (rEqD K) := fun F H x y d v w Q a c e h q => by
  obtain ⟨b, hb, rfl⟩ := Option.map_eq_some_iff.mp h
  obtain ⟨p, p', h1, h2, s1, s2, rfl⟩ := dEqB_some hb
  exact ⟨p, p', dp_of e a h1, dp_of e c h2, s1, s2, q _ rfl⟩
theorem sc_ne : ScOp K g dNe (rNeD K) := fun F H x y d v w Q a c e h q => by
  obtain ⟨b, hb, rfl⟩ := Option.map_eq_some_iff.mp h
  obtain ⟨p, p', h1, h2, s1, s2, rfl⟩ := dEqB_some hb
  exact ⟨p, p', dp_of e a h1, dp_of e c h2, s1, s2, q _ rfl⟩
theorem isNon_rep {F : Hp} {d : D} {v : V} (r : Rep K g F d v) : decide (v = V.non) = isNon d := by
  cases d with
  | non => rw [r.ofNon]; rfl
  | bl _ => rw [r.ofBl]; rfl
  | int _ => rw [r.ofInt]; rfl
  | str _ => rw [r.ofStr]; rfl
  | lst _ => obtain ⟨a, vs, rfl, _⟩ := r.ofLst; rfl
  | tup _ => obtain ⟨a, vs, rfl, _⟩ := r.ofTup; rfl
  | obj _ _ => obtain ⟨a, _, vs, rfl, _⟩ := r.ofObj; rfl
  | scr _ => obtain ⟨a, rfl, _⟩ := r.ofScr; rfl
theorem sc_isN : ScOp K g dIsN (fun x y H Q => y = .non ∧ Q (.bl (decide (x = .non))) H) := fun F H x y d v w Q a c e h q => by
  unfold dIsN at h
  split at h
  · rename_i hy
    cases h
    have hw := isNon_rep c
    rw [hy] at hw
    exact ⟨of_decide_eq_true hw, by rw [isNon_rep a]; exact q _ rfl⟩
  · cases h
theorem sc_notN : ScOp K g dNotN (fun x y H Q => y = .non ∧ Q (.bl (!decide (x = .non))) H) := fun F H x y d v w Q a c e h q => by
  unfold dNotN at h
  split at h
  · rename_i hy
    cases h
    have hw := isNon_rep c
    rw [hy] at hw
    exact ⟨of_decide_eq_true hw, by rw [isNon_rep a]; exact q _ rfl⟩
  · cases h
theorem sc_inS : ScOp K g dInS (fun x y H Q => ∃ (c : Nat) (z : Str), x = .str ⟨#[c]⟩ ∧ y = .str z ∧ Q (.bl (decide (c ∈ z.cps.toList))) H) := fun F H x y d v w Q a c e h q => by
  cases x <;> cases y <;> try (cases h)
  rename_i i j
  have h : (match i.cps.toList with | [c] => some (D.bl (decide (c ∈ j.cps.toList))) | _ => none) = some d := h
  split at h
  · rename_i n hn
    cases h
    refine ⟨n, j, ?_, c.ofStr, q _ rfl⟩
    rw [a.ofStr]
    obtain ⟨cps⟩ := i
    obtain ⟨l⟩ := cps
    cases hn
    rfl
  · cases h
theorem toVs_reps {F : Hp} : ∀ {ds : List D} {vs ws : List V}, Reps K g F ds vs → toVs ds = some ws → vs = ws
  | [], _, _, r, h => by cases r; cases h; rfl
  | d :: ds, _, _, r, h => by
    cases r with
    | cons r1 r2 =>
      rw [toVs] at h
      cases hd : toV d with
      | none => rw [hd] at h; cases h
      | some v =>
        cases hs : toVs ds with
        | none => rw [hd, hs] at h; cases h
        | some vs =>
          rw [hd, hs] at h
          cases h
          rw [toVs_reps r2 hs]
          have : ∀ {v'}, Rep K g F d v' → v' = v := fun r => by
            cases r with
            | sc e => rw [hd] at e; exact (Option.some.inj e).symm
            | lst _ _ => cases hd
            | tup _ _ => cases hd
            | obj _ _ => cases hd
            | scr _ => cases hd
          rw [this r1]
theorem toV_rep {F : Hp} {d : D} {v w : V} (r : Rep K g F d v) (h : toV d = some w) : v = w := by
  cases r with
  | sc e => rw [h] at e; exact (Option.some.inj e).symm
  | lst _ _ => cases h
  | tup _ _ => cases h
  | obj _ _ => cases h
  | scr _ => cases h
theorem seq_of {F H : Hp} (e : Ex F H) {d : D} {v : V} {ds : List D} (r : Rep K g F d v) (h : itemsD d = some ds) : ∃ a vs, v = .ref a ∧ (SqL K H a vs ∨ SqT K H a vs) ∧ Reps K g F ds vs := by
  cases d with
  | lst es =>
    cases h
    obtain ⟨a, vs, rfl, l, rs⟩ := r.ofLst
    exact ⟨a, vs, rfl, .inl (SqL.of (e _ _ l)), rs⟩
  | tup es =>
    cases h
    obtain ⟨a, vs, rfl, l, rs⟩ := r.ofTup
    exact ⟨a, vs, rfl, .inr (ex_t e l), rs⟩
  | scr ns =>
    cases h
    obtain ⟨a, rfl, l⟩ := r.ofScr
    exact ⟨a, _, rfl, .inl (ex_l e l), reps_ints ns⟩
  | _ => cases h
theorem dInB_some {F H : Hp} (e : Ex F H) {x y : D} {v w : V} {b : Bool} (a : Rep K g F x v) (c : Rep K g F y w) (h : dInB x y = some b) : ∃ p xs, w = .ref p ∧ (SqL K H p xs ∨ SqT K H p xs) ∧ flatV v = true ∧ xs.all flatV = true ∧ b = inV v xs := by
  unfold dInB at h
  cases hx : toV x with
  | none => rw [hx] at h; cases h
  | some v' =>
    cases hy : (itemsD y).bind toVs with
    | none => rw [hx, hy] at h; cases h
    | some ws =>
      rw [hx, hy] at h
      have h : (if (flatV v' && ws.all flatV) = true then some (inV v' ws) else none) = some b := h
      obtain ⟨ds, h1, h2⟩ := Option.bind_eq_some_iff.mp hy
      obtain ⟨p, vs, rfl, l, rs⟩ := seq_of e c h1
      rw [toVs_reps rs h2] at l
      rw [toV_rep a hx]
      split at h
      · rename_i hs
        obtain ⟨s1, s2⟩ := Bool.and_eq_true_iff.mp hs
        cases h
        exact ⟨p, ws, rfl, l, s1, s2, rfl⟩
      · cases h
theorem sc_in : ScOp K g dIn (rIn K false) := fun F H x y d v w Q a c e h q => by
  obtain ⟨b, hb, rfl⟩ := Option.map_eq_some_iff.mp h
  obtain ⟨p, xs, rfl, l, f1, f2, rfl⟩ := dInB_some e a c hb
  exact ⟨p, xs, rfl, l, f1, f2, q _ rfl⟩
theorem sc_notIn : ScOp K g dNotIn (rIn K true) := fun F H x y d v w Q a c e h q => by
  obtain ⟨b, hb, rfl⟩ := Option.map_eq_some_iff.mp h
  obtain ⟨p, xs, rfl, l, f1, f2, rfl⟩ := dInB_some e a c hb
  exact ⟨p, xs, rfl, l, f1, f2, q _ rfl⟩
end
section
variable {X : Cx} {g : Gx} {κ : List Sl} {b b1 b2 b3 : Bool} {k k1 k2 k3 : Kd} {pos : Pos}
/-! ### the rules, by operator -/
section
variable {a c : Expr} {ma mc : M D} (ha : EX X g κ b1 k1 a ma) (hc : EX X g κ b2 k2 c mc) (h1 : k1.fl = true := by rfl) (h2 : k2.fl = true := by rfl)
include ha hc h1 h2
theorem ex_add : EX X g κ (b1 && b2) .sc (.BinOp a .Add c pos) (eOp2 dAdd ma mc) := ex_op op_add sc_add ha hc h1 h2
theorem ex_addS : EX X g κ (b1 && b2) .sc (.BinOp a .Add c pos) (eOp2 dAddS ma mc) := ex_op op_add_str sc_addS ha hc h1 h2
theorem ex_sub : EX X g κ (b1 && b2) .sc (.BinOp a .Sub c pos) (eOp2 dSub ma mc) := ex_op op_sub sc_sub ha hc h1 h2
theorem ex_mul : EX X g κ (b1 && b2) .sc (.BinOp a .Mult c pos) (eOp2 dMul ma mc) := ex_op op_mul sc_mul ha hc h1 h2
theorem ex_mod : EX X g κ (b1 && b2) .sc (.BinOp a .Mod c pos) (eOp2 dMod ma mc) := ex_op op_mod sc_mod ha hc h1 h2
theorem ex_div : EX X g κ (b1 && b2) .sc (.BinOp a .FloorDiv c pos) (eOp2 dDiv ma mc) := ex_op op_fdiv sc_div ha hc h1 h2
theorem ex_pow : EX X g κ (b1 && b2) .sc (.BinOp a .Pow c pos) (eOp2 dPow ma mc) := ex_op op_pow sc_pow ha hc h1 h2
end
/-- comparison operators: their rule, the data's -/
structure CO (X : Cx) (g : Gx) (op : CmpOp) (r : R2) (f : D → D → Option D) : Prop where
  op : OpR X (compareOp op) r
  sc : ScOp X.K g f r
theorem co_lt : CO X g .Lt (rI0 fun i j => .bl (decide (i < j))) dLt := ⟨op_lt, sc_lt⟩
theorem co_le : CO X g .LtE (rI0 fun i j => .bl (decide (i ≤ j))) dLe := ⟨op_le, sc_le⟩
theorem co_gt : CO X g .Gt (rI0 fun i j => .bl (decide (j < i))) dGt := ⟨op_gt, sc_gt⟩
theorem co_ge : CO X g .GtE (rI0 fun i j => .bl (decide (j ≤ i))) dGe := ⟨op_ge, sc_ge⟩
theorem co_eq (hu : X.A.units + 64 < cLine) : CO X g .Eq (rEqD X.K) dEq := ⟨op_eqD hu, sc_eq⟩
theorem co_ne (hu : X.A.units + 64 < cLine) : CO X g .NotEq (rNeD X.K) dNe := ⟨op_neD hu, sc_ne⟩
theorem co_is : CO X g .Is (fun x y H Q => y = .non ∧ Q (.bl (decide (x = .non))) H) dIsN := ⟨op_isN, sc_isN⟩
theorem co_isn : CO X g .IsNot (fun x y H Q => y = .non ∧ Q (.bl (!decide (x = .non))) H) dNotN := ⟨op_notN, sc_notN⟩
theorem co_in : CO X g .In (rIn X.K false) dIn := ⟨op_in_seq, sc_in⟩
theorem co_nin : CO X g .NotIn (rIn X.K true) dNotIn := ⟨op_notIn_seq, sc_notIn⟩
theorem co_inS : CO X g .In (fun x y H Q => ∃ (c : Nat) (z : Str), x = .str ⟨#[c]⟩ ∧ y = .str z ∧ Q (.bl (decide (c ∈ z.cps.toList))) H) dInS := ⟨op_in_sign, sc_inS⟩
section
variable {op op' : CmpOp} {r r' : R2} {f f' : D → D → Option D} {a c e : Expr} {ma mc me : M D}
theorem ex_cmpC (o : CO X g op r f) (ha : EX X g κ b1 k1 a ma) (hc : EX X g κ b2 k2 c mc) (hm : behindInMarks op c = false := by first | exact nobehind _ (by decide) (by decide) | rfl) (h1 : k1.fl = true := by rfl) (h2 : k2.fl = true := by rfl) :
    EX X g κ (b1 && b2) .sc (.Compare a [op] [c] pos) (eOp2 f ma mc) := ex_cmp o.op o.sc hm ha hc h1 h2
theorem tx_cmpC (o : CO X g op r f) (ha : EX X g κ b1 k1 a ma) (hc : EX X g κ b2 k2 c mc) (hm : behindInMarks op c = false := by first | exact nobehind _ (by decide) (by decide) | rfl) (h1 : k1.fl = true := by rfl) (h2 : k2.fl = true := by rfl) :
    TX X g κ (b1 && b2) (.Compare a [op] [c] pos) (tB1 (eOp2 f ma mc)) := tx_cmp o.op o.sc hm ha hc h1 h2
/-- a op1 b op2 c -/
def eChain (f f' : D → D → Option D) (a c e : M D) : M D := bnd a fun x => bnd c fun y => bnd (lft ((f x y).bind asB)) fun t => if t then bnd e fun z => lft (f' y z) else ret (.bl false)
theorem chain_go (o : CO X g op r f) (o' : CO X g op' r' f') (h1 : k1.fl = true) (h2 : k2.fl = true) (h3 : k3.fl = true) {σ : L2.St} {H : Hp} {Q : VK} (h : tOf X.K g κ (b1 && b2 && b3) .sc (eChain f f' ma mc me) σ H Q) :
    tChain r r' (tOf X.K g κ b1 k1 ma) (tOf X.K g κ b2 k2 mc) (tOf X.K g κ b3 k3 me) σ H Q := by
  obtain ⟨B, F, ρ, d, ρ', ok, hm0, q⟩ := h
  obtain ⟨x, ρ1, hx, hm1⟩ := bnd_some hm0
  obtain ⟨y, ρ2, hy, hm2⟩ := bnd_some hm1
  obtain ⟨t, ρ3, ht0, hm⟩ := bnd_some hm2
  obtain ⟨ht, rfl⟩ := lft_some ht0
  obtain ⟨z, hz, hzt⟩ := Option.bind_eq_some_iff.mp ht
  have := asB_some hzt
  subst this
  refine ⟨B, F, ρ, x, ρ1, ok, hx, fun v F1 H1 ok1 e1 q1 w1 => ⟨B, F1, ρ1, y, _, ok1, hy, fun w F2 H2 ok2 e2 q2 w2 => ?_⟩⟩
  refine o.sc F2 H2 x y _ v w _ ((w1.rep h1).mono e2) (w2.rep h2) ok2.1.sub hz fun u hu => ?_
  cases hu
  refine ⟨t, rfl, ?_⟩
  cases t with
  | false =>
    rw [if_neg Bool.false_ne_true]
    obtain ⟨e, rfl⟩ := ret_some hm
    subst e
    exact q _ F2 H2 ok2 (e1.trans e2) (fun hb => by
      rw [Bool.and_eq_true, Bool.and_eq_true] at hb
      exact (q1 hb.1.1).trans (q2 hb.1.2)) rfl
  | true =>
    rw [if_pos rfl]
    obtain ⟨z, ρ4, hz', hm3⟩ := bnd_some hm
    obtain ⟨hm4, rfl⟩ := lft_some hm3
    refine ⟨B, F2, _, z, _, ok2, hz', fun u F3 H3 ok3 e3 q3 w3 => ?_⟩
    exact o'.sc F3 H3 y z _ w u _ ((w2.rep h2).mono e3) (w3.rep h3) ok3.1.sub hm4 fun t ht => q t F3 H3 ok3 ((e1.trans e2).trans e3) (fun hb => by
      rw [Bool.and_eq_true, Bool.and_eq_true] at hb
      exact ((q1 hb.1.1).trans (q2 hb.1.2)).trans (q3 hb.2)) ht
theorem ex_chain (o : CO X g op r f) (o' : CO X g op' r' f') (ha : EX X g κ b1 k1 a ma) (hc : EX X g κ b2 k2 c mc) (he : EX X g κ b3 k3 e me) (hm : lastMarks [op, op'] [c, e] = false := by with_unfolding_all rfl) (h1 : k1.fl = true := by rfl) (h2 : k2.fl = true := by rfl) (h3 : k3.fl = true := by rfl) :
    EX X g κ (b1 && b2 && b3) .sc (.Compare a [op, op'] [c, e] pos) (eChain f f' ma mc me) := PE.weak (pe_chain o.op o'.op ha hc he hm) fun _ _ _ h => chain_go o o' h1 h2 h3 h
theorem tx_chain (o : CO X g op r f) (o' : CO X g op' r' f') (ha : EX X g κ b1 k1 a ma) (hc : EX X g κ b2 k2 c mc) (he : EX X g κ b3 k3 e me) (hm : lastMarks [op, op'] [c, e] = false := by with_unfolding_all rfl) (h1 : k1.fl = true := by rfl) (h2 : k2.fl = true := by rfl) (h3 : k3.fl = true := by rfl) :
    TX X g κ (b1 && b2 && b3) (.Compare a [op, op'] [c, e] pos) (tB1 (eChain f f' ma mc me)) := PT.weak (pt_chain o.op o'.op ha hc he hm) fun σ H Q h => by
  obtain ⟨B, F, ρ, d, ρ', ok, hm, q⟩ := h
  obtain ⟨x, ρ1, hx, hm⟩ := bnd_some hm
  obtain ⟨hb, rfl⟩ := lft_some hm
  refine chain_go o o' h1 h2 h3 ⟨B, F, ρ, x, _, ok, hx, fun v F' H' ok' e1 e2 w => ?_⟩
  have := asB_some hb
  subst this
  exact ⟨d, (Option.some.inj w).symm, q F' H' ok' e1 e2⟩
end
/-! ### and, or, not, if else -/
section
variable {a c : Expr} {ta tc : M Bool} {rest : List Expr}
abbrev WX (X : Cx) (g : Gx) (κ : List Sl) (b : Bool) (e : Expr) (m : M Bool) : Prop := PW X e (ttOf X.K g κ b m)
def tAndM (a c : M Bool) : M Bool := bnd a fun x => if x then c else ret false
def tOrM (a c : M Bool) : M Bool := bnd a fun x => if x then ret true else c
def tNotM (a : M Bool) : M Bool := bnd a fun x => ret (!x)
theorem wx_and1 (h : TX X g κ b a ta) : WX X g κ b (.BoolOp .And [a] pos) ta := pw_and1 h
theorem wx_or1 (h : TX X g κ b a ta) : WX X g κ b (.BoolOp .Or [a] pos) ta := pw_or1 h
theorem wx_and (ha : TX X g κ b1 a ta) (hc : WX X g κ b2 (.BoolOp .And (c :: rest) pos) tc) : WX X g κ (b1 && b2) (.BoolOp .And (a :: c :: rest) pos) (tAndM ta tc) :=
  PW.weak (pw_and ha hc) fun σ H Q h => by
    obtain ⟨B, F, ρ, d, ρ', ok, hm, q⟩ := h
    obtain ⟨x, ρ1, hx, hm⟩ := bnd_some hm
    refine ⟨B, F, ρ, x, ρ1, ok, hx, fun F1 H1 ok1 e1 q1 => ?_⟩
    cases x with
    | true =>
      rw [if_pos rfl]
      exact ⟨B, F1, ρ1, d, ρ', ok1, hm, fun F2 H2 ok2 e2 q2 => q F2 H2 ok2 (e1.trans e2) fun hb => by
        rw [Bool.and_eq_true] at hb
        exact (q1 hb.1).trans (q2 hb.2)⟩
    | false =>
      rw [if_neg Bool.false_ne_true]
      obtain ⟨e, rfl⟩ := ret_some hm
      subst e
      exact q F1 H1 ok1 e1 fun hb => by
        rw [Bool.and_eq_true] at hb
        exact q1 hb.1
theorem wx_or (ha : TX X g κ b1 a ta) (hc : WX X g κ b2 (.BoolOp .Or (c :: rest) pos) tc) : WX X g κ (b1 && b2) (.BoolOp .Or (a :: c :: rest) pos) (tOrM ta tc) :=
  PW.weak (pw_or ha hc) fun σ H Q h => by
    obtain ⟨B, F, ρ, d, ρ', ok, hm, q⟩ := h
    obtain ⟨x, ρ1, hx, hm⟩ := bnd_some hm
    refine ⟨B, F, ρ, x, ρ1, ok, hx, fun F1 H1 ok1 e1 q1 => ?_⟩
    cases x with
    | false =>
      rw [if_neg Bool.false_ne_true]
      exact ⟨B, F1, ρ1, d, ρ', ok1, hm, fun F2 H2 ok2 e2 q2 => q F2 H2 ok2 (e1.trans e2) fun hb => by
        rw [Bool.and_eq_true] at hb
        exact (q1 hb.1).trans (q2 hb.2)⟩
    | true =>
      rw [if_pos rfl]
      obtain ⟨e, rfl⟩ := ret_some hm
      subst e
      exact q F1 H1 ok1 e1 fun hb => by
        rw [Bool.and_eq_true] at hb
        exact q1 hb.1
theorem tx_w (h : WX X g κ b a ta) : TX X g κ b a ta := PW.pt h
theorem tx_not (h : TX X g κ b a ta) : TX X g κ b (.UnaryOp .Not a pos) (tNotM ta) :=
  PT.weak (pt_not h) fun σ H Q hh => by
    obtain ⟨B, F, ρ, d, ρ', ok, hm, q⟩ := hh
    obtain ⟨x, ρ1, hx, hm⟩ := bnd_some hm
    obtain ⟨e, rfl⟩ := ret_some hm
    subst e
    exact ⟨B, F, ρ, x, _, ok, hx, q⟩
end
section
variable {a c t : Expr} {ma mc : M D} {mt : M Bool} {rest : List Expr}
/-- as values (bools) -/
def eAndM (a c : M D) : M D := bnd (tB1 a) fun x => if x then c else ret (.bl false)
def eOrM (a c : M D) : M D := bnd (tB1 a) fun x => if x then ret (.bl true) else c
def eNotM (a : M D) : M D := bnd (tB1 a) fun x => ret (.bl (!x))
theorem ex_one {op} (h : EX X g κ b k a ma) : EX X g κ b k (.BoolOp op [a] pos) ma := pe_one h
theorem tB1_some {m : M D} {ρ ρ' : Rho} {c : Bool} (h : tB1 m ρ = some (c, ρ')) : m ρ = some (.bl c, ρ') := by
  obtain ⟨x, ρ1, hx, hm⟩ := bnd_some h
  obtain ⟨hb, rfl⟩ := lft_some hm
  rw [asB_some hb] at hx
  exact hx
theorem ex_and (ha : EX X g κ b1 k1 a ma) (hc : EX X g κ b2 .sc (.BoolOp .And (c :: rest) pos) mc) (h1 : k1.fl = true := by rfl) : EX X g κ (b1 && b2) .sc (.BoolOp .And (a :: c :: rest) pos) (eAndM ma mc) :=
  PE.weak (pe_and ha hc) fun σ H Q h => by
    obtain ⟨B, F, ρ, d, ρ', ok, hm, q⟩ := h
    obtain ⟨x, ρ1, hx, hm⟩ := bnd_some hm
    refine ⟨B, F, ρ, .bl x, ρ1, ok, tB1_some hx, fun v F1 H1 ok1 e1 q1 w1 => ⟨x, (w1.rep h1).ofBl, ?_⟩⟩
    cases x with
    | true =>
      rw [if_pos rfl]
      exact ⟨B, F1, ρ1, d, ρ', ok1, hm, fun v F2 H2 ok2 e2 q2 w2 => q v F2 H2 ok2 (e1.trans e2) (fun hb => by
        rw [Bool.and_eq_true] at hb
        exact (q1 hb.1).trans (q2 hb.2)) w2⟩
    | false =>
      rw [if_neg Bool.false_ne_true]
      obtain ⟨e, rfl⟩ := ret_some hm
      subst e
      exact q _ F1 H1 ok1 e1 (fun hb => by
        rw [Bool.and_eq_true] at hb
        exact q1 hb.1) rfl
theorem ex_or (ha : EX X g κ b1 k1 a ma) (hc : EX X g κ b2 .sc (.BoolOp .Or (c :: rest) pos) mc) (h1 : k1.fl = true := by rfl) : EX X g κ (b1 && b2) .sc (.BoolOp .Or (a :: c :: rest) pos) (eOrM ma mc) :=
  PE.weak (pe_or ha hc) fun σ H Q h => by
    obtain ⟨B, F, ρ, d, ρ', ok, hm, q⟩ := h
    obtain ⟨x, ρ1, hx, hm⟩ := bnd_some hm
    refine ⟨B, F, ρ, .bl x, ρ1, ok, tB1_some hx, fun v F1 H1 ok1 e1 q1 w1 => ⟨x, (w1.rep h1).ofBl, ?_⟩⟩
    cases x with
    | false =>
      rw [if_neg Bool.false_ne_true]
      exact ⟨B, F1, ρ1, d, ρ', ok1, hm, fun v F2 H2 ok2 e2 q2 w2 => q v F2 H2 ok2 (e1.trans e2) (fun hb => by
        rw [Bool.and_eq_true] at hb
        exact (q1 hb.1).trans (q2 hb.2)) w2⟩
    | true =>
      rw [if_pos rfl]
      obtain ⟨e, rfl⟩ := ret_some hm
      subst e
      exact q _ F1 H1 ok1 e1 (fun hb => by
        rw [Bool.and_eq_true] at hb
        exact q1 hb.1) rfl
theorem ex_not (h : EX X g κ b k a ma) (h1 : k.fl = true := by rfl) : EX X g κ b .sc (.UnaryOp .Not a pos) (eNotM ma) :=
  PE.weak (pe_not h) fun σ H Q hh => by
    obtain ⟨B, F, ρ, d, ρ', ok, hm, q⟩ := hh
    obtain ⟨x, ρ1, hx, hm⟩ := bnd_some hm
    obtain ⟨e, rfl⟩ := ret_some hm
    subst e
    exact ⟨B, F, ρ, .bl x, _, ok, tB1_some hx, fun v F1 H1 ok1 e1 q1 w1 => ⟨x, (w1.rep h1).ofBl, q _ F1 H1 ok1 e1 q1 rfl⟩⟩
def eIfM (t : M Bool) (a c : M D) : M D := bnd t fun x => if x then a else c
theorem ex_if (ht : TX X g κ b1 t mt) (ha : EX X g κ b2 k a ma) (hc : EX X g κ b3 k c mc) : EX X g κ (b1 && b2 && b3) k (.IfExp t a c pos) (eIfM mt ma mc) :=
  PE.weak (pe_ifExp ht ha hc) fun σ H Q h => by
    obtain ⟨B, F, ρ, d, ρ', ok, hm, q⟩ := h
    obtain ⟨x, ρ1, hx, hm⟩ := bnd_some hm
    refine ⟨B, F, ρ, x, ρ1, ok, hx, fun F1 H1 ok1 e1 q1 => ?_⟩
    cases x with
    | true =>
      rw [if_pos rfl]
      exact ⟨B, F1, ρ1, d, ρ', ok1, hm, fun v F2 H2 ok2 e2 q2 w2 => q v F2 H2 ok2 (e1.trans e2) (fun hb => by
        rw [Bool.and_eq_true, Bool.and_eq_true] at hb
        exact (q1 hb.1.1).trans (q2 hb.1.2)) w2⟩
    | false =>
      rw [if_neg Bool.false_ne_true]
      exact ⟨B, F1, ρ1, d, ρ', ok1, hm, fun v F2 H2 ok2 e2 q2 w2 => q v F2 H2 ok2 (e1.trans e2) (fun hb => by
        rw [Bool.and_eq_true, Bool.and_eq_true] at hb
        exact (q1 hb.1.1).trans (q2 hb.2)) w2⟩
end
end
end DL

set_option maxHeartbeats 4000000
/-! DL5: arguments, tuples, lists, subscripts, built-ins, fields. -/
namespace DL
open PySem PySem.Spec PyProof.Rows L2

section
variable {X : Cx} {g : Gx} {κ : List Sl} {b b1 b2 b3 : Bool} {k k1 k2 k3 : Kd} {pos : Pos}
/-! ### arguments -/
structure AL (X : Cx) (g : Gx) (κ : List Sl) (b : Bool) (es : List Expr) (m : M (List D)) : Prop where
  pa : AX X g κ b es m
  ln : ∀ ρ ds ρ', m ρ = some (ds, ρ') → ds.length = es.length
def aNil : M (List D) := ret []
def aCons (a : M D) (r : M (List D)) : M (List D) := bnd a fun x => bnd r fun xs => ret (x :: xs)
theorem ax_nil : AL X g κ true [] aNil where
  pa := PA.weak pa_nil fun σ H Q ⟨B, F, ρ, ds, ρ', ok, hm, q⟩ => by
    obtain ⟨rfl, rfl⟩ := ret_some hm
    exact q [] F H ok (Ex.refl F) (fun _ => ExT.refl g H) .nil
  ln := fun ρ ds ρ' h => by obtain ⟨rfl, rfl⟩ := ret_some h; rfl
theorem ax_cons {e : Expr} {es : List Expr} {m : M D} {r : M (List D)} (h : EX X g κ b1 k e m) (hr : AL X g κ b2 es r) (hk : k.fl = true := by rfl) (hs : starEach (e :: es) X.env = (false, eval e X.env) :: starEach es X.env := by rfl) : AL X g κ (b1 && b2) (e :: es) (aCons m r) where
  pa := PA.weak (pa_cons h hr.pa hs) fun σ H Q ⟨B, F, ρ, ds, ρ', ok, hm, q⟩ => by
    obtain ⟨x, ρ1, hx, hm1⟩ := bnd_some hm
    obtain ⟨xs, ρ2, hxs, hm2⟩ := bnd_some hm1
    obtain ⟨rfl, rfl⟩ := ret_some hm2
    exact ⟨B, F, ρ, x, ρ1, ok, hx, fun v F1 H1 ok1 e1 q1 w1 => ⟨B, F1, ρ1, xs, _, ok1, hxs, fun vs F2 H2 ok2 e2 q2 w2 => q (v :: vs) F2 H2 ok2 (e1.trans e2) (fun hb => by
      rw [Bool.and_eq_true] at hb
      exact (q1 hb.1).trans (q2 hb.2)) (.cons ((w1.rep hk).mono e2) w2)⟩⟩
  ln := fun ρ ds ρ' hm => by
    obtain ⟨x, ρ1, hx, hm1⟩ := bnd_some hm
    obtain ⟨xs, ρ2, hxs, hm2⟩ := bnd_some hm1
    obtain ⟨rfl, rfl⟩ := ret_some hm2
    rw [List.length_cons, List.length_cons, hr.ln _ _ _ hxs]

/-! ### displays -/
def eTup (a : M (List D)) : M D := bnd a fun ds => ret (.tup ds)
theorem ex_tup {es : List Expr} {a : M (List D)} {x1} (h : AL X g κ b es a) (hl : es.length ≤ 1000 := by decide) : EX X g κ b .im (.Tuple es x1 pos) (eTup a) :=
  PE.weak (pe_tup h.pa) fun σ H Q ⟨B, F, ρ, d, ρ', ok, hm, q⟩ => by
    obtain ⟨ds, ρ1, hx, hm1⟩ := bnd_some hm
    obtain ⟨rfl, rfl⟩ := ret_some hm1
    have hn := h.ln _ _ _ hx
    refine ⟨B, F, ρ, ds, _, ok, hx, fun vs F1 H1 ok1 e1 q1 w1 => ⟨?_, fun p hp => ?_⟩⟩
    · rw [← w1.length, hn]
      exact Nat.le_trans hl (by decide)
    · have fp := ok1.fnone hp
      exact q (.ref p) _ _ (ok1.newF (o := .tup vs) hp) (e1.trans (.new fp)) (fun hb => (q1 hb).trans (Ex.toT (.new hp))) (.tup (.inl (.inl upd_same)) (w1.mono (.new fp)))
/-- data of a kind of item -/
def okK : Kd → D → Bool
  | .sc, d => (toV d).isSome
  | .im, _ => true
  | .lst _, _ => false
  | .ins _, _ => false
theorem vw_okK {K : PySem.W.Frag} {F H F' H' : Hp} {d : D} {v : V} (r : Rep K g F d v) (h : okK k d = true) (e : Ex F F') : Vw K g F' H' k d v := by
  cases k with
  | sc =>
    cases q : toV d with
    | none => rw [okK, q] at h; cases h
    | some w => show toV d = some v; rw [q, toV_rep r q]
  | im => exact r.mono e
  | lst k => cases h
  | ins c => cases h
theorem vws_okK {K : PySem.W.Frag} {F H F' H' : Hp} {ds : List D} {vs : List V} (r : Reps K g F ds vs) (h : ds.all (okK k) = true) (e : Ex F F') : ∀ (i : Nat) (x : D) (y : V), ds[i]? = some x → vs[i]? = some y → Vw K g F' H' k x y := fun i x y a c => by
  obtain ⟨y', h1, h2⟩ := r.get a
  rw [c] at h1
  cases h1
  exact vw_okK (H := H) h2 (List.all_eq_true.mp h x (List.mem_of_getElem? a)) e
def mkL (k : Kd) (ds : List D) : Option D := if ds.all (okK k) then some (.lst ds) else none
theorem mkL_some {ds : List D} {d : D} (h : mkL k ds = some d) : d = .lst ds ∧ ds.all (okK k) = true := by
  unfold mkL at h
  split at h
  · rename_i h'; cases h; exact ⟨rfl, h'⟩
  · cases h
def eLst (k : Kd) (a : M (List D)) : M D := bnd a fun ds => lft (mkL k ds)
theorem nx_lst {es : List Expr} {a : M (List D)} (k : Kd) (h : AL X g κ b es a) (hk : k.fl = true := by rfl) (hl : es.length ≤ 1000 := by decide) : NX X g κ b (.lst k) (.List es pos) (eLst k a) :=
  PE.weak (pe_lst h.pa) fun σ H Q ⟨B, F, ρ, d, ρ', ok, hm, q⟩ => by
    obtain ⟨ds, ρ1, hx, hm1⟩ := bnd_some hm
    obtain ⟨hm2, rfl⟩ := lft_some hm1
    obtain ⟨rfl, ha⟩ := mkL_some hm2
    have hn := h.ln _ _ _ hx
    refine ⟨B, F, ρ, ds, _, ok, hx, fun vs F1 H1 ok1 e1 q1 w1 => ⟨?_, fun p hp => ?_⟩⟩
    · rw [← w1.length, hn]
      exact Nat.le_trans hl (by decide)
    · exact q (.ref p) _ _ (ok1.newL hp hk w1.length (vws_okK (H := H1) w1 ha (Ex.refl _))) e1 (fun hb => (q1 hb).trans (Ex.toT (.new hp)))

/-! ### subscripts -/
def dIx : D → D → Option D
  | .lst ds, .int i => atI ds i
  | .tup ds, .int i => atI ds i
  | .scr ns, .int i => (atI ns i).map .int
  | .str s, .int i => if s.length ≤ 100000 then (atI s.cps.toList i).map fun c => .str ⟨#[c]⟩ else none
  | _, _ => none
theorem atI_reps {K : PySem.W.Frag} {F : Hp} {ds : List D} {vs : List V} {i : Int} {d : D} (r : Reps K g F ds vs) (h : atI ds i = some d) : ∃ v, atI vs i = some v ∧ Rep K g F d v := by
  unfold atI at h ⊢
  rw [← r.length]
  obtain ⟨j, h1, h2⟩ := Option.bind_eq_some_iff.mp h
  obtain ⟨v, h3, h4⟩ := r.get h2
  exact ⟨v, by rw [h1]; exact h3, h4⟩
theorem atI_map {α β : Type} (f : α → β) {xs : List α} {i : Int} {x : α} (h : atI xs i = some x) : atI (xs.map f) i = some (f x) := by
  unfold atI at h ⊢
  rw [List.length_map]
  obtain ⟨j, h1, h2⟩ := Option.bind_eq_some_iff.mp h
  rw [h1]
  show (xs.map f)[j]? = some (f x)
  rw [List.getElem?_map, h2]; rfl
theorem sc_ix {K : PySem.W.Frag} {F H : Hp} {x y d : D} {v w : V} {Q : VK} (a : Rep K g F x v) (c : Rep K g F y w) (e : Ex F H) (h : dIx x y = some d) (q : ∀ z, Rep K g F d z → Q z H) : rIx K v w H Q := by
  cases x <;> cases y <;> try (cases h)
  · rename_i s i
    have h : (if s.length ≤ 100000 then (atI s.cps.toList i).map fun c => D.str ⟨#[c]⟩ else none) = some d := h
    split at h
    · rename_i hl
      obtain ⟨n, hn, rfl⟩ := Option.map_eq_some_iff.mp h
      exact .inr (.inr ⟨s, i, n, a.ofStr, c.ofInt, Nat.le_trans hl (by decide), hn, q _ (.sc rfl)⟩)
    · cases h
  · rename_i ds i
    obtain ⟨p, vs, rfl, l, rs⟩ := a.ofLst
    obtain ⟨u, h1, h2⟩ := atI_reps rs (show atI ds i = some d from h)
    exact .inl ⟨p, vs, i, u, rfl, c.ofInt, SqL.of (e _ _ l), h1, q _ h2⟩
  · rename_i ds i
    obtain ⟨p, vs, rfl, l, rs⟩ := a.ofTup
    obtain ⟨u, h1, h2⟩ := atI_reps rs (show atI ds i = some d from h)
    exact .inr (.inl ⟨p, vs, i, u, rfl, c.ofInt, ex_t e l, h1, q _ h2⟩)
  · rename_i ns i
    obtain ⟨p, rfl, l⟩ := a.ofScr
    obtain ⟨n, hn, rfl⟩ := Option.map_eq_some_iff.mp (show (atI ns i).map D.int = some d from h)
    exact .inl ⟨p, _, i, _, rfl, c.ofInt, ex_l e l, atI_map V.int hn, q _ (.sc rfl)⟩
theorem ex_ix {a c : Expr} {ma mc : M D} (ha : EX X g κ b1 k1 a ma) (hc : EX X g κ b2 k2 c mc) (hs : PlainIx c := by intro _ _; rfl) (h1 : k1.fl = true := by rfl) (h2 : k2.fl = true := by rfl) :
    EX X g κ (b1 && b2) .im (.Subscript a c pos) (eOp2 dIx ma mc) := PE.weak (pe_ix ix_seq ha hc hs) fun σ H Q h => by
  obtain ⟨B, F, ρ, d, ρ', ok, hm, q⟩ := h
  obtain ⟨x, ρ1, hx, hm1⟩ := bnd_some hm
  obtain ⟨y, ρ2, hy, hm2⟩ := bnd_some hm1
  obtain ⟨hz, rfl⟩ := lft_some hm2
  refine ⟨B, F, ρ, x, ρ1, ok, hx, fun v F1 H1 ok1 e1 q1 w1 => ⟨B, F1, ρ1, y, _, ok1, hy, fun w F2 H2 ok2 e2 q2 w2 => ?_⟩⟩
  exact sc_ix ((w1.rep h1).mono e2) (w2.rep h2) ok2.1.sub hz fun z r => q z F2 H2 ok2 (e1.trans e2) (fun hb => by
    rw [Bool.and_eq_true] at hb
    exact (q1 hb.1).trans (q2 hb.2)) r
/-- an item of an owned list -/
def dIxO : D → D → Option D
  | .lst ds, .int i => atI ds i
  | _, _ => none
theorem ex_ixO {a c : Expr} {ma mc : M D} (ha : EX X g κ b1 (.lst k) a ma) (hc : EX X g κ true k2 c mc) (hs : PlainIx c := by intro _ _; rfl) (h2 : k2.fl = true := by rfl) :
    EX X g κ b1 k (.Subscript a c pos) (eOp2 dIxO ma mc) := PE.weak (pe_ix ix_list ha hc hs) fun σ H Q h => by
  obtain ⟨B, F, ρ, d, ρ', ok, hm, q⟩ := h
  obtain ⟨x, ρ1, hx, hm1⟩ := bnd_some hm
  obtain ⟨y, ρ2, hy, hm2⟩ := bnd_some hm1
  obtain ⟨hz, rfl⟩ := lft_some hm2
  refine ⟨B, F, ρ, x, ρ1, ok, hx, fun v F1 H1 ok1 e1 q1 w1 => ⟨B, F1, ρ1, y, _, ok1, hy, fun w F2 H2 ok2 e2 q2 w2 => ?_⟩⟩
  have st := (q2 rfl).mut ok1.1.tab
  obtain ⟨p, vs, ds, rfl, rfl, l, hl, it⟩ := w1
  cases y <;> try (cases hz)
  rename_i i
  have hz : atI ds i = some d := hz
  unfold atI at hz
  obtain ⟨j, hj1, hj2⟩ := Option.bind_eq_some_iff.mp hz
  have hlt : j < vs.length := by
    rw [← hl]
    exact (List.getElem?_eq_some_iff.mp hj2).1
  refine ⟨p, vs, i, vs[j], rfl, (w2.rep h2).ofInt, SqL.of (st _ _ l rfl), ?_, q _ F2 H2 ok2 (e1.trans e2) (fun hb => (q1 hb).trans (q2 rfl)) ((it j d _ hj2 (by simp [hlt])).keep e2 st)⟩
  unfold atI
  rw [← hl, hj1]
  simp [hlt]

/-! ### built-ins that make a scalar -/
/-- a rule of a call on data (as it may be read) -/
def ScCall (K : PySem.W.Frag) (g : Gx) (f : List D → Option D) (r : List V → Hp → VK → Prop) : Prop := ∀ (H : Hp) (ds : List D) (vs : List V) (d : D) (Q : VK), Reps K g H ds vs → f ds = some d → (∀ z, toV d = some z → Q z H) → r vs H Q
def eCb (f : List D → Option D) (a : M (List D)) : M D := bnd a fun ds => lft (f ds)
theorem ex_cb {e : Expr} {es : List Expr} {a : M (List D)} {f : List D → Option D} {r : List V → Hp → VK → Prop} (hp : ∀ {t : TA}, PA X es t → PE X e (tCB r t)) (hf : ScCall X.K g f r) (h : AL X g κ b es a) : EX X g κ b .sc e (eCb f a) :=
  PE.weak (hp h.pa) fun σ H Q ⟨B, F, ρ, d, ρ', ok, hm, q⟩ => by
    obtain ⟨ds, ρ1, hx, hm1⟩ := bnd_some hm
    obtain ⟨hz, rfl⟩ := lft_some hm1
    exact ⟨B, F, ρ, ds, _, ok, hx, fun vs F1 H1 ok1 e1 q1 w1 => hf H1 ds vs d Q (w1.mono ok1.1.sub) hz fun z hz => q z F1 H1 ok1 e1 q1 hz⟩
/-- of one argument, whatever holds it -/
def eCb1 (f : D → Option D) (a : M D) : M D := bnd a fun d => lft (f d)
def ScCall1 (K : PySem.W.Frag) (g : Gx) (f : D → Option D) (r : List V → Hp → VK → Prop) : Prop := ∀ (H : Hp) (x : D) (v : V) (d : D) (Q : VK), Rep K g H x v → f x = some d → (∀ z, toV d = some z → Q z H) → r [v] H Q
theorem ex_cb1 {e ea : Expr} {m : M D} {f : D → Option D} {r : List V → Hp → VK → Prop} (hp : ∀ {t : TA}, PA X [ea] t → PE X e (tCB r t)) (hf : ScCall1 X.K g f r) (h : EX X g κ b k ea m)
    (hs : starEach [ea] X.env = (false, eval ea X.env) :: starEach [] X.env := by rfl) : EX X g κ b .sc e (eCb1 f m) :=
  PE.weak (hp (pa_cons h pa_nil hs)) fun σ H Q ⟨B, F, ρ, d, ρ', ok, hm, q⟩ => by
    obtain ⟨x, ρ1, hx, hm1⟩ := bnd_some hm
    obtain ⟨hz, rfl⟩ := lft_some hm1
    exact ⟨B, F, ρ, x, _, ok, hx, fun v F1 H1 ok1 e1 q1 w1 => hf H1 x v d Q (w1.inH ok1.1.sub fun _ _ z _ => z) hz fun z hz => q z F1 H1 ok1 e1 q1 hz⟩
def cLen : D → Option D
  | .str s => if s.length ≤ 100000 then some (.int s.length) else none
  | d => (itemsD d).map fun ds => .int ds.length
theorem sc_len {K : PySem.W.Frag} : ScCall1 K g cLen (fun xs H Q => ∃ x n, xs = [x] ∧ LenV K x H n ∧ Q (.int n) H) := fun H x v d Q a h q => by
  have go : (itemsD x).map (fun ds => D.int ds.length) = some d → ∃ z n, [v] = [z] ∧ LenV K z H n ∧ Q (.int n) H := fun h => by
    obtain ⟨ds, h1, rfl⟩ := Option.map_eq_some_iff.mp h
    obtain ⟨p, vs, rfl, l, rs⟩ := seq_of (Ex.refl H) a h1
    refine ⟨.ref p, ds.length, rfl, ?_, q _ rfl⟩
    rcases l with l | l
    · exact .inl ⟨vs, l, rs.length⟩
    · exact .inr ⟨vs, l, rs.length⟩
  cases x with
  | str s =>
    have h : (if s.length ≤ 100000 then some (D.int s.length) else none) = some d := h
    split at h
    · rename_i hl
      cases h
      exact ⟨_, s.length, rfl, by rw [a.ofStr]; exact ⟨Nat.le_trans hl (by decide), rfl⟩, q _ rfl⟩
    · cases h
  | lst ds => exact go h
  | tup ds => exact go h
  | scr ns => exact go h
  | non => exact go h
  | bl c => exact go h
  | int i => exact go h
  | obj c fs => exact go h
def asI : D → Option Int
  | .int i => some i
  | _ => none
def intsD : List D → Option (List Int)
  | [] => some []
  | d :: ds => match asI d, intsD ds with
    | some i, some is => some (i :: is)
    | _, _ => none
theorem ints_reps {K : PySem.W.Frag} {F : Hp} : ∀ {ds : List D} {vs : List V} {ns : List Int}, Reps K g F ds vs → intsD ds = some ns → vs = ns.map V.int
  | [], _, _, r, h => by cases r; cases h; rfl
  | d :: ds, _, _, r, h => by
    cases r with
    | cons r1 r2 =>
      rw [intsD] at h
      cases d with
      | int i =>
        cases hs : intsD ds with
        | none => rw [hs] at h; cases h
        | some ns =>
          rw [hs] at h
          cases h
          rw [ints_reps r2 hs, r1.ofInt]
          rfl
      | _ => cases h
def bools : List D → Option (List Bool)
  | [] => some []
  | d :: ds => match asB d, bools ds with
    | some i, some is => some (i :: is)
    | _, _ => none
theorem bools_reps {K : PySem.W.Frag} {F : Hp} : ∀ {ds : List D} {vs : List V} {ns : List Bool}, Reps K g F ds vs → bools ds = some ns → vs = ns.map V.bl
  | [], _, _, r, h => by cases r; cases h; rfl
  | d :: ds, _, _, r, h => by
    cases r with
    | cons r1 r2 =>
      rw [bools] at h
      cases d with
      | bl i =>
        cases hs : bools ds with
        | none => rw [hs] at h; cases h
        | some ns =>
          rw [hs] at h
          cases h
          rw [bools_reps r2 hs, r1.ofBl]
          rfl
      | _ => cases h
/-- a list of intsD (no tuple) -/
def intsL : D → Option (List Int)
  | .lst ds => intsD ds
  | _ => none
def boolsL : D → Option (List Bool)
  | .lst ds => bools ds
  | _ => none
def cSum (d : D) : Option D := (intsL d).map fun ns => .int ns.sum
def leastI (ns : List Int) : Option Int := ns.head?.map fun n => ns.foldl min n
def mostI (ns : List Int) : Option Int := ns.head?.map fun n => ns.foldl max n
def cMin (d : D) : Option D := (intsL d).bind fun ns => (leastI ns).map .int
def cMax (d : D) : Option D := (intsL d).bind fun ns => (mostI ns).map .int
def cAll (d : D) : Option D := (boolsL d).map fun ns => .bl (ns.all id)
def cAny (d : D) : Option D := (boolsL d).map fun ns => .bl (ns.any id)
theorem foldl_min_le : ∀ (ns : List Int) (a : Int), ns.foldl min a ≤ a ∧ (∀ n ∈ ns, ns.foldl min a ≤ n) ∧ (ns.foldl min a = a ∨ ns.foldl min a ∈ ns)
  | [], a => ⟨Int.le_refl a, fun _ h => by simp at h, .inl rfl⟩
  | n :: ns, a => by
    obtain ⟨h1, h2, h3⟩ := foldl_min_le ns (min a n)
    rw [List.foldl_cons]
    refine ⟨Int.le_trans h1 (Int.min_le_left _ _), fun m hm => ?_, ?_⟩
    · rcases List.mem_cons.mp hm with rfl | hm
      · exact Int.le_trans h1 (Int.min_le_right _ _)
      · exact h2 m hm
    · rcases h3 with h3 | h3
      · rw [h3]
        by_cases q : a ≤ n
        · exact .inl (Int.min_eq_left q)
        · exact .inr (by rw [Int.min_eq_right (by omega)]; exact List.mem_cons_self)
      · exact .inr (List.mem_cons_of_mem _ h3)
theorem foldl_max_le : ∀ (ns : List Int) (a : Int), a ≤ ns.foldl max a ∧ (∀ n ∈ ns, n ≤ ns.foldl max a) ∧ (ns.foldl max a = a ∨ ns.foldl max a ∈ ns)
  | [], a => ⟨Int.le_refl a, fun _ h => by simp at h, .inl rfl⟩
  | n :: ns, a => by
    obtain ⟨h1, h2, h3⟩ := foldl_max_le ns (max a n)
    rw [List.foldl_cons]
    refine ⟨Int.le_trans (Int.le_max_left _ _) h1, fun m hm => ?_, ?_⟩
    · rcases List.mem_cons.mp hm with rfl | hm
      · exact Int.le_trans (Int.le_max_right _ _) h1
      · exact h2 m hm
    · rcases h3 with h3 | h3
      · rw [h3]
        by_cases q : n ≤ a
        · exact .inl (Int.max_eq_left q)
        · exact .inr (by rw [Int.max_eq_right (by omega)]; exact List.mem_cons_self)
      · exact .inr (List.mem_cons_of_mem _ h3)
theorem leastI_spec {ns : List Int} {m : Int} (h : leastI ns = some m) : 0 < ns.length ∧ m ∈ ns ∧ ∀ n ∈ ns, m ≤ n := by
  cases ns with
  | nil => cases h
  | cons a ns =>
    cases h
    obtain ⟨h1, h2, h3⟩ := foldl_min_le (a :: ns) a
    refine ⟨by simp, ?_, h2⟩
    rcases h3 with h3 | h3
    · exact List.mem_cons.mpr (.inl h3)
    · exact h3
theorem mostI_spec {ns : List Int} {m : Int} (h : mostI ns = some m) : 0 < ns.length ∧ m ∈ ns ∧ ∀ n ∈ ns, n ≤ m := by
  cases ns with
  | nil => cases h
  | cons a ns =>
    cases h
    obtain ⟨h1, h2, h3⟩ := foldl_max_le (a :: ns) a
    refine ⟨by simp, ?_, h2⟩
    rcases h3 with h3 | h3
    · exact List.mem_cons.mpr (.inl h3)
    · exact h3
theorem intsL_rep {K : PySem.W.Frag} {H : Hp} {x : D} {v : V} {ns : List Int} (a : Rep K g H x v) (h : intsL x = some ns) : ∃ p, v = .ref p ∧ SqL K H p (ns.map V.int) := by
  cases x with
  | lst ds =>
    obtain ⟨p, vs, rfl, l, rs⟩ := a.ofLst
    rw [ints_reps rs h] at l
    exact ⟨p, rfl, SqL.of l⟩
  | _ => cases h
theorem boolsL_rep {K : PySem.W.Frag} {H : Hp} {x : D} {v : V} {ns : List Bool} (a : Rep K g H x v) (h : boolsL x = some ns) : ∃ p, v = .ref p ∧ SqL K H p (ns.map V.bl) := by
  cases x with
  | lst ds =>
    obtain ⟨p, vs, rfl, l, rs⟩ := a.ofLst
    rw [bools_reps rs h] at l
    exact ⟨p, rfl, SqL.of l⟩
  | _ => cases h
theorem sc_sum {K : PySem.W.Frag} : ScCall1 K g cSum (rSum K) := fun H x v d Q a h q => by
  obtain ⟨ns, h1, rfl⟩ := Option.map_eq_some_iff.mp h
  obtain ⟨p, rfl, l⟩ := intsL_rep a h1
  exact ⟨p, ns, rfl, l, q _ rfl⟩
theorem sc_min {K : PySem.W.Frag} : ScCall1 K g cMin (rMin K) := fun H x v d Q a h q => by
  obtain ⟨ns, h1, h2⟩ := Option.bind_eq_some_iff.mp h
  obtain ⟨m, h3, rfl⟩ := Option.map_eq_some_iff.mp h2
  obtain ⟨p, rfl, l⟩ := intsL_rep a h1
  obtain ⟨s1, s2, s3⟩ := leastI_spec h3
  refine ⟨p, ns, rfl, l, s1, fun m' hm hle => ?_⟩
  have : m' = m := Int.le_antisymm (hle m s2) (s3 m' hm)
  rw [this]
  exact q _ rfl
theorem sc_max {K : PySem.W.Frag} : ScCall1 K g cMax (rMax K) := fun H x v d Q a h q => by
  obtain ⟨ns, h1, h2⟩ := Option.bind_eq_some_iff.mp h
  obtain ⟨m, h3, rfl⟩ := Option.map_eq_some_iff.mp h2
  obtain ⟨p, rfl, l⟩ := intsL_rep a h1
  obtain ⟨s1, s2, s3⟩ := mostI_spec h3
  refine ⟨p, ns, rfl, l, s1, fun m' hm hle => ?_⟩
  have : m' = m := Int.le_antisymm (s3 m' hm) (hle m s2)
  rw [this]
  exact q _ rfl
theorem sc_all {K : PySem.W.Frag} : ScCall1 K g cAll (rAll K) := fun H x v d Q a h q => by
  obtain ⟨ns, h1, rfl⟩ := Option.map_eq_some_iff.mp h
  obtain ⟨p, rfl, l⟩ := boolsL_rep a h1
  exact ⟨p, ns, rfl, l, q _ rfl⟩
theorem sc_any {K : PySem.W.Frag} : ScCall1 K g cAny (rAny K) := fun H x v d Q a h q => by
  obtain ⟨ns, h1, rfl⟩ := Option.map_eq_some_iff.mp h
  obtain ⟨p, rfl, l⟩ := boolsL_rep a h1
  exact ⟨p, ns, rfl, l, q _ rfl⟩
def cInt : D → Option D
  | .int i => some (.int i)
  | .bl c => some (.int (if c then 1 else 0))
  | _ => none
theorem sc_int {K : PySem.W.Frag} : ScCall1 K g cInt (fun xs H Q => (∃ i, xs = [.int i] ∧ Q (.int i) H) ∨ ∃ k, xs = [.bl k] ∧ Q (.int (if k then 1 else 0)) H) := fun H x v d Q a h q => by
  cases x with
  | int i => cases h; exact .inl ⟨i, by rw [a.ofInt], q _ rfl⟩
  | bl c => cases h; exact .inr ⟨c, by rw [a.ofBl], q _ rfl⟩
  | _ => cases h
def cStr : D → Option D
  | .int i => if i.natAbs.log2 < 1920 then some (.str (toString i)) else none
  | _ => none
theorem sc_str {K : PySem.W.Frag} : ScCall1 K g cStr (fun xs H Q => ∃ i, xs = [.int i] ∧ i.natAbs.log2 < 1920 ∧ Q (.str (toString i)) H) := fun H x v d Q a h q => by
  cases x with
  | int i =>
    have h : (if i.natAbs.log2 < 1920 then some (D.str (toString i)) else none) = some d := h
    split at h
    · rename_i hl
      cases h
      exact ⟨i, by rw [a.ofInt], hl, q _ rfl⟩
    · cases h
  | _ => cases h
def cAbs : D → Option D
  | .int i => some (.int (if i < 0 then -i else i))
  | _ => none
theorem sc_abs {K : PySem.W.Frag} : ScCall1 K g cAbs (fun xs H Q => ∃ i, xs = [.int i] ∧ Q (.int (if i < 0 then -i else i)) H) := fun H x v d Q a h q => by
  cases x with
  | int i => cases h; exact ⟨i, by rw [a.ofInt], q _ rfl⟩
  | _ => cases h
def cMin2 : List D → Option D
  | [.int i, .int j] => some (.int (if j < i then j else i))
  | _ => none
def cMax2 : List D → Option D
  | [.int i, .int j] => some (.int (if j > i then j else i))
  | _ => none
theorem sc_min2 {K : PySem.W.Frag} : ScCall K g cMin2 (fun xs H Q => ∃ i j, xs = [.int i, .int j] ∧ Q (.int (if j < i then j else i)) H) := fun H ds vs d Q a h q => by
  unfold cMin2 at h
  split at h
  · rename_i i j
    cases h
    cases a with
    | cons a1 a2 => cases a2 with
      | cons a2 a3 => cases a3; exact ⟨i, j, by rw [a1.ofInt, a2.ofInt], q _ rfl⟩
  · cases h
theorem sc_max2 {K : PySem.W.Frag} : ScCall K g cMax2 (fun xs H Q => ∃ i j, xs = [.int i, .int j] ∧ Q (.int (if j > i then j else i)) H) := fun H ds vs d Q a h q => by
  unfold cMax2 at h
  split at h
  · rename_i i j
    cases h
    cases a with
    | cons a1 a2 => cases a2 with
      | cons a2 a3 => cases a3; exact ⟨i, j, by rw [a1.ofInt, a2.ofInt], q _ rfl⟩
  · cases h
def dNeg : D → Option D
  | .int i => some (.int (-i))
  | _ => none
theorem ex_neg {a : Expr} {m : M D} (h : EX X g κ b k a m) (hk : k.fl = true := by rfl) : EX X g κ b .sc (.UnaryOp .USub a pos) (eOp1 dNeg m) :=
  PE.weak (pe_un un_neg h) fun σ H Q ⟨B, F, ρ, d, ρ', ok, hm, q⟩ => by
    obtain ⟨x, ρ1, hx, hm1⟩ := bnd_some hm
    obtain ⟨hz, rfl⟩ := lft_some hm1
    refine ⟨B, F, ρ, x, _, ok, hx, fun v F1 H1 ok1 e1 q1 w1 => ?_⟩
    cases x with
    | int i => cases hz; exact ⟨i, (w1.rep hk).ofInt, q _ F1 H1 ok1 e1 q1 rfl⟩
    | _ => cases hz

/-! ### lists and tuples made of others -/
/-- the items of a view, as a kind -/
theorem Vw.itemsL {K : PySem.W.Frag} {F H : Hp} {k : Kd} {d : D} {v : V} {ds : List D} (w : Vw K g F H (.lst k) d v) (h : d = .lst ds) : ∃ a vs, v = .ref a ∧ H a = some (.lst vs) ∧ ds.length = vs.length ∧ ∀ (i : Nat) (x : D) (y : V), ds[i]? = some x → vs[i]? = some y → Vw K g F H k x y := by
  obtain ⟨a, vs, ds', e1, e2, l, hl, it⟩ := w
  rw [h] at e1
  cases e1
  exact ⟨a, vs, e2, l, hl, it⟩
def eList (k : Kd) (m : M D) : M D := bnd m fun d => lft ((itemsD d).bind (mkL k))
/-- list(xs) of frozen data -/
theorem nx_list {e ea : Expr} {m : M D} (k : Kd) (hp : ∀ {t : TA}, PA X [ea] t → PE X e (tCB (fun xs H Q => ∃ p ys, xs = [V.ref p] ∧ (SqL X.K H p ys ∨ SqT X.K H p ys) ∧ ∀ l, H l = none → Q (.ref l) (upd H l (.lst ys))) t)) (h : EX X g κ b k1 ea m) (hk : k.fl = true := by rfl) (h1 : k1.fl = true := by rfl)
    (hs : starEach [ea] X.env = (false, eval ea X.env) :: starEach [] X.env := by rfl) : NX X g κ b (.lst k) e (eList k m) :=
  PE.weak (hp (pa_cons h pa_nil hs)) fun σ H Q ⟨B, F, ρ, d, ρ', ok, hm, q⟩ => by
    obtain ⟨x, ρ1, hx, hm1⟩ := bnd_some hm
    obtain ⟨hz, rfl⟩ := lft_some hm1
    obtain ⟨ds, hd, hz⟩ := Option.bind_eq_some_iff.mp hz
    obtain ⟨rfl, ha⟩ := mkL_some hz
    refine ⟨B, F, ρ, x, _, ok, hx, fun v F1 H1 ok1 e1 q1 w1 => ?_⟩
    obtain ⟨p, vs, rfl, l, rs⟩ := seq_of ok1.1.sub (w1.rep h1) hd
    exact ⟨p, vs, rfl, l, fun l' hl' => q _ _ _ (ok1.newL hl' hk rs.length (vws_okK (H := H1) rs ha (Ex.refl _))) e1 fun hb => (q1 hb).trans (Ex.toT (.new hl'))⟩
/-- list(xs) of an owned list -/
def eListO (m : M D) : M D := bnd m fun d => lft (match d with | .lst ds => some (.lst ds) | _ => none)
theorem nx_listO {e ea : Expr} {m : M D} (hp : ∀ {t : TA}, PA X [ea] t → PE X e (tCB (fun xs H Q => ∃ p ys, xs = [V.ref p] ∧ (SqL X.K H p ys ∨ SqT X.K H p ys) ∧ ∀ l, H l = none → Q (.ref l) (upd H l (.lst ys))) t)) (h : EX X g κ b (.lst k) ea m) (hk : k.fl = true := by rfl)
    (hs : starEach [ea] X.env = (false, eval ea X.env) :: starEach [] X.env := by rfl) : NX X g κ b (.lst k) e (eListO m) :=
  PE.weak (hp (pa_cons h pa_nil hs)) fun σ H Q ⟨B, F, ρ, d, ρ', ok, hm, q⟩ => by
    obtain ⟨x, ρ1, hx, hm1⟩ := bnd_some hm
    obtain ⟨hz, rfl⟩ := lft_some hm1
    cases x <;> try (cases hz)
    rename_i ds
    refine ⟨B, F, ρ, _, _, ok, hx, fun v F1 H1 ok1 e1 q1 w1 => ?_⟩
    obtain ⟨p, vs, rfl, l, hl, it⟩ := Vw.itemsL w1 rfl
    exact ⟨p, vs, rfl, .inl (SqL.of l), fun l' hl' => q _ _ _ (ok1.newL hl' hk hl it) e1 fun hb => (q1 hb).trans (Ex.toT (.new hl'))⟩
/-- tuple(xs) -/
def eTuple (m : M D) : M D := bnd m fun d => lft ((itemsD d).map .tup)
theorem ex_tuple {e ea : Expr} {m : M D} (hp : ∀ {t : TA}, PA X [ea] t → PE X e (tCB (fun xs H Q => ∃ p ys, xs = [V.ref p] ∧ ((SqL X.K H p ys ∧ ∀ l, H l = none → Q (.ref l) (upd H l (.tup ys))) ∨ (SqT X.K H p ys ∧ Q (.ref p) H))) t)) (h : EX X g κ b k1 ea m) (h1 : k1.fl = true := by rfl)
    (hs : starEach [ea] X.env = (false, eval ea X.env) :: starEach [] X.env := by rfl) : EX X g κ b .im e (eTuple m) :=
  PE.weak (hp (pa_cons h pa_nil hs)) fun σ H Q ⟨B, F, ρ, d, ρ', ok, hm, q⟩ => by
    obtain ⟨x, ρ1, hx, hm1⟩ := bnd_some hm
    obtain ⟨hz, rfl⟩ := lft_some hm1
    obtain ⟨ds, hd, rfl⟩ := Option.map_eq_some_iff.mp hz
    refine ⟨B, F, ρ, x, _, ok, hx, fun v F1 H1 ok1 e1 q1 w1 => ?_⟩
    have r := w1.rep h1
    cases x with
    | tup es =>
      cases hd
      obtain ⟨p, vs, rfl, l, rs⟩ := r.ofTup
      exact ⟨p, vs, rfl, .inr ⟨ex_t ok1.1.sub l, q _ F1 H1 ok1 e1 q1 r⟩⟩
    | lst es =>
      cases hd
      obtain ⟨p, vs, rfl, l, rs⟩ := r.ofLst
      refine ⟨p, vs, rfl, .inl ⟨SqL.of (ok1.1.sub _ _ l), fun l' hl' => ?_⟩⟩
      have fp := ok1.fnone hl'
      exact q _ _ _ (ok1.newF (o := .tup vs) hl') (e1.trans (.new fp)) (fun hb => (q1 hb).trans (Ex.toT (.new hl'))) (.tup (.inl (.inl upd_same)) (rs.mono (.new fp)))
    | scr ns =>
      cases hd
      obtain ⟨p, rfl, l⟩ := r.ofScr
      refine ⟨p, _, rfl, .inl ⟨ex_l ok1.1.sub l, fun l' hl' => ?_⟩⟩
      have fp := ok1.fnone hl'
      exact q _ _ _ (ok1.newF (o := .tup (ns.map V.int)) hl') (e1.trans (.new fp)) (fun hb => (q1 hb).trans (Ex.toT (.new hl'))) (.tup (.inl (.inl upd_same)) ((reps_ints ns).mono (.new fp)))
    | _ => cases hd
/-- xs + ys: frozen lists -/
def dCat (k : Kd) : D → D → Option D
  | .lst xs, .lst ys => if xs.length + ys.length ≤ 100000 then mkL k (xs ++ ys) else none
  | _, _ => none
theorem nx_cat {a c : Expr} {ma mc : M D} (k : Kd) (ha : EX X g κ b1 k1 a ma) (hc : EX X g κ b2 k2 c mc) (hk : k.fl = true := by rfl) (h1 : k1.fl = true := by rfl) (h2 : k2.fl = true := by rfl) :
    NX X g κ (b1 && b2) (.lst k) (.BinOp a .Add c pos) (eOp2 (dCat k) ma mc) := PE.weak (pe_op op_cat ha hc) fun σ H Q h => by
  obtain ⟨B, F, ρ, d, ρ', ok, hm, q⟩ := h
  obtain ⟨x, ρ1, hx, hm1⟩ := bnd_some hm
  obtain ⟨y, ρ2, hy, hm2⟩ := bnd_some hm1
  obtain ⟨hz, rfl⟩ := lft_some hm2
  refine ⟨B, F, ρ, x, ρ1, ok, hx, fun v F1 H1 ok1 e1 q1 w1 => ⟨B, F1, ρ1, y, _, ok1, hy, fun w F2 H2 ok2 e2 q2 w2 => ?_⟩⟩
  cases x <;> cases y <;> try (cases hz)
  rename_i xs ys
  have hz : (if xs.length + ys.length ≤ 100000 then mkL k (xs ++ ys) else none) = some d := hz
  split at hz
  · rename_i hl
    obtain ⟨rfl, hall⟩ := mkL_some hz
    obtain ⟨p, vs, rfl, l, rs⟩ := ((w1.rep h1).mono e2).ofLst
    obtain ⟨p', vs', rfl, l', rs'⟩ := (w2.rep h2).ofLst
    have rr := rs.append rs'
    exact ⟨p, p', vs, vs', rfl, rfl, ok2.1.sub _ _ l, ok2.1.sub _ _ l', by rw [← rs.length, ← rs'.length]; exact Nat.le_trans hl (by decide), fun n hn => q _ _ _ (ok2.newL hn hk rr.length (vws_okK (H := H2) rr hall (Ex.refl _))) (e1.trans e2) fun hb => by
      rw [Bool.and_eq_true] at hb
      exact ((q1 hb.1).trans (q2 hb.2)).trans (Ex.toT (.new hn))⟩
  · cases hz
/-- xs * n: a frozen list -/
def dRep (k : Kd) : D → D → Option D
  | .lst xs, .int n => if xs.length * n.toNat ≤ 100000 ∧ -(2 ^ 62) ≤ n ∧ n ≤ 2 ^ 62 then mkL k (List.replicate n.toNat xs).flatten else none
  | _, _ => none
theorem Reps.rep {K : PySem.W.Frag} {F : Hp} {ds : List D} {vs : List V} (r : Reps K g F ds vs) : ∀ n : Nat, Reps K g F (List.replicate n ds).flatten (List.replicate n vs).flatten
  | 0 => .nil
  | n + 1 => by
    rw [List.replicate_succ, List.replicate_succ, List.flatten_cons, List.flatten_cons]
    exact r.append (Reps.rep r n)
theorem nx_rep {a c : Expr} {ma mc : M D} (k : Kd) (ha : EX X g κ b1 k1 a ma) (hc : EX X g κ b2 k2 c mc) (hk : k.fl = true := by rfl) (h1 : k1.fl = true := by rfl) (h2 : k2.fl = true := by rfl) :
    NX X g κ (b1 && b2) (.lst k) (.BinOp a .Mult c pos) (eOp2 (dRep k) ma mc) := PE.weak (pe_op op_rep ha hc) fun σ H Q h => by
  obtain ⟨B, F, ρ, d, ρ', ok, hm, q⟩ := h
  obtain ⟨x, ρ1, hx, hm1⟩ := bnd_some hm
  obtain ⟨y, ρ2, hy, hm2⟩ := bnd_some hm1
  obtain ⟨hz, rfl⟩ := lft_some hm2
  refine ⟨B, F, ρ, x, ρ1, ok, hx, fun v F1 H1 ok1 e1 q1 w1 => ⟨B, F1, ρ1, y, _, ok1, hy, fun w F2 H2 ok2 e2 q2 w2 => ?_⟩⟩
  cases x <;> cases y <;> try (cases hz)
  rename_i xs n
  have hz : (if xs.length * n.toNat ≤ 100000 ∧ -(2 ^ 62) ≤ n ∧ n ≤ 2 ^ 62 then mkL k (List.replicate n.toNat xs).flatten else none) = some d := hz
  split at hz
  · rename_i hl
    obtain ⟨rfl, hall⟩ := mkL_some hz
    obtain ⟨p, vs, rfl, l, rs⟩ := ((w1.rep h1).mono e2).ofLst
    have rr := rs.rep n.toNat
    refine ⟨p, n, vs, rfl, (w2.rep h2).ofInt, ok2.1.sub _ _ l, by omega, by omega, by rw [← rs.length]; exact Nat.le_trans hl.1 (by decide), fun n hn => q _ _ _ (ok2.newL hn hk rr.length (vws_okK (H := H2) rr hall (Ex.refl _))) (e1.trans e2) fun hb => ?_⟩
    rw [Bool.and_eq_true] at hb
    exact ((q1 hb.1).trans (q2 hb.2)).trans (Ex.toT (.new hn))
  · cases hz

/-! ### fields of frozen objects -/
def eFld (c f : Str) (m : M D) : M D := bnd m fun d => lft (match d with
  | .obj c' fs => if c' = c then fs.lookup f else none
  | _ => none)
theorem ex_fld {e : Expr} {f c : Str} {m : M D} (T : Cls X.K (g.cl c)) (N : NoAttr X.K (g.cl c) f) (h : EX X g κ b k e m) (hb : attributeBase e f X.env (eval e X.env) = eval e X.env := by rfl) (hk : k.fl = true := by rfl) : EX X g κ b .im (.Attribute e f pos) (eFld c f m) :=
  PE.weak (pe_fld h hb) fun σ H Q ⟨B, F, ρ, d, ρ', ok, hm, q⟩ => by
    obtain ⟨x, ρ1, hx, hm1⟩ := bnd_some hm
    obtain ⟨hz, rfl⟩ := lft_some hm1
    cases x <;> try (cases hz)
    rename_i c' fs
    have hz2 : (if c' = c then fs.lookup f else none) = some d := hz
    split at hz2
    · rename_i hc
      subst hc
      refine ⟨B, F, ρ, _, _, ok, hx, fun v F1 H1 ok1 e1 q1 w1 => ?_⟩
      obtain ⟨a, dx, vs, rfl, l, rf⟩ := (w1.rep hk).ofObj
      obtain ⟨u, hu, r⟩ := rf.look hz2
      exact ⟨a, _, dx, vs, u, rfl, ok1.1.sub _ _ l, T, N, hu, q u F1 H1 ok1 e1 q1 r⟩
    · cases hz2
end
end DL

set_option maxHeartbeats 4000000
/-! DL6: statements, targets, loops. -/
namespace DL
open PySem PySem.Spec PyProof.Rows L2

section
variable {X : Cx} {g : Gx} {κ : List Sl} {b b1 b2 b3 : Bool} {k k1 k2 k3 kr : Kd} {pos : Pos}
/-! ### targets -/
def setV (i : Nat) (k : Kd) (d : D) : M Unit := fun ρ => if okK k d then some ((), ρ.set i (some d)) else none
theorem setV_some {i : Nat} {d : D} {ρ ρ' : Rho} {u : Unit} (h : setV i k d ρ = some (u, ρ')) : okK k d = true ∧ ρ' = ρ.set i (some d) := by
  unfold setV at h
  split at h
  · rename_i h'; cases h; exact ⟨h', rfl⟩
  · cases h
theorem okK_flat {d : D} (h : okK k d = true) : k.fl = true := by
  cases k with
  | lst k => simp [okK] at h
  | ins c => simp [okK] at h
  | _ => rfl
theorem gx_name {tg : Expr} {i : Nat} {s : Sl} (h : PG X tg (gName i)) (hi : κ[i]? = some s) (hs : s.io = false) : GX X g κ tg (setV i s.kd) :=
  PG.weak h fun v σ H Q ⟨B, F, ρ, d, ρ', ok, r, hm, q⟩ => by
    obtain ⟨h1, rfl⟩ := setV_some hm
    exact q _ ((ok.flat (okK_flat h1) (vw_okK (H := H) r h1 (Ex.refl F))).set hi hs rfl)
def gsOf (K : PySem.W.Frag) (g : Gx) (κ : List Sl) (m : List D → M Unit) : TGs := fun vs σ H Q => ∃ B F ρ ds ρ', Ok K g κ B F H σ ρ ∧ Reps K g F ds vs ∧ m ds ρ = some ((), ρ') ∧
  ∀ σ', Ok K g κ B F H σ' ρ' → Q σ' H
abbrev GSX (X : Cx) (g : Gx) (κ : List Sl) (tg : List Expr) (m : List D → M Unit) : Prop := PGs X tg (gsOf X.K g κ m)
theorem PGs.weak {es : List Expr} {t t' : TGs} (h : PGs X es t) (w : ∀ v σ H Q, t' v σ H Q → t v σ H Q) : PGs X es t' := ⟨fun pins s σ H v u Q I r q => h.run pins s σ H v u Q I r (w v σ H Q q)⟩
def mgNil : List D → M Unit
  | [] => ret ()
  | _ => fun _ => none
def mgCons (a : D → M Unit) (r : List D → M Unit) : List D → M Unit
  | d :: ds => bnd (a d) fun _ => r ds
  | [] => fun _ => none
theorem gs_nil : GSX X g κ [] mgNil := PGs.weak pgs_nil fun vs σ H Q ⟨B, F, ρ, ds, ρ', ok, r, hm, q⟩ => by
  cases ds with
  | nil =>
    obtain ⟨_, rfl⟩ := ret_some hm
    cases r
    exact ⟨rfl, q σ ok⟩
  | cons _ _ => cases hm
theorem gs_cons {e : Expr} {es : List Expr} {a : D → M Unit} {r : List D → M Unit} (hp : PGs X (e :: es) (gCons (gOf X.K g κ a) (gsOf X.K g κ r))) : GSX X g κ (e :: es) (mgCons a r) :=
  PGs.weak hp fun vs σ H Q ⟨B, F, ρ, ds, ρ', ok, rr, hm, q⟩ => by
    cases ds with
    | nil => cases hm
    | cons d ds =>
      obtain ⟨_, ρ1, h1, h2⟩ := bnd_some hm
      cases rr with
      | cons r1 r2 => exact ⟨_, _, rfl, B, F, ρ, d, ρ1, ok, r1, h1, fun σ' ok' => ⟨B, F, ρ1, ds, ρ', ok', r2, h2, fun σ2 ok2 => q σ2 ok2⟩⟩
def mgTup (n : Nat) (m : List D → M Unit) (d : D) : M Unit := match d with
  | .tup ds => if ds.length = n then m ds else fun _ => none
  | _ => fun _ => none
theorem gx_tup {tg : Expr} {n : Nat} {m : List D → M Unit} (hp : PG X tg (gTup X.K n (gsOf X.K g κ m))) : GX X g κ tg (mgTup n m) :=
  PG.weak hp fun v σ H Q ⟨B, F, ρ, d, ρ', ok, r, hm, q⟩ => by
    cases d with
    | tup ds =>
      have hm : (if ds.length = n then m ds else fun _ => none) ρ = some ((), ρ') := hm
      split at hm
      · rename_i hl
        obtain ⟨a, vs, rfl, l, rs⟩ := r.ofTup
        exact ⟨a, vs, rfl, ex_t ok.1.sub l, rs.length ▸ hl, B, F, ρ, ds, ρ', ok, rs, hm, q⟩
      · cases hm
    | _ => cases hm

/-! ### statements -/
def mSeq (a c : M Fl) : M Fl := bnd a fun f => match f with
  | .nx => c
  | .bk => ret .bk
  | .ct => ret .ct
  | .rt d => ret (.rt d)
theorem bx_nil : BX X g κ kr [] (ret .nx) := PSs.weak pss_nil fun D σ H ⟨B, F, ρ, f, ρ', ok, hm, q⟩ => by
  obtain ⟨rfl, rfl⟩ := ret_some hm
  exact q σ F H ok (Ex.refl F)
theorem bx_one {st : Stmt} {m : M Fl} (h : SX X g κ kr st m) : BX X g κ kr [st] m := pss_one h
theorem bx_cons {st : Stmt} {rest : List Stmt} {a c : M Fl} (h : SX X g κ kr st a) (hr : BX X g κ kr rest c) : BX X g κ kr (st :: rest) (mSeq a c) :=
  PSs.weak (pss_cons h hr) fun D σ H ⟨B, F, ρ, f, ρ', ok, hm, q⟩ => by
    obtain ⟨f1, ρ1, h1, h2⟩ := bnd_some hm
    refine ⟨B, F, ρ, f1, ρ1, ok, h1, ?_⟩
    cases f1 with
    | nx =>
      refine fun σ' F' H' ok' e => ⟨B, F', ρ1, f, ρ', ok', h2, ?_⟩
      cases f with
      | nx => exact fun σ2 F2 H2 ok2 e2 => q σ2 F2 H2 ok2 (e.trans e2)
      | bk => exact fun σ2 F2 H2 ok2 e2 => q σ2 F2 H2 ok2 (e.trans e2)
      | ct => exact fun σ2 F2 H2 ok2 e2 => q σ2 F2 H2 ok2 (e.trans e2)
      | rt d => exact fun v σ2 F2 H2 ok2 e2 => q v σ2 F2 H2 ok2 (e.trans e2)
    | bk => obtain ⟨rfl, rfl⟩ := ret_some h2; exact q
    | ct => obtain ⟨rfl, rfl⟩ := ret_some h2; exact q
    | rt d => obtain ⟨rfl, rfl⟩ := ret_some h2; exact q
theorem sx_pass : SX X g κ kr (.Pass pos) (ret .nx) := PS.weak ps_pass fun D σ H ⟨B, F, ρ, f, ρ', ok, hm, q⟩ => by
  obtain ⟨rfl, rfl⟩ := ret_some hm
  exact q σ F H ok (Ex.refl F)
theorem sx_break : SX X g κ kr (.Break pos) (ret .bk) := PS.weak ps_break fun D σ H ⟨B, F, ρ, f, ρ', ok, hm, q⟩ => by
  obtain ⟨rfl, rfl⟩ := ret_some hm
  exact q σ F H ok (Ex.refl F)
theorem sx_continue : SX X g κ kr (.Continue pos) (ret .ct) := PS.weak ps_continue fun D σ H ⟨B, F, ρ, f, ρ', ok, hm, q⟩ => by
  obtain ⟨rfl, rfl⟩ := ret_some hm
  exact q σ F H ok (Ex.refl F)
/-- a statement that is not reached (a raise on a way that cannot be) -/
theorem sx_never {st : Stmt} : SX X g κ kr st (fun _ => none) := PS.weak ps_never fun D σ H ⟨B, F, ρ, f, ρ', ok, hm, q⟩ => by cases hm
theorem bx_never {st : List Stmt} : BX X g κ kr st (fun _ => none) := PSs.weak pss_never fun D σ H ⟨B, F, ρ, f, ρ', ok, hm, q⟩ => by cases hm
/-- target = e (flat data) -/
def mAsg (e : M D) (t : D → M Unit) : M Fl := bnd e fun d => bnd (t d) fun _ => ret .nx
theorem sx_asg {st : Stmt} {e : M D} {t : D → M Unit} (hk : k.fl = true) (hp : PS X st (tAsg (tOf X.K g κ b k e) (gOf X.K g κ t))) : SX X g κ kr st (mAsg e t) :=
  PS.weak hp fun D σ H ⟨B, F, ρ, f, ρ', ok, hm, q⟩ => by
    obtain ⟨d, ρ1, h1, h2⟩ := bnd_some hm
    obtain ⟨_, ρ2, h3, h4⟩ := bnd_some h2
    obtain ⟨rfl, rfl⟩ := ret_some h4
    exact ⟨B, F, ρ, d, ρ1, ok, h1, fun v F1 H1 ok1 e1 q1 w1 => ⟨B, F1, ρ1, d, _, ok1, w1.rep hk, h3, fun σ' ok2 => q σ' F1 H1 ok2 e1⟩⟩
/-- name = e, a value of its own -/
def mAsgN (i : Nat) (e : M D) : M Fl := bnd e fun d => fun ρ => some (.nx, ρ.set i (some d))
theorem sx_asgN {st : Stmt} {i : Nat} {s : Sl} {e : M D} (hp : PS X st (tAsg (nOf X.K g κ b k e) (gName i))) (hi : κ[i]? = some s) (hs : s.io = false) (hk : s.kd = k) : SX X g κ kr st (mAsgN i e) :=
  PS.weak hp fun D σ H ⟨B, F, ρ, f, ρ', ok, hm, q⟩ => by
    obtain ⟨d, ρ1, h1, h2⟩ := bnd_some hm
    cases h2
    exact ⟨B, F, ρ, d, ρ1, ok, h1, fun v F1 H1 okn e1 q1 => q _ F1 H1 (okn.set hi hs hk) e1⟩
def mDrop (e : M D) : M Fl := bnd e fun _ => ret .nx
theorem sx_expr {e : Expr} {m : M D} (h : EX X g κ b k e m) (hs : swapsWith e none pos.line X.env = pure false := by rfl) : SX X g κ kr (.Expr e pos) (mDrop m) :=
  PS.weak (ps_expr h hs) fun D σ H ⟨B, F, ρ, f, ρ', ok, hm, q⟩ => by
    obtain ⟨d, ρ1, h1, h2⟩ := bnd_some hm
    obtain ⟨rfl, rfl⟩ := ret_some h2
    exact ⟨B, F, ρ, d, _, ok, h1, fun v F1 H1 ok1 e1 q1 w1 => q σ F1 H1 ok1 e1⟩
def mRet (e : M D) : M Fl := bnd e fun d => ret (.rt d)
theorem sx_ret {e : Expr} {m : M D} (h : NX X g κ b kr e m) : SX X g κ kr (.Return (some e) pos) (mRet m) :=
  PS.weak (ps_ret h) fun D σ H ⟨B, F, ρ, f, ρ', ok, hm, q⟩ => by
    obtain ⟨d, ρ1, h1, h2⟩ := bnd_some hm
    obtain ⟨rfl, rfl⟩ := ret_some h2
    exact ⟨B, F, ρ, d, _, ok, h1, fun v F1 H1 okn e1 q1 => q v σ F1 H1 okn e1⟩
theorem sx_retN (hk : kr.fl = true := by rfl) : SX X g κ kr (.Return none pos) (ret (.rt .non)) :=
  PS.weak ps_retN fun D σ H ⟨B, F, ρ, f, ρ', ok, hm, q⟩ => by
    obtain ⟨rfl, rfl⟩ := ret_some hm
    refine q .non σ F H (ok.flat hk ?_) (Ex.refl F)
    cases kr with
    | sc => rfl
    | im => exact Rep.sc rfl
    | lst k => cases hk
    | ins c => cases hk
def mIf (t : M Bool) (a c : M Fl) : M Fl := bnd t fun x => if x then a else c
theorem sx_if {c : Expr} {sa sb : List Stmt} {t : M Bool} {ma mc : M Fl} (ht : TX X g κ b c t) (ha : BX X g κ kr sa ma) (hc : BX X g κ kr sb mc) : SX X g κ kr (.If c sa sb pos) (mIf t ma mc) :=
  PS.weak (ps_if ht ha hc) fun D σ H ⟨B, F, ρ, f, ρ', ok, hm, q⟩ => by
    obtain ⟨x, ρ1, h1, h2⟩ := bnd_some hm
    refine ⟨B, F, ρ, x, ρ1, ok, h1, fun F1 H1 ok1 e1 q1 => ?_⟩
    cases x with
    | true =>
      rw [if_pos rfl]
      refine ⟨B, F1, ρ1, f, ρ', ok1, h2, ?_⟩
      cases f with
      | nx => exact fun σ2 F2 H2 ok2 e2 => q σ2 F2 H2 ok2 (e1.trans e2)
      | bk => exact fun σ2 F2 H2 ok2 e2 => q σ2 F2 H2 ok2 (e1.trans e2)
      | ct => exact fun σ2 F2 H2 ok2 e2 => q σ2 F2 H2 ok2 (e1.trans e2)
      | rt d => exact fun v σ2 F2 H2 ok2 e2 => q v σ2 F2 H2 ok2 (e1.trans e2)
    | false =>
      rw [if_neg Bool.false_ne_true]
      refine ⟨B, F1, ρ1, f, ρ', ok1, h2, ?_⟩
      cases f with
      | nx => exact fun σ2 F2 H2 ok2 e2 => q σ2 F2 H2 ok2 (e1.trans e2)
      | bk => exact fun σ2 F2 H2 ok2 e2 => q σ2 F2 H2 ok2 (e1.trans e2)
      | ct => exact fun σ2 F2 H2 ok2 e2 => q σ2 F2 H2 ok2 (e1.trans e2)
      | rt d => exact fun v σ2 F2 H2 ok2 e2 => q v σ2 F2 H2 ok2 (e1.trans e2)
/-- n += e (ints, a flat slot) -/
def mAug (i : Nat) (k : Kd) (f : Int → Int → Int) (e : M D) : M Fl := bnd (eVar i) fun x => bnd e fun y => match x, y with
  | .int u, .int v => bnd (setV i k (.int (f u v))) fun _ => ret .nx
  | _, _ => fun _ => none
theorem sx_aug {st : Stmt} {i : Nat} {s : Sl} {e : M D} {f : Int → Int → Int} (hp : PS X st (tAug i (tOf X.K g κ b k e) (ipI f))) (hi : κ[i]? = some s) (hs : s.io = false) (h1 : s.kd.fl = true) (hk : k.fl = true := by rfl) : SX X g κ kr st (mAug i s.kd f e) :=
  PS.weak hp fun D σ H ⟨B, F, ρ, fl, ρ', ok, hm, q⟩ => by
    obtain ⟨x, ρ1, h2, h3⟩ := bnd_some hm
    obtain ⟨hr, rfl⟩ := eVar_some h2
    obtain ⟨y, ρ2, h4, h5⟩ := bnd_some h3
    obtain ⟨v, hv, w⟩ := ok.get hi hr
    cases x <;> cases y <;> try (cases h5)
    rename_i u z
    obtain ⟨_, ρ3, h6, h7⟩ := bnd_some h5
    obtain ⟨rfl, rfl⟩ := ret_some h7
    obtain ⟨h8, rfl⟩ := setV_some h6
    refine ⟨v, hv, B, F, _, .int z, ρ2, ok, h4, fun v' F1 H1 ok1 e1 q1 w1 => ⟨u, z, (w.rep h1).ofInt, (w1.rep hk).ofInt, ?_⟩⟩
    exact q _ F1 H1 ((ok1.flat h1 (vw_okK (H := H1) (.sc rfl) h8 (Ex.refl F1))).set hi hs rfl) e1

/-! ### changing an owned list -/
/-- the place of an item -/
def ixD (n : Nat) : D → Option Nat
  | .int i => ixN n i
  | _ => none
/-- xs[i] = e -/
def putIx (j : Nat) (k : Kd) (d di : D) : M Fl := fun ρ => match ρ[j]? with
  | some (some (.lst ds)) => (match ixD ds.length di with
    | some n => if okK k d then some (.nx, ρ.set j (some (.lst (ds.set n d)))) else none
    | none => none)
  | _ => none
def mSetIx (j : Nat) (k : Kd) (e i : M D) : M Fl := bnd e fun d => bnd (eVar j) fun _ => bnd i fun di => putIx j k d di
theorem putIx_some {j : Nat} {d di : D} {ρ ρ' : Rho} {f : Fl} (h : putIx j k d di ρ = some (f, ρ')) : ∃ ds n, ρ[j]? = some (some (.lst ds)) ∧ ixD ds.length di = some n ∧ okK k d = true ∧ f = .nx ∧ ρ' = ρ.set j (some (.lst (ds.set n d))) := by
  unfold putIx at h
  split at h
  · rename_i ds hr
    split at h
    · rename_i n hn
      split at h
      · rename_i hk
        cases h
        exact ⟨ds, n, hr, hn, hk, rfl, rfl⟩
      · cases h
    · cases h
  · cases h
theorem vws_set {K : PySem.W.Frag} {F H : Hp} {ds : List D} {vs : List V} {d : D} {v : V} {n : Nat} (hl : ds.length = vs.length) (it : ∀ (i : Nat) (x : D) (y : V), ds[i]? = some x → vs[i]? = some y → Vw K g F H k x y) (w : Vw K g F H k d v) :
    ∀ (i : Nat) (x : D) (y : V), (ds.set n d)[i]? = some x → (vs.set n v)[i]? = some y → Vw K g F H k x y := fun i x y a c => by
  by_cases hi : n = i
  · subst hi
    have h1 : n < ds.length := by
      have := (List.getElem?_eq_some_iff.mp a).1
      simpa using this
    rw [List.getElem?_set_self h1] at a
    rw [List.getElem?_set_self (by omega)] at c
    cases a
    cases c
    exact w
  · rw [List.getElem?_set_ne hi] at a c
    exact it i x y a c
theorem vws_app {K : PySem.W.Frag} {F H : Hp} {ds es : List D} {vs ws : List V} (hl : ds.length = vs.length) (it : ∀ (i : Nat) (x : D) (y : V), ds[i]? = some x → vs[i]? = some y → Vw K g F H k x y) (it2 : ∀ (i : Nat) (x : D) (y : V), es[i]? = some x → ws[i]? = some y → Vw K g F H k x y) :
    ∀ (i : Nat) (x : D) (y : V), (ds ++ es)[i]? = some x → (vs ++ ws)[i]? = some y → Vw K g F H k x y := fun i x y a c => by
  by_cases hi : i < ds.length
  · rw [List.getElem?_append_left hi] at a
    rw [List.getElem?_append_left (by omega)] at c
    exact it i x y a c
  · rw [List.getElem?_append_right (by omega)] at a
    rw [List.getElem?_append_right (by omega)] at c
    rw [← hl] at c
    exact it2 _ x y a c
theorem sx_setIx {st : Stmt} {j : Nat} {s : Sl} {me mi : M D} (hp : PS X st (tAsg (tOf X.K g κ b1 k1 me) (gSub (tVar j) (tOf X.K g κ b2 k2 mi) rSetL))) (hj : κ[j]? = some s) (hs : s.kd = .lst k) (hk : k.fl = true := by rfl) (h1 : k1.fl = true := by rfl) (h2 : k2.fl = true := by rfl) :
    SX X g κ kr st (mSetIx j k me mi) := PS.weak hp fun D0 σ H ⟨B, F, ρ, f, ρ', ok, hm, q⟩ => by
  obtain ⟨d, ρ1, hd, hm1⟩ := bnd_some hm
  obtain ⟨dv, ρ2, hv, hm2⟩ := bnd_some hm1
  obtain ⟨hvr, rfl⟩ := eVar_some hv
  obtain ⟨di, ρ3, hi, hm3⟩ := bnd_some hm2
  obtain ⟨ds, n, hr, hn, hok, rfl, rfl⟩ := putIx_some hm3
  refine ⟨B, F, ρ, d, _, ok, hd, fun v F1 H1 ok1 e1 q1 w1 => ?_⟩
  obtain ⟨vv, hσ, _⟩ := ok1.get hj hvr
  refine ⟨vv, hσ, B, F1, _, di, ρ3, ok1, hi, fun vi F2 H2 ok2 e2 q2 w2 => ?_⟩
  obtain ⟨a, vs, hσ2, ha, hl, it, go⟩ := ok2.write (ds' := ds.set n d) hj hs hk hr
  rw [hσ] at hσ2
  cases hσ2
  cases di <;> try (cases hn)
  rename_i i
  have hn : ixN ds.length i = some n := hn
  refine ⟨a, vs, i, n, rfl, (w2.rep h2).ofInt, ha, by rw [← hl]; exact hn, ?_⟩
  exact q σ F2 _ (go (vs.set n v) (by rw [List.length_set, List.length_set, hl]) (vws_set hl it (vw_okK (H := H2) ((w1.rep h1).mono e2) hok (Ex.refl F2)))) (e1.trans e2)
/-- an item of a list that stands in the heap, read for xs[i] op= e -/
theorem get_list : PGet X (rIxL X.K) := by
  intro pins s σ H o i ov iv Q I ro ri h
  obtain ⟨p, xs, j, z, rfl, rfl, hq, he, q⟩ := h
  cases ro
  obtain ⟨t, rfl⟩ := ri
  obtain ⟨its, r, pl, hz⟩ := I.list hq
  obtain ⟨n, h1, h2, h3, h4, h5⟩ := atI_get he
  obtain ⟨w, ew, rw'⟩ := r.get h2
  have hl := r.length
  have hn := line63
  have fin : EP X pins σ Q w s := ⟨z, H, I, rw', q⟩
  by_cases h0 : 0 ≤ j
  · have hj : j.toNat = n := by
      rw [seqIndex_of h0 h5] at h1
      exact Option.some.inj h1
    exact wpAny_getItem_list pl.isList h0 (by omega) (by rw [hj]; simpa using ew) fin
  · have hj : (j + (its.toArray.size : Int)).toNat = n := by
      rw [seqIndex_neg (by omega) h4] at h1
      rw [List.size_toArray, ← hl]
      exact Option.some.inj h1
    exact wpAny_getItem_list_neg pl.isList (by omega) (by rw [List.size_toArray] <;> omega) (by omega) (by rw [hj]; simpa using ew) fin
/-- xs[i] op= e, ints -/
def mAugIx (j : Nat) (k : Kd) (f : Int → Int → Int) (i e : M D) : M Fl := bnd (eVar j) fun _ => bnd i fun di => fun ρ => match ρ[j]? with
  | some (some (.lst ds)) => (match dIxO (.lst ds) di with
    | some (.int x) => bnd e (fun y => match y with
      | .int z => putIx j k (.int (f x z)) di
      | _ => fun _ => none) ρ
    | _ => none)
  | _ => none
theorem sx_augIx {st : Stmt} {j : Nat} {s : Sl} {me mi : M D} {f : Int → Int → Int} (hp : PS X st (tAugS (tVar j) (tOf X.K g κ b1 k1 mi) (tOf X.K g κ b2 k2 me) (rIxL X.K) (ipI f) rSetL)) (hj : κ[j]? = some s) (hs : s.kd = .lst k) (hk : k.fl = true := by rfl) (h1 : k1.fl = true := by rfl) (h2 : k2.fl = true := by rfl) :
    SX X g κ kr st (mAugIx j k f mi me) := PS.weak hp fun D0 σ H ⟨B, F, ρ, fl, ρ', ok, hm, q⟩ => by
  obtain ⟨dv, ρ1, hv, hm1⟩ := bnd_some hm
  obtain ⟨hvr, rfl⟩ := eVar_some hv
  obtain ⟨di, ρ2, hi, hm2⟩ := bnd_some hm1
  obtain ⟨vv, hσ, _⟩ := ok.get hj hvr
  refine ⟨vv, hσ, B, F, _, di, ρ2, ok, hi, fun vi F1 H1 ok1 e1 q1 w1 => ?_⟩
  have hm2 : (match ρ2[j]? with
    | some (some (.lst ds)) => (match dIxO (.lst ds) di with
      | some (.int x) => bnd me (fun y => match y with
        | .int z => putIx j k (.int (f x z)) di
        | _ => fun _ => none) ρ2
      | _ => none)
    | _ => none) = some (fl, ρ') := hm2
  split at hm2
  · rename_i ds hr
    split at hm2
    · rename_i x hx
      obtain ⟨y, ρ3, hy, hm3⟩ := bnd_some hm2
      cases y <;> try (cases hm3)
      rename_i z
      obtain ⟨ds2, n, hr2, hn, hok, rfl, rfl⟩ := putIx_some hm3
      obtain ⟨i, rfl⟩ : ∃ i, di = D.int i := by cases di <;> first | exact ⟨_, rfl⟩ | cases hn
      have hx : atI ds i = some (D.int x) := hx
      have hn : ixN ds2.length i = some n := hn
      obtain ⟨a, vs, hσ1, ha, hl, it, _⟩ := ok1.write (ds' := ds) hj hs hk hr
      rw [hσ] at hσ1
      cases hσ1
      unfold atI at hx
      obtain ⟨n1, hn1, hn2⟩ := Option.bind_eq_some_iff.mp hx
      have hlt : n1 < vs.length := by
        rw [← hl]
        exact (List.getElem?_eq_some_iff.mp hn2).1
      have hit := it n1 _ vs[n1] hn2 (by simp [hlt])
      refine ⟨a, vs, i, vs[n1], rfl, (w1.rep h1).ofInt, SqL.of ha, by unfold atI; rw [← hl, hn1]; simp [hlt], ?_⟩
      refine ⟨B, F1, ρ2, .int z, ρ3, ok1, hy, fun u F2 H2 ok2 e2 q2 w2 => ⟨x, z, (hit.rep hk).ofInt, (w2.rep h2).ofInt, ?_⟩⟩
      obtain ⟨a2, vs2, hσ2, ha2, hl2, it2, go⟩ := ok2.write (ds' := ds2.set n (.int (f x z))) hj hs hk hr2
      rw [hσ] at hσ2
      cases hσ2
      refine ⟨_, vs2, i, n, rfl, (w1.rep h1).ofInt, ha2, by rw [← hl2]; exact hn, ?_⟩
      exact q σ F2 _ (go (vs2.set n (.int (f x z))) (by rw [List.length_set, List.length_set, hl2]) (vws_set hl2 it2 (vw_okK (H := H2) (.sc rfl) hok (Ex.refl F2)))) (e1.trans e2)
    · cases hm2
  · cases hm2
/-- xs.append(e) -/
def mApp (j : Nat) (k : Kd) (e : M D) : M Fl := bnd (eVar j) fun _ => bnd e fun d => fun ρ => match ρ[j]? with
  | some (some (.lst ds)) => if okK k d ∧ ds.length < 100000 then some (.nx, ρ.set j (some (.lst (ds ++ [d])))) else none
  | _ => none
theorem sx_app {st : Stmt} {j : Nat} {s : Sl} {me : M D} (hp : PS X st (tDrop (tBM X.K "list" rAppend (tVar j) (tCons (tOf X.K g κ b k1 me) tNil)))) (hj : κ[j]? = some s) (hs : s.kd = .lst k) (hk : k.fl = true := by rfl) (h1 : k1.fl = true := by rfl) :
    SX X g κ kr st (mApp j k me) := PS.weak hp fun D0 σ H ⟨B, F, ρ, f, ρ', ok, hm, q⟩ => by
  obtain ⟨dv, ρ1, hv, hm1⟩ := bnd_some hm
  obtain ⟨hvr, rfl⟩ := eVar_some hv
  obtain ⟨d, ρ2, hd, hm2⟩ := bnd_some hm1
  obtain ⟨vv, hσ, w0⟩ := ok.get hj hvr
  rw [hs] at w0
  obtain ⟨a0, vs0, ds0, e0, rfl, ha0, _⟩ := w0
  have hm2 : (match ρ2[j]? with
    | some (some (.lst ds)) => if okK k d ∧ ds.length < 100000 then some (Fl.nx, ρ2.set j (some (.lst (ds ++ [d])))) else none
    | _ => none) = some (f, ρ') := hm2
  split at hm2
  · rename_i ds hr
    split at hm2
    · rename_i hc
      cases hm2
      refine ⟨.ref a0, hσ, .inl ⟨rfl, _, SqL.of ha0⟩, B, F, _, d, ρ2, ok, hd, fun v F1 H1 ok1 e1 q1 w1 => ?_⟩
      obtain ⟨a, vs, hσ1, ha, hl, it, go⟩ := ok1.write (ds' := ds ++ [d]) hj hs hk hr
      rw [hσ] at hσ1
      cases hσ1
      refine ⟨a0, vs, v, rfl, rfl, ha, by rw [← hl]; exact Nat.lt_of_lt_of_le hc.2 (by decide), ?_⟩
      refine q σ F1 _ (go (vs ++ [v]) (by rw [List.length_append, List.length_append, hl]; rfl) (vws_app hl it fun i x y p p' => ?_)) e1
      cases i with
      | zero =>
        cases p
        cases p'
        exact vw_okK (H := H1) (w1.rep h1) hc.1 (Ex.refl F1)
      | succ i => simp at p
    · cases hm2
  · cases hm2

/-! ### what a loop walks -/
/-- the iterator J yields what stands for ds, item by item, while the frozen heap stays -/
structure Yl (K : PySem.W.Frag) (g : Gx) (J : It) (F0 : Hp) (ds : List D) : Prop where
  go : ∀ (i : Nat) F H, i < ds.length → Ex F0 F → Ex F H → J.go i H
  yl : ∀ (i : Nat) F H x H', i < ds.length → Ex F0 F → Ex F H → J.yld i H x H' →
    (H' = H ∧ ∃ d, ds[i]? = some d ∧ Rep K g F d x) ∨ (∃ T vs es, H T = none ∧ H' = L2.upd H T (.tup vs) ∧ x = .ref T ∧ ds[i]? = some (.tup es) ∧ Reps K g F es vs)
  stop : ∀ F H, Ex F0 F → Ex F H → J.stop ds.length H
def iOf (K : PySem.W.Frag) (g : Gx) (κ : List Sl) (b : Bool) (m : M (List D)) : TI := fun σ H R => ∃ B F ρ ds ρ', Ok K g κ B F H σ ρ ∧ m ρ = some (ds, ρ') ∧
  ∀ J F' H', Ok K g κ B F' H' σ ρ' → Ex F F' → (b = true → ExT g H H') → Yl K g J F' ds → R J H'
abbrev IX (X : Cx) (g : Gx) (κ : List Sl) (b : Bool) (tg iter : Expr) (m : M (List D)) : Prop := PI X tg iter (iOf X.K g κ b m)
theorem PI.weak {tg it : Expr} {t t' : TI} (h : PI X tg it t) (w : ∀ σ H R, t' σ H R → t σ H R) : PI X tg it t' := ⟨fun pins s σ H R I q => h.run pins s σ H R I (w σ H R q)⟩
theorem PI.or {tg it : Expr} {t t' : TI} (h : PI X tg it t) (h' : PI X tg it t') : PI X tg it (fun σ H R => t σ H R ∨ t' σ H R) := ⟨fun pins s σ H R I q => by
  rcases q with q | q
  · exact h.run pins s σ H R I q
  · exact h'.run pins s σ H R I q⟩
theorem yl_list {K : PySem.W.Frag} {F0 : Hp} {a : Addr} {vs : List V} {ds : List D} (l : SqL K F0 a vs) (r : Reps K g F0 ds vs) : Yl K g (Itl K a) F0 ds where
  go := fun i F H hi e1 e2 => by
    rw [r.length] at hi
    exact ⟨vs, vs[i], ex_l (e1.trans e2) l, by simp [hi]⟩
  yl := fun i F H x H' hi e1 e2 y => by
    obtain ⟨rfl, y⟩ := y
    have hx := y vs (ex_l (e1.trans e2) l)
    obtain ⟨d, h1, h2⟩ := r.get' hx
    exact .inl ⟨rfl, d, h1, h2.mono e1⟩
  stop := fun F H e1 e2 => ⟨vs, ex_l (e1.trans e2) l, by rw [r.length]; exact Nat.le_refl _⟩
theorem yl_tup {K : PySem.W.Frag} {F0 : Hp} {a : Addr} {vs : List V} {ds : List D} (l : SqT K F0 a vs) (r : Reps K g F0 ds vs) : Yl K g (Itt K a) F0 ds where
  go := fun i F H hi e1 e2 => by
    rw [r.length] at hi
    exact ⟨vs, vs[i], ex_t (e1.trans e2) l, by simp [hi]⟩
  yl := fun i F H x H' hi e1 e2 y => by
    obtain ⟨rfl, y⟩ := y
    have hx := y vs (ex_t (e1.trans e2) l)
    obtain ⟨d, h1, h2⟩ := r.get' hx
    exact .inl ⟨rfl, d, h1, h2.mono e1⟩
  stop := fun F H e1 e2 => ⟨vs, ex_t (e1.trans e2) l, by rw [r.length]; exact Nat.le_refl _⟩
def iSeq (m : M D) : M (List D) := bnd m fun d => lft (itemsD d)
theorem ix_seq' {tg it : Expr} {m : M D} (h : EX X g κ b k it m) (hk : k.fl = true := by rfl) : IX X g κ b tg it (iSeq m) :=
  PI.weak (PI.or (pi_list h) (pi_tup h)) fun σ H R ⟨B, F, ρ, ds, ρ', ok, hm, q⟩ => by
    obtain ⟨d, ρ1, h1, h2⟩ := bnd_some hm
    obtain ⟨h3, rfl⟩ := lft_some h2
    cases d with
    | lst es =>
      cases h3
      refine .inl ⟨B, F, ρ, _, _, ok, h1, fun v F1 H1 ok1 e1 q1 w1 => ?_⟩
      obtain ⟨a, vs, rfl, l, rs⟩ := (w1.rep hk).ofLst
      exact ⟨a, rfl, ⟨vs, SqL.of (ok1.1.sub _ _ l)⟩, q _ F1 H1 ok1 e1 q1 (yl_list (SqL.of l) rs)⟩
    | scr ns =>
      cases h3
      refine .inl ⟨B, F, ρ, _, _, ok, h1, fun v F1 H1 ok1 e1 q1 w1 => ?_⟩
      obtain ⟨a, rfl, l⟩ := (w1.rep hk).ofScr
      exact ⟨a, rfl, ⟨_, ex_l ok1.1.sub l⟩, q _ F1 H1 ok1 e1 q1 (yl_list l (reps_ints ns))⟩
    | tup es =>
      cases h3
      refine .inr ⟨B, F, ρ, _, _, ok, h1, fun v F1 H1 ok1 e1 q1 w1 => ?_⟩
      obtain ⟨a, vs, rfl, l, rs⟩ := (w1.rep hk).ofTup
      exact ⟨a, rfl, ⟨vs, ex_t ok1.1.sub l⟩, q _ F1 H1 ok1 e1 q1 (yl_tup l rs)⟩
    | _ => cases h3
end
end DL

set_option maxHeartbeats 4000000
/-! DL7: for, while, ranges, enumerate; comprehensions. -/
namespace DL
open PySem PySem.Spec PyProof.Rows L2

theorem bnd_of {α β : Type} {x : M α} {f : α → M β} {ρ ρ1 : Rho} {a : α} {r : Option (β × Rho)} (h : x ρ = some (a, ρ1)) (h2 : f a ρ1 = r) : bnd x f ρ = r := by
  unfold bnd
  rw [h]
  exact h2
def forM (t : D → M Unit) (body : M Fl) : List D → M Fl
  | [] => ret .nx
  | x :: xs => bnd (t x) fun _ => bnd body fun f => match f with
    | .nx => forM t body xs
    | .ct => forM t body xs
    | .bk => ret .nx
    | .rt d => ret (.rt d)
def mFor (it : M (List D)) (t : D → M Unit) (body : M Fl) : M Fl := bnd it fun ds => forM t body ds
def whileN (c : M Bool) (body : M Fl) : Nat → M Fl
  | 0 => fun _ => none
  | n + 1 => bnd c fun x => if x then bnd body fun f => (match f with
    | .nx => whileN c body n
    | .ct => whileN c body n
    | .bk => ret .nx
    | .rt d => ret (.rt d)) else ret .nx
theorem whileN_mono {c : M Bool} {body : M Fl} : ∀ {n : Nat} {ρ : Rho} {r}, whileN c body n ρ = some r → whileN c body (n + 1) ρ = some r
  | 0, _, _, h => by cases h
  | n + 1, ρ, ⟨f, ρ'⟩, h => by
    rw [whileN] at h ⊢
    obtain ⟨x, ρ1, h1, h2⟩ := bnd_some h
    refine bnd_of h1 ?_
    cases x with
    | false => exact h2
    | true =>
      rw [if_pos rfl] at h2 ⊢
      obtain ⟨f1, ρ2, h3, h4⟩ := bnd_some h2
      refine bnd_of h3 ?_
      cases f1 with
      | nx => exact whileN_mono h4
      | ct => exact whileN_mono h4
      | bk => exact h4
      | rt d => exact h4
theorem whileN_le {c : M Bool} {body : M Fl} {n : Nat} {ρ : Rho} {r} (h : whileN c body n ρ = some r) : ∀ k, whileN c body (n + k) ρ = some r
  | 0 => h
  | k + 1 => whileN_mono (whileN_le h k)
open Classical in
/-- a while loop, where it ends -/
noncomputable def mWhile (c : M Bool) (body : M Fl) : M Fl := fun ρ => if h : ∃ n r, whileN c body n ρ = some r then whileN c body (Classical.choose h) ρ else none
theorem mWhile_some {c : M Bool} {body : M Fl} {ρ : Rho} {r} (h : mWhile c body ρ = some r) : ∃ n, whileN c body n ρ = some r := by
  unfold mWhile at h
  split at h
  · exact ⟨_, h⟩
  · cases h
theorem mWhile_of {c : M Bool} {body : M Fl} {n : Nat} {ρ : Rho} {r} (h : whileN c body n ρ = some r) : mWhile c body ρ = some r := by
  have hh : ∃ n r, whileN c body n ρ = some r := ⟨n, r, h⟩
  unfold mWhile
  rw [dif_pos hh]
  obtain ⟨r', h'⟩ := Classical.choose_spec hh
  rw [h']
  have a := whileN_le h (Classical.choose hh)
  have b := whileN_le h' n
  rw [Nat.add_comm] at b
  rw [a] at b
  exact b.symm
/-- one turn -/
theorem mWhile_turn {c : M Bool} {body : M Fl} {ρ ρ1 ρ2 : Rho} {r} (hc : c ρ = some (true, ρ1)) (hb : body ρ1 = some (.nx, ρ2)) (h : mWhile c body ρ2 = some r) : mWhile c body ρ = some r := by
  obtain ⟨n, hn⟩ := mWhile_some h
  refine mWhile_of (n := n + 1) ?_
  rw [whileN]
  refine bnd_of hc ?_
  rw [if_pos rfl]
  exact bnd_of hb hn
theorem mWhile_end {c : M Bool} {body : M Fl} {ρ ρ1 : Rho} (hc : c ρ = some (false, ρ1)) : mWhile c body ρ = some (.nx, ρ1) := by
  refine mWhile_of (n := 1) ?_
  rw [whileN]
  exact bnd_of hc rfl
/-- a turn that leaves -/
theorem mWhile_out {c : M Bool} {body : M Fl} {ρ ρ1 ρ2 : Rho} {f : Fl} (hc : c ρ = some (true, ρ1)) (hb : body ρ1 = some (f, ρ2)) (hf : f = .bk ∨ ∃ d, f = .rt d) : mWhile c body ρ = some (match f with | .rt d => .rt d | _ => .nx, ρ2) := by
  refine mWhile_of (n := 1) ?_
  rw [whileN]
  refine bnd_of hc ?_
  rw [if_pos rfl]
  refine bnd_of hb ?_
  rcases hf with rfl | ⟨d, rfl⟩ <;> rfl
section
variable {X : Cx} {g : Gx} {κ : List Sl} {b b1 b2 b3 : Bool} {k k1 k2 k3 kr : Kd} {pos : Pos}
/-- what the loop's walked thing yields: an item, its data frozen -/
theorem yl_item {K : PySem.W.Frag} {J : It} {F1 : Hp} {ds : List D} (Y : Yl K g J F1 ds) {B : Bs} {F H H' : Hp} {σ : L2.St} {ρ : Rho} {i : Nat} {x : V} {d : D} (ok : Ok K g κ B F H σ ρ) (e : Ex F1 F) (hi : ds[i]? = some d) (y : J.yld i H x H') :
    ∃ F', Ex F F' ∧ Ok K g κ B F' H' σ ρ ∧ Rep K g F' d x := by
  have hlt := (List.getElem?_eq_some_iff.mp hi).1
  rcases Y.yl i F H x H' hlt e ok.1.sub y with ⟨rfl, d', h1, h2⟩ | ⟨T, vs, es, hT, rfl, rfl, h1, h2⟩
  · rw [hi] at h1
    cases h1
    exact ⟨F, Ex.refl F, ok, h2⟩
  · rw [hi] at h1
    cases h1
    have fT := ok.fnone hT
    exact ⟨_, .new fT, ok.newF (o := .tup vs) hT, .tup (.inl (.inl upd_same)) (h2.mono (.new fT))⟩
theorem sx_for {st : Stmt} {it : M (List D)} {t : D → M Unit} {body : M Fl} (hp : PS X st (tFor (iOf X.K g κ b it) (gOf X.K g κ t) (sOf X.K g κ kr body))) : SX X g κ kr st (mFor it t body) :=
  PS.weak hp fun D0 σ H ⟨B, F, ρ, fl, ρ', ok, hm, q⟩ => by
    obtain ⟨ds, ρ1, h1, h2⟩ := bnd_some hm
    refine ⟨B, F, ρ, ds, ρ1, ok, h1, fun J F1 H1 ok1 e1 q1 Y => ?_⟩
    refine ⟨fun i m σ H => m = ds.length - i ∧ i ≤ ds.length ∧ ∃ F2 ρ2, Ex F1 F2 ∧ Ok X.K g κ B F2 H σ ρ2 ∧ forM t body (ds.drop i) ρ2 = some (fl, ρ'), ⟨ds.length, by simp, Nat.zero_le _, F1, ρ1, Ex.refl F1, ok1, by rw [List.drop_zero]; exact h2⟩, ?_⟩
    rintro i m σ2 H2 ⟨rfl, hi, F2, ρ2, e2, ok2, hf⟩
    by_cases hlt : i < ds.length
    · right
      refine ⟨Y.go i F2 H2 hlt e2 ok2.1.sub, fun σ' H' => ∃ F2 ρ2, Ex F1 F2 ∧ Ok X.K g κ B F2 H' σ' ρ2 ∧ forM t body (ds.drop (i + 1)) ρ2 = some (fl, ρ'), fun σ' H' ⟨F3, ρ3, e3, ok3, h3⟩ => ⟨ds.length - (i + 1), by omega, rfl, hlt, F3, ρ3, e3, ok3, h3⟩, fun x H3 y => ?_⟩
      have hd : ds[i]? = some ds[i] := by simp [hlt]
      obtain ⟨F3, e3, ok3, r3⟩ := yl_item Y ok2 e2 hd y
      rw [List.drop_eq_getElem_cons hlt] at hf
      obtain ⟨_, ρ3, h3, h4⟩ := bnd_some hf
      obtain ⟨f, ρ4, h5, h6⟩ := bnd_some h4
      refine ⟨B, F3, ρ2, _, ρ3, ok3, r3, h3, fun σ3 ok4 => ⟨B, F3, ρ3, f, ρ4, ok4, h5, ?_⟩⟩
      have e13 := e2.trans e3
      cases f with
      | nx => exact fun σ5 F5 H5 ok5 e5 => ⟨F5, ρ4, e13.trans e5, ok5, h6⟩
      | ct => exact fun σ5 F5 H5 ok5 e5 => ⟨F5, ρ4, e13.trans e5, ok5, h6⟩
      | bk =>
        obtain ⟨rfl, rfl⟩ := ret_some h6
        exact fun σ5 F5 H5 ok5 e5 => q σ5 F5 H5 ok5 (e1.trans (e13.trans e5))
      | rt d =>
        obtain ⟨rfl, rfl⟩ := ret_some h6
        exact fun v σ5 F5 H5 ok5 e5 => q v σ5 F5 H5 ok5 (e1.trans (e13.trans e5))
    · have e : i = ds.length := by omega
      subst e
      rw [List.drop_length] at hf
      obtain ⟨rfl, rfl⟩ := ret_some hf
      exact .inl ⟨Y.stop F2 H2 e2 ok2.1.sub, q σ2 F2 H2 ok2 (e1.trans e2)⟩
theorem sx_while {st : Stmt} {c : M Bool} {body : M Fl} (hp : PS X st (tWhile (ttOf X.K g κ b c) (sOf X.K g κ kr body))) : SX X g κ kr st (mWhile c body) :=
  PS.weak hp fun D0 σ H ⟨B, F, ρ, fl, ρ', ok, hm, q⟩ => by
    obtain ⟨n, hn⟩ := mWhile_some hm
    refine ⟨fun m σ H => ∃ F2 ρ2, Ex F F2 ∧ Ok X.K g κ B F2 H σ ρ2 ∧ whileN c body m ρ2 = some (fl, ρ'), ⟨n, F, ρ, Ex.refl F, ok, hn⟩, ?_⟩
    rintro m σ2 H2 ⟨F2, ρ2, e2, ok2, h2⟩
    cases m with
    | zero => cases h2
    | succ m =>
      rw [whileN] at h2
      obtain ⟨x, ρ3, h3, h4⟩ := bnd_some h2
      refine ⟨B, F2, ρ2, x, ρ3, ok2, h3, fun F3 H3 ok3 e3 q3 => ?_⟩
      cases x with
      | false =>
        rw [if_neg Bool.false_ne_true] at h4 ⊢
        obtain ⟨rfl, rfl⟩ := ret_some h4
        exact q σ2 F3 H3 ok3 (e2.trans e3)
      | true =>
        rw [if_pos rfl] at h4 ⊢
        obtain ⟨f, ρ4, h5, h6⟩ := bnd_some h4
        refine ⟨fun σ' H' => ∃ F2 ρ2, Ex F F2 ∧ Ok X.K g κ B F2 H' σ' ρ2 ∧ whileN c body m ρ2 = some (fl, ρ'), fun σ' H' z => ⟨m, Nat.lt_succ_self m, z⟩, B, F3, ρ3, f, ρ4, ok3, h5, ?_⟩
        have e13 := e2.trans e3
        cases f with
        | nx => exact fun σ5 F5 H5 ok5 e5 => ⟨F5, ρ4, e13.trans e5, ok5, h6⟩
        | ct => exact fun σ5 F5 H5 ok5 e5 => ⟨F5, ρ4, e13.trans e5, ok5, h6⟩
        | bk =>
          obtain ⟨rfl, rfl⟩ := ret_some h6
          exact fun σ5 F5 H5 ok5 e5 => q σ5 F5 H5 ok5 (e13.trans e5)
        | rt d =>
          obtain ⟨rfl, rfl⟩ := ret_some h6
          exact fun v σ5 F5 H5 ok5 e5 => q v σ5 F5 H5 ok5 (e13.trans e5)

/-! ### ranges, enumerate -/
def rangeD (lo : Int) (n : Nat) : List D := (List.range n).map fun (i : Nat) => D.int (lo + i)
theorem rangeD_len (lo : Int) (n : Nat) : (rangeD lo n).length = n := by simp [rangeD]
theorem rangeD_get (lo : Int) (n i : Nat) (h : i < n) : (rangeD lo n)[i]? = some (.int (lo + i)) := by simp [rangeD, h]
theorem yl_range {K : PySem.W.Frag} {F0 : Hp} (lo : Int) (n : Nat) : Yl K g (Itr lo n) F0 (rangeD lo n) where
  go := fun i F H hi _ _ => by rw [rangeD_len] at hi; exact hi
  yl := fun i F H x H' hi e1 e2 y => by
    rw [rangeD_len] at hi
    obtain ⟨rfl, rfl⟩ := y
    exact .inl ⟨rfl, _, rangeD_get lo n i hi, .sc rfl⟩
  stop := fun F H _ _ => by rw [rangeD_len]; exact Nat.le_refl n
def iR1 (a : M (List D)) : M (List D) := bnd a fun ds => lft (match ds with
  | [.int n] => if -(2 ^ 62) ≤ n ∧ n < 2 ^ 62 then some (rangeD 0 n.toNat) else none
  | _ => none)
def iR2 (a : M (List D)) : M (List D) := bnd a fun ds => lft (match ds with
  | [.int lo, .int n] => if -(2 ^ 62) ≤ lo ∧ lo < 2 ^ 62 ∧ -(2 ^ 62) ≤ n ∧ n < 2 ^ 62 then some (rangeD lo (n - lo).toNat) else none
  | _ => none)
theorem ix_r1 {tg e : Expr} {p pos : Pos} {a : M (List D)} (h : AL X g κ b [e] a) (hm : X.mg "range" = none) (hg : Gl X "range" := by rfl) (hs : starEach [e] X.env = [(false, eval e X.env)] := by rfl) : IX X g κ b tg (.Call (.Name "range" p) [e] [] pos) (iR1 a) :=
  PI.weak (pi_range1 hg hm h.pa hs) fun σ H R ⟨B, F, ρ, ds, ρ', ok, hm, q⟩ => by
    obtain ⟨xs, ρ1, h1, h2⟩ := bnd_some hm
    obtain ⟨h3, rfl⟩ := lft_some h2
    split at h3
    · rename_i n
      split at h3
      · rename_i hb
        cases h3
        refine ⟨B, F, ρ, _, _, ok, h1, fun vs F1 H1 ok1 e1 q1 w1 => ⟨n, ?_, hb.1, hb.2, q _ F1 H1 ok1 e1 q1 (yl_range 0 n.toNat)⟩⟩
        cases w1 with
        | cons w1 w2 => cases w2; rw [w1.ofInt]
      · cases h3
    · cases h3
theorem ix_r2 {tg e e' : Expr} {p pos : Pos} {a : M (List D)} (h : AL X g κ b [e, e'] a) (hm : X.mg "range" = none) (hg : Gl X "range" := by rfl) (hs : starEach [e, e'] X.env = [(false, eval e X.env), (false, eval e' X.env)] := by rfl) (hs2 : starEach [e'] X.env = [(false, eval e' X.env)] := by rfl) : IX X g κ b tg (.Call (.Name "range" p) [e, e'] [] pos) (iR2 a) :=
  PI.weak (pi_range2 hg hm h.pa hs hs2) fun σ H R ⟨B, F, ρ, ds, ρ', ok, hm, q⟩ => by
    obtain ⟨xs, ρ1, h1, h2⟩ := bnd_some hm
    obtain ⟨h3, rfl⟩ := lft_some h2
    split at h3
    · rename_i lo n
      split at h3
      · rename_i hb
        cases h3
        refine ⟨B, F, ρ, _, _, ok, h1, fun vs F1 H1 ok1 e1 q1 w1 => ⟨lo, n, ?_, hb, q _ F1 H1 ok1 e1 q1 (yl_range lo _)⟩⟩
        cases w1 with
        | cons w1 w2 => cases w2 with
          | cons w2 w3 => cases w3; rw [w1.ofInt, w2.ofInt]
      · cases h3
    · cases h3
def enumD : Nat → List D → List D
  | _, [] => []
  | i, d :: ds => .tup [.int i, d] :: enumD (i + 1) ds
theorem enumD_len : ∀ (i : Nat) (ds : List D), (enumD i ds).length = ds.length
  | _, [] => rfl
  | i, d :: ds => by rw [enumD, List.length_cons, List.length_cons, enumD_len]
theorem enumD_get : ∀ (i j : Nat) (ds : List D), (enumD i ds)[j]? = ds[j]?.map fun d => .tup [.int ((i + j : Nat) : Int), d]
  | _, _, [] => by simp [enumD]
  | i, 0, d :: ds => by simp [enumD]
  | i, j + 1, d :: ds => by
    rw [enumD, List.getElem?_cons_succ, List.getElem?_cons_succ, enumD_get]
    have : i + 1 + j = i + (j + 1) := by omega
    rw [this]
def listD : D → Option (List D)
  | .lst ds => some ds
  | _ => none
def iEnumM (m : M D) : M (List D) := bnd m fun d => lft ((listD d).map (enumD 0))
theorem yl_enum {K : PySem.W.Frag} {F0 : Hp} {a : Addr} {vs : List V} {ds : List D} (l : F0 a = some (.lst vs)) (r : Reps K g F0 ds vs) : Yl K g (Ite K a) F0 (enumD 0 ds) where
  go := fun i F H hi e1 e2 => by
    rw [enumD_len, r.length] at hi
    exact ⟨vs, vs[i], SqL.of ((e1.trans e2) _ _ l), by simp [hi]⟩
  yl := fun i F H x H' hi e1 e2 y => by
    obtain ⟨T, z, rfl, hT, rfl, y⟩ := y
    have hx := y vs (SqL.of ((e1.trans e2) _ _ l))
    obtain ⟨d, h1, h2⟩ := r.get' hx
    refine .inr ⟨T, _, [.int ((0 + i : Nat) : Int), d], hT, rfl, rfl, by rw [enumD_get, h1]; rfl, .cons ?_ (.cons (h2.mono e1) .nil)⟩
    rw [Nat.zero_add]
    exact .sc rfl
  stop := fun F H e1 e2 => ⟨vs, SqL.of ((e1.trans e2) _ _ l), by rw [enumD_len, r.length]; exact Nat.le_refl _⟩
theorem ix_enum {e : Expr} {p pos tpos : Pos} {elts : List Expr} {kk : Nat} {m : M D} (h : EX X g κ b k e m) (hm : X.mg "enumerate" = none) (hk : k.fl = true := by rfl) (hg : Gl X "enumerate" := by rfl) (hs : starEach [e] X.env = [(false, eval e X.env)] := by rfl) : IX X g κ b (.Tuple elts kk tpos) (.Call (.Name "enumerate" p) [e] [] pos) (iEnumM m) :=
  PI.weak (pi_enum hg hm (pa_cons h pa_nil (by rw [hs]; rfl)) hs) fun σ H R ⟨B, F, ρ, ds, ρ', ok, hm, q⟩ => by
    obtain ⟨d, ρ1, h1, h2⟩ := bnd_some hm
    obtain ⟨h3, rfl⟩ := lft_some h2
    obtain ⟨es, h4, rfl⟩ := Option.map_eq_some_iff.mp h3
    cases d <;> try (cases h4)
    refine ⟨B, F, ρ, _, _, ok, h1, fun v F1 H1 ok1 e1 q1 w1 => ?_⟩
    obtain ⟨a, vs, rfl, l, rs⟩ := (w1.rep hk).ofLst
    exact ⟨a, vs, rfl, SqL.of (ok1.1.sub _ _ l), q _ F1 H1 ok1 e1 q1 (yl_enum l rs)⟩
end
end DL

set_option maxHeartbeats 4000000
/-! DL8: comprehensions. -/
namespace DL
open PySem PySem.Spec PyProof.Rows L2

/-- a comprehension's block: its own names' slots are its own, all others stand -/
def blkK (κ : List Sl) (vs : List Nat) : List Sl := κ.mapIdx fun i s => if i ∈ vs then { kd := .im, io := false } else { s with io := true }
theorem blkK_get {κ : List Sl} {vs : List Nat} {i : Nat} {s : Sl} (h : (blkK κ vs)[i]? = some s) : ∃ t, κ[i]? = some t ∧ s = if i ∈ vs then { kd := .im, io := false } else { t with io := true } := by
  unfold blkK at h
  rw [List.getElem?_mapIdx] at h
  obtain ⟨t, h1, h2⟩ := Option.map_eq_some_iff.mp h
  exact ⟨t, h1, h2.symm⟩
theorem blkK_len (κ : List Sl) (vs : List Nat) : (blkK κ vs).length = κ.length := by simp [blkK]
def wipeR (ρ : Rho) : List Nat → Rho
  | [] => ρ
  | v :: vs => (wipeR ρ vs).set v none
def restore (ρ ρ2 : Rho) : List Nat → Rho
  | [] => ρ2
  | v :: vs => (restore ρ ρ2 vs).set v (ρ[v]?).join
theorem wipeR_len (ρ : Rho) : ∀ vs : List Nat, (wipeR ρ vs).length = ρ.length
  | [] => rfl
  | v :: vs => by rw [wipeR, List.length_set, wipeR_len]
theorem restore_len (ρ ρ2 : Rho) : ∀ vs : List Nat, (restore ρ ρ2 vs).length = ρ2.length
  | [] => rfl
  | v :: vs => by rw [restore, List.length_set, restore_len]
theorem wipeR_get (ρ : Rho) {i : Nat} : ∀ {vs : List Nat}, (wipeR ρ vs)[i]? = if i ∈ vs then (ρ[i]?).map fun _ => none else ρ[i]?
  | [] => by simp [wipeR]
  | v :: vs => by
    rw [wipeR]
    by_cases h : v = i
    · subst h
      rw [if_pos List.mem_cons_self]
      by_cases hl : v < ρ.length
      · rw [List.getElem?_set_self (by rw [wipeR_len]; exact hl), List.getElem?_eq_getElem hl]; rfl
      · rw [List.getElem?_eq_none (by rw [List.length_set, wipeR_len]; omega), List.getElem?_eq_none (by omega)]; rfl
    · rw [List.getElem?_set_ne h, wipeR_get ρ]
      have : (i ∈ v :: vs) ↔ i ∈ vs := ⟨fun z => (List.mem_cons.mp z).resolve_left fun w => h w.symm, List.mem_cons_of_mem _⟩
      simp only [this]
theorem wipe_get (σ : L2.St) {i : Nat} : ∀ {vs : List Nat}, (wipe σ vs)[i]? = if i ∈ vs then (σ[i]?).map fun _ => none else σ[i]?
  | [] => by simp [wipe]
  | v :: vs => by
    rw [wipe]
    by_cases h : v = i
    · subst h
      rw [if_pos List.mem_cons_self]
      by_cases hl : v < σ.length
      · rw [List.getElem?_set_self (by rw [wipe_length]; exact hl), List.getElem?_eq_getElem hl]; rfl
      · rw [List.getElem?_eq_none (by rw [List.length_set, wipe_length]; omega), List.getElem?_eq_none (by omega)]; rfl
    · rw [List.getElem?_set_ne h, wipe_get σ]
      have : (i ∈ v :: vs) ↔ i ∈ vs := ⟨fun z => (List.mem_cons.mp z).resolve_left fun w => h w.symm, List.mem_cons_of_mem _⟩
      simp only [this]
theorem restore_get (ρ ρ2 : Rho) (hl : ρ.length = ρ2.length) {i : Nat} : ∀ {vs : List Nat}, (restore ρ ρ2 vs)[i]? = if i ∈ vs then ρ[i]? else ρ2[i]?
  | [] => by simp [restore]
  | v :: vs => by
    rw [restore]
    by_cases h : v = i
    · subst h
      rw [if_pos List.mem_cons_self]
      by_cases hv : v < ρ.length
      · rw [List.getElem?_set_self (by rw [restore_len]; omega), List.getElem?_eq_getElem hv]; rfl
      · rw [List.getElem?_eq_none (by rw [List.length_set, restore_len]; omega), List.getElem?_eq_none (by omega)]
    · rw [List.getElem?_set_ne h, restore_get ρ ρ2 hl]
      have : (i ∈ v :: vs) ↔ i ∈ vs := ⟨fun z => (List.mem_cons.mp z).resolve_left fun w => h w.symm, List.mem_cons_of_mem _⟩
      simp only [this]
/-- a flat kind asks nothing of the heap -/
theorem vw_flat {K : PySem.W.Frag} {g : Gx} {F F' H H' : Hp} {k : Kd} {d : D} {v : V} (hk : k.fl = true) (e : Ex F F') (w : Vw K g F H k d v) : Vw K g F' H' k d v := by
  cases k with
  | sc => exact w
  | im => exact Rep.mono e w
  | lst k => cases hk
  | ins c => cases hk
/-- the slots of a block's own names: flat -/
def ownOk (κ : List Sl) (vs : List Nat) : Bool := vs.all fun i => match κ[i]? with
  | some s => s.kd.fl
  | none => false
theorem ownOk_at {κ : List Sl} {vs : List Nat} (h : ownOk κ vs = true) {i : Nat} (hi : i ∈ vs) : ∃ s, κ[i]? = some s ∧ s.kd.fl = true := by
  have := List.all_eq_true.mp h i hi
  cases e : κ[i]? with
  | none => rw [e] at this; cases this
  | some s =>
    rw [e] at this
    exact ⟨s, rfl, this⟩
section
variable {K : PySem.W.Frag} {g : Gx} {κ : List Sl} {B : Bs} {F F' H H' : Hp} {σ σ' : L2.St} {ρ ρ' : Rho} {k : Kd} {d : D} {v : V}
theorem OkN.there (h : OkN K g κ B F H σ ρ k d v) : ∃ S, HoldE K g κ B F H σ ρ S ∧ Hold K g F H k d v (S κ.length) ∧ (∀ b, S κ.length b → B.H0 b = none) ∧ ∀ i b, S i b → F b = none ∧ ∃ o, H b = some o ∧ mutO o = true :=
  let ⟨_, S, e, hd, hn⟩ := h
  ⟨_, e.there, hd.there, fun b z => hn b z.1, fun _ _ z => z.2⟩
/-- into a comprehension's block, a new list beside; and out of it -/
theorem OkN.block (h : OkN K g κ B F H σ ρ k d v) {vs : List Nat} (hf : ownOk κ vs = true) : ∃ io, Ok K g (blkK κ vs) ⟨H, F, io, wipe σ vs⟩ F H (wipe σ vs) (wipeR ρ vs) ∧
    ∀ F2 H2 σ2 ρ2, Ok K g (blkK κ vs) ⟨H, F, io, wipe σ vs⟩ F2 H2 σ2 ρ2 → OkN K g κ B F2 H2 σ (restore ρ ρ2 vs) k d v := by
  obtain ⟨S, e, hd, hn, th⟩ := h.there
  have c := h.1
  refine ⟨fun i b => i < κ.length ∧ i ∉ vs ∧ S i b, ⟨⟨Ex.refl F, c.sub, fun _ _ z _ _ => z, fun _ _ _ => rfl, fun _ z => z, c.tab, fun _ _ _ _ => rfl, fun i s b a io z => ?_, by rw [blkK_len, wipe_length]; exact c.len⟩, fun i b => i < κ.length ∧ i ∉ vs ∧ S i b, ⟨by rw [blkK_len, wipeR_len]; exact e.lenR, fun i j b x y => e.dis i j b x.2.2 y.2.2, fun i b x => .inl x, fun i s d' a r => ?_⟩⟩, fun F2 H2 σ2 ρ2 ⟨c2, S2, e2⟩ => ?_⟩
  · obtain ⟨t, h1, h2⟩ := blkK_get a
    rw [if_neg z.2.1] at h2
    subst h2
    cases io
  · obtain ⟨t, h1, h2⟩ := blkK_get a
    have hlt := (List.getElem?_eq_some_iff.mp h1).1
    rw [wipeR_get] at r
    by_cases hv : i ∈ vs
    · rw [if_pos hv] at r
      obtain ⟨_, _, z⟩ := Option.map_eq_some_iff.mp r
      cases z
    · rw [if_neg hv] at r h2
      obtain ⟨w, q1, q2⟩ := e.held i t d' h1 r
      refine ⟨w, by rw [wipe_get, if_neg hv]; exact q1, ?_⟩
      subst h2
      exact Hold.up (fun b z => ⟨hlt, hv, z⟩) q2
  · have dom : ∀ b, H2 b = none → B.H0 b = none := fun b z => c.dom b (c2.dom b z)
    have hl : ρ.length = ρ2.length := by rw [e.lenR, e2.lenR, blkK_len]
    have hmid : ∀ i b, i ∉ vs → i < κ.length → S2 i b → B.io i b ∨ B.H0 b = none := fun i b hv hi z => by
      rcases e2.mine i b z with m | m
      · exact e.mine i b m.2.2
      · exact .inr (c.dom b m)
    have fresh : ∀ i b, i < κ.length → S2 i b → S κ.length b → False := fun i b hi z s => by
      rcases e2.mine i b z with m | m
      · have := e.dis i _ b m.2.2 s
        omega
      · obtain ⟨_, xs, l, _⟩ := th _ b s
        have m : H b = none := m
        rw [l] at m; cases m
    refine ⟨⟨c.ext.trans c2.ext, c2.sub, fun b o z n t => ?_, fun b o z => ?_, dom, c2.tab, c.pin, c.noio, c.len⟩, fun i b => (i < κ.length ∧ i ∉ vs ∧ S2 i b) ∨ (i = κ.length ∧ S i b), ⟨by rw [restore_len]; rw [e2.lenR, blkK_len], fun i j b x y => ?_, fun i b x => ?_, fun i s d' a r => ?_⟩, ?_, fun b z => ?_⟩
    · have h1 := c.frame b o z n t
      refine c2.frame b o h1 (fun i q => ?_) t
      rcases e.mine i b q.2.2 with m | m
      · exact n i m
      · rw [m] at z; cases z
    · cases q : H b with
      | none => rw [c.dom b q] at z; cases z
      | some u => exact (c2.fz b u q).trans (c.fz b o z)
    · rcases x with x | x <;> rcases y with y | y
      · exact e2.dis i j b x.2.2 y.2.2
      · exact (fresh i b x.1 x.2.2 (y.1 ▸ y.2)).elim
      · exact (fresh j b y.1 y.2.2 (x.1 ▸ x.2)).elim
      · rw [x.1, y.1]
    · rcases x with x | x
      · exact hmid i b x.2.1 x.1 x.2.2
      · exact .inr (hn b (x.1 ▸ x.2))
    · have hi := (List.getElem?_eq_some_iff.mp a).1
      rw [restore_get _ _ hl] at r
      by_cases hv : i ∈ vs
      · rw [if_pos hv] at r
        obtain ⟨t, h1, h2⟩ := ownOk_at hf hv
        rw [a] at h1
        cases h1
        obtain ⟨w, q1, q2⟩ := e.held i _ d' a r
        refine ⟨w, q1, Vw.hold h2 ?_⟩
        exact vw_flat h2 c2.ext q2.vw
      · rw [if_neg hv] at r
        have h2 : (blkK κ vs)[i]? = some { s with io := true } := by
          unfold blkK
          rw [List.getElem?_mapIdx, a]
          show some (if i ∈ vs then _ else _) = _
          rw [if_neg hv]
        obtain ⟨w, q1, q2⟩ := e2.held i _ d' h2 r
        have := c2.pin i _ h2 rfl
        rw [this] at q1
        have q1 : (wipe σ vs)[i]? = some (some w) := q1
        rw [wipe_get, if_neg hv] at q1
        exact ⟨w, q1, Hold.up (fun b z => .inl ⟨hi, hv, z⟩) q2⟩
    · refine Hold.up (fun b z => .inr ⟨rfl, z⟩) (hd.keep c2.ext fun b xs s f l mo => ⟨c2.frame b _ l (fun i z => ?_) (notab c.tab l mo), (c2.fz b _ l).trans f⟩)
      have := e.dis i _ b z.2.2 s
      omega
    · rcases z with z | z
      · omega
      · exact hn b z.2
/-- an item more -/
theorem OkN.push {ds : List D} (h : OkN K g κ B F H σ ρ (.lst k) (.lst ds) v) (hk : k.fl = true) : ∃ a acc, v = .ref a ∧ H a = some (.lst acc) ∧ ds.length = acc.length ∧ B.H0 a = none ∧
    ∀ d y, Vw K g F H k d y → OkN K g κ B F (L2.upd H a (.lst (acc ++ [y]))) σ ρ (.lst k) (.lst (ds ++ [d])) v := by
  obtain ⟨c, S, e, hd, hn⟩ := h
  obtain ⟨a, acc, ds', e1, rfl, sa, fa, ha, hl, T, t1, t2, it⟩ := hd
  cases e1
  have ta := notab c.tab ha
  refine ⟨a, acc, rfl, ha, hl, hn a sa, fun d y w => ⟨⟨c.ext, fun b o z => ?_, fun b o z n t => ?_, c.fz, fun b z => c.dom b (upd_none' z), fun P hP => ?_, c.pin, c.noio, c.len⟩, S, ⟨e.lenR, e.dis, e.mine, fun j t d' p p' => ?_⟩, Hold.mk hk sa fa upd_same (by rw [List.length_append, List.length_append, hl]; rfl) ?_, hn⟩⟩
  · have : b ≠ a := fun q => by rw [q, fa] at z; cases z
    rw [upd_ne this]; exact c.sub b o z
  · have : b ≠ a := fun q => by rw [q, hn a sa] at z; cases z
    rw [upd_ne this]; exact c.frame b o z n t
  · obtain ⟨⟨ps, e1, q⟩, f⟩ := c.tab P hP
    have : P ≠ a := fun z => ta (z ▸ hP)
    exact ⟨⟨ps, by rw [upd_ne this]; exact e1, q⟩, f⟩
  · obtain ⟨w', q1, q2⟩ := e.held j t d' p p'
    refine ⟨w', q1, q2.keep (Ex.refl F) fun b xs sb fb lb _ => ⟨?_, fb⟩⟩
    have : b ≠ a := fun z => by
      have := e.dis j _ a (z ▸ sb) sa
      have := (List.getElem?_eq_some_iff.mp p).1
      omega
    rw [upd_ne this]; exact lb
  · have up : ∀ {x : D} {z : V}, Vw K g F H k x z → Vw K g F (L2.upd H a (.lst (acc ++ [y]))) k x z := fun {x z} q => by
      cases k with
      | sc => exact q
      | im => exact q
      | lst k => cases hk
      | ins c => cases hk
    refine vws_app hl (fun i x z p p' => up ((it i x z p p').vw)) fun i x z p p' => ?_
    cases i with
    | zero => cases p; cases p'; exact up w
    | succ i => simp at p
end
end DL

set_option maxHeartbeats 4000000
/-! DL9: list comprehensions; defs and calls. -/
namespace DL
open PySem PySem.Spec PyProof.Rows L2

/-- one turn of a comprehension's block -/
def compT (k : Kd) (t : D → M Unit) (tst : M Bool) (elt : M D) (x : D) : M (Option D) := bnd (t x) fun _ => bnd tst fun b => if b then bnd elt fun d => (if okK k d then ret (some d) else fun _ => none) else ret none
def optL : Option D → List D
  | some d => [d]
  | none => []
def compM (k : Kd) (vs : List Nat) (t : D → M Unit) (tst : M Bool) (elt : M D) : List D → M (List D)
  | [] => ret []
  | x :: xs => fun ρ => match compT k t tst elt x (wipeR ρ vs) with
    | some (o, ρ2) => bnd (compM k vs t tst elt xs) (fun ds => ret (optL o ++ ds)) (restore ρ ρ2 vs)
    | none => none
def eLc (k : Kd) (vs : List Nat) (it : M (List D)) (t : D → M Unit) (tst : M Bool) (elt : M D) : M D := bnd it fun xs => bnd (if xs.length ≤ 100000 then compM k vs t tst elt xs else fun _ => none) fun ds => ret (.lst ds)
section
variable {X : Cx} {g : Gx} {κ : List Sl} {b b1 b2 b3 : Bool} {k k1 k2 k3 kr : Kd} {pos : Pos}
theorem px_nil : PTs X [] (ttOf X.K g κ true (ret true)) := ⟨fun pins s σ H Q I h => by
  obtain ⟨B, F, ρ, d, ρ', ok, hm, q⟩ := h
  obtain ⟨rfl, rfl⟩ := ret_some hm
  exact pts_nil.run pins s σ H Q I (q F H ok (Ex.refl F) (fun _ => ExT.refl g H))⟩
theorem px_one {c : Expr} {m : M Bool} (h : TX X g κ b c m) : PTs X [c] (ttOf X.K g κ b m) := pts_one h
theorem wipe_eq {σ σ' : L2.St} (hl : σ.length = σ'.length) {vs : List Nat} (h : ∀ i, i < σ.length → i ∉ vs → σ'[i]? = σ[i]?) : wipe σ' vs = wipe σ vs := by
  apply List.ext_getElem?
  intro i
  rw [wipe_get, wipe_get]
  by_cases hv : i ∈ vs
  · rw [if_pos hv, if_pos hv]
    by_cases hi : i < σ.length
    · rw [List.getElem?_eq_getElem hi, List.getElem?_eq_getElem (by omega)]; rfl
    · rw [List.getElem?_eq_none (by omega), List.getElem?_eq_none (by omega)]
  · rw [if_neg hv, if_neg hv]
    by_cases hi : i < σ.length
    · exact h i hi hv
    · rw [List.getElem?_eq_none (by omega), List.getElem?_eq_none (by omega)]
theorem lc_go {K : PySem.W.Frag} {vs : List Nat} {it : M (List D)} {t : D → M Unit} {tst : M Bool} {elt : M D} (hk : k.fl = true) (hk2 : k2.fl = true) (hf : ownOk κ vs = true) {σ : L2.St} {H : Hp} {Q : VK}
    (h : nOf K g κ (b && b1 && b2) (.lst k) (eLc k vs it t tst elt) σ H Q) : tLc (iOf K g κ b it) (gOf K g (blkK κ vs) t) (ttOf K g (blkK κ vs) b1 tst) (tOf K g (blkK κ vs) b2 k2 elt) vs σ H Q := by
  obtain ⟨B, F, ρ, d, ρ', ok, hm, q⟩ := h
  obtain ⟨xs, ρ1, h1, h2⟩ := bnd_some hm
  obtain ⟨dsA, ρ2, h3, h4⟩ := bnd_some h2
  obtain ⟨rfl, rfl⟩ := ret_some h4
  split at h3
  next hlen =>
    refine ⟨B, F, ρ, xs, ρ1, ok, h1, fun J F1 H1 ok1 e1 q1 Y => fun D0 hD => ?_⟩
    refine ⟨fun i m H2 => m = xs.length - i ∧ i ≤ xs.length ∧ ((b1 && b2) = true → ExT g H1 H2) ∧ ∃ F2 ρ2 ds1 rest, Ex F1 F2 ∧ OkN K g κ B F2 H2 σ ρ2 (.lst k) (.lst ds1) (.ref D0) ∧ compM k vs t tst elt (xs.drop i) ρ2 = some (rest, ρ') ∧ dsA = ds1 ++ rest ∧ ds1.length ≤ i,
      ⟨xs.length, by simp, Nat.zero_le _, fun _ => Ex.toT (.new hD), F1, ρ1, [], dsA, Ex.refl F1, ok1.newL (vs := []) (ds := []) hD hk rfl (fun i x y a => by simp at a), by rw [List.drop_zero]; exact h3, rfl, Nat.zero_le _⟩, ?_⟩
    rintro i m H2 ⟨rfl, hi, qx, F2, ρ2, ds1, rest, e2, okn, hc, hds, hdl⟩
    have ok2 := okn.ok
    by_cases hlt : i < xs.length
    · right
      have hd : xs[i]? = some xs[i] := by simp [hlt]
      rw [List.drop_eq_getElem_cons hlt, compM] at hc
      dsimp only at hc
      cases hT : compT k t tst elt xs[i] (wipeR ρ2 vs) with
      | none => rw [hT] at hc; cases hc
      | some p =>
        obtain ⟨o, ρ3⟩ := p
        rw [hT] at hc
        obtain ⟨rest', ρ4, h5, h6⟩ := bnd_some hc
        obtain ⟨rfl, rfl⟩ := ret_some h6
        refine ⟨Y.go i F2 H2 hlt e2 ok2.1.sub, fun H3 => i + 1 ≤ xs.length ∧ ((b1 && b2) = true → ExT g H1 H3) ∧ ∃ F3 ds1, Ex F1 F3 ∧ OkN K g κ B F3 H3 σ (restore ρ2 ρ3 vs) (.lst k) (.lst ds1) (.ref D0) ∧ dsA = ds1 ++ rest' ∧ ds1.length ≤ i + 1,
          fun H3 ⟨hi3, q3, F3, ds3, e3, ok3, hd3, hl3⟩ => ⟨xs.length - (i + 1), by omega, rfl, hi3, q3, F3, _, ds3, rest', e3, ok3, h5, hd3, hl3⟩, fun x H3 y => ?_⟩
        have hlt' := hlt
        -- the item
        obtain ⟨F3, e3, okn3, r3⟩ : ∃ F', Ex F2 F' ∧ OkN K g κ B F' H3 σ ρ2 (.lst k) (.lst ds1) (.ref D0) ∧ Rep K g F' xs[i] x := by
          rcases Y.yl i F2 H2 x H3 hlt e2 ok2.1.sub y with ⟨rfl, d', z1, z2⟩ | ⟨T, us, es, hT2, rfl, rfl, z1, z2⟩
          · rw [hd] at z1
            cases z1
            exact ⟨F2, Ex.refl F2, okn, z2⟩
          · rw [hd] at z1
            have z1 := Option.some.inj z1
            have fT := ok2.fnone hT2
            refine ⟨L2.upd F2 T (.tup us), .new fT, ?_, ?_⟩
            · obtain ⟨c, S, e, hh, hn⟩ := okn
              have okf := ok2.newF (o := .tup us) hT2
              have cg : Core g κ B (L2.upd F2 T (.tup us)) (L2.upd H2 T (.tup us)) σ := okf.1
              have h1T : ExT g H2 (L2.upd H2 T (.tup us)) := Ex.toT (.new hT2)
              have h2T : ∀ b o, H2 b = some o → L2.upd F2 T (.tup us) b = F2 b := fun b o z => upd_ne (ne_of_none z hT2)
              exact ⟨cg, S, e.grow c (.new fT) h1T h2T, hh.keep (.new fT) fun b o s f l m => ⟨h1T.mut c.tab b o l m, by rw [h2T b _ l]; exact f⟩, hn⟩
            · rw [z1]
              exact .tup (.inl (.inl upd_same)) (z2.mono (.new fT))
        have q13 : (b1 && b2) = true → ExT g H1 H3 := fun hb => (qx hb).trans (by
          rcases Y.yl i F2 H2 x H3 hlt e2 ok2.1.sub y with ⟨rfl, _⟩ | ⟨T, us, es, hT2, rfl, _⟩
          · exact ExT.refl g _
          · exact Ex.toT (.new hT2))
        obtain ⟨io, okb, back⟩ := okn3.block hf
        unfold compT at hT
        obtain ⟨_, ρ5, h7, h8⟩ := bnd_some hT
        obtain ⟨tb, ρ6, h9, h10⟩ := bnd_some h8
        refine ⟨_, F3, _, _, ρ5, okb, r3, h7, fun σ5 ok5 => ⟨?_, ?_⟩⟩
        · have hl5 : (wipe σ vs).length = σ5.length := by rw [okb.1.len, ok5.1.len]
          have := wipe_eq hl5 (vs := vs) fun i hi hv => by
            have hi' : i < κ.length := by rw [wipe_length, okn3.1.len] at hi; exact hi
            have h2 : (blkK κ vs)[i]? = some { κ[i] with io := true } := by
              unfold blkK
              rw [List.getElem?_mapIdx, List.getElem?_eq_getElem hi']
              show some (if i ∈ vs then _ else _) = _
              rw [if_neg hv]
            exact ok5.1.pin i _ h2 rfl
          rw [this]
          apply List.ext_getElem?
          intro j
          rw [wipe_get, wipe_get]
          by_cases hv : j ∈ vs
          · rw [if_pos hv, if_pos hv, Option.map_map]; rfl
          · rw [if_neg hv, if_neg hv]
        · refine ⟨_, F3, ρ5, tb, ρ6, ok5, h9, fun F6 H6 ok6 e6 q6 => ?_⟩
          cases tb with
          | false =>
            rw [if_neg Bool.false_ne_true] at h10 ⊢
            obtain ⟨rfl, rfl⟩ := ret_some h10
            refine ⟨hlt', fun hb => (q13 hb).trans (q6 (Bool.and_eq_true_iff.mp hb).1), F6, ds1, e2.trans (e3.trans e6), ?_, by rw [hds]; rfl, by omega⟩
            exact back F6 H6 σ5 _ ok6
          | true =>
            rw [if_pos rfl] at h10 ⊢
            obtain ⟨y', ρ7, h11, h12⟩ := bnd_some h10
            split at h12
            next hok =>
              obtain ⟨rfl, rfl⟩ := ret_some h12
              refine ⟨_, F6, ρ6, y', _, ok6, h11, fun v F7 H7 ok7 e7 q7 w7 => ?_⟩
              have okn7 := back F7 H7 σ5 _ ok7
              obtain ⟨a, acc, ea, ha, hal, h0, push⟩ := okn7.push hk
              cases ea
              refine ⟨acc, ha, by rw [← hal]; exact Nat.lt_of_lt_of_le (show ds1.length < 100001 by omega) (by decide), hlt', fun hb => ?_, F7, ds1 ++ [y'], e2.trans (e3.trans (e6.trans e7)), push y' v (vw_okK (H := H7) (w7.rep hk2) hok (Ex.refl F7)), by rw [hds, List.append_assoc]; rfl, by rw [List.length_append]; simp; omega⟩
              have hb' := Bool.and_eq_true_iff.mp hb
              have z := ((q13 hb).trans (q6 hb'.1)).trans (q7 hb'.2)
              exact fun c o hc hnt => by
                have : c ≠ D0 := fun w => by rw [w, hD] at hc; cases hc
                rw [upd_ne this]; exact z c o hc hnt
            next => cases h12
    · have e : i = xs.length := by omega
      subst e
      rw [List.drop_length] at hc
      obtain ⟨rfl, rfl⟩ := ret_some hc
      rw [List.append_nil] at hds
      subst hds
      refine .inl ⟨Y.stop F2 H2 e2 ok2.1.sub, q _ F2 H2 okn (e1.trans e2) fun hb => ?_⟩
      rw [Bool.and_assoc] at hb
      obtain ⟨hb1, hb2⟩ := Bool.and_eq_true_iff.mp hb
      exact (q1 hb1).trans (qx hb2)
  next => cases h3
theorem nx_lc {e : Expr} {vs : List Nat} {it : M (List D)} {t : D → M Unit} {tst : M Bool} {elt : M D} (k : Kd) (hp : PE X e (tLc (iOf X.K g κ b it) (gOf X.K g (blkK κ vs) t) (ttOf X.K g (blkK κ vs) b1 tst) (tOf X.K g (blkK κ vs) b2 k2 elt) vs)) (hf : ownOk κ vs = true := by rfl) (hk : k.fl = true := by rfl) (hk2 : k2.fl = true := by rfl) :
    NX X g κ (b && b1 && b2) (.lst k) e (eLc k vs it t tst elt) := PE.weak hp fun _ _ _ h => lc_go hk hk2 hf h
/-- y = [..], y's own -/
theorem sx_setLcN {st : Stmt} {i : Nat} {s : Sl} {vs : List Nat} {it : M (List D)} {t : D → M Unit} {tst : M Bool} {elt : M D} (k : Kd) (hp : PS X st (tAsg (tLc (iOf X.K g κ b it) (gOf X.K g (blkK κ vs) t) (ttOf X.K g (blkK κ vs) b1 tst) (tOf X.K g (blkK κ vs) b2 k2 elt) vs) (gName i))) (hi : κ[i]? = some s) (hs : s.io = false) (hkk : s.kd = .lst k) (hf : ownOk κ vs = true := by rfl) (hk : k.fl = true := by rfl) (hk2 : k2.fl = true := by rfl) :
    SX X g κ kr st (mAsgN i (eLc k vs it t tst elt)) := sx_asgN (b := b && b1 && b2) (k := .lst k) (PS.weak hp fun D0 σ H h => lc_go (b := b) (b1 := b1) (b2 := b2) hk hk2 hf h) hi hs hkk
/-- y = [..], frozen -/
theorem sx_setLc {st : Stmt} {i : Nat} {s : Sl} {vs : List Nat} {it : M (List D)} {t : D → M Unit} {tst : M Bool} {elt : M D} (hp : PS X st (tAsg (tLc (iOf X.K g κ b it) (gOf X.K g (blkK κ vs) t) (ttOf X.K g (blkK κ vs) b1 tst) (tOf X.K g (blkK κ vs) b2 k2 elt) vs) (gName i))) (hi : κ[i]? = some s) (hs : s.io = false) (hkk : s.kd = .im) (hf : ownOk κ vs = true := by rfl) (hk2 : k2.fl = true := by rfl) :
    SX X g κ kr st (mAsg (eLc .im vs it t tst elt) (setV i .im)) := PS.weak hp fun D0 σ H ⟨B, F, ρ, fl, ρ', ok, hm, q⟩ => by
  obtain ⟨d, ρ1, h1, h2⟩ := bnd_some hm
  obtain ⟨_, ρ2, h3, h4⟩ := bnd_some h2
  obtain ⟨rfl, rfl⟩ := ret_some h4
  obtain ⟨h5, rfl⟩ := setV_some h3
  refine lc_go (k := .im) (b := b) (b1 := b1) (b2 := b2) rfl hk2 hf ⟨B, F, ρ, d, _, ok, h1, fun v F1 H1 okn e1 q1 => ?_⟩
  obtain ⟨F2, x, ok2, r⟩ := okn.freeze
  exact q _ F2 H1 ((ok2.flat (k := .im) rfl r).set hi hs hkk) (e1.trans x)
end
end DL

set_option maxHeartbeats 4000000
/-! DL10: defs: their promise by the mirror, their bodies, calls of them. -/
namespace DL
open PySem PySem.Spec PyProof.Rows L2

/-- the promise of a def by its mirror: κp how the parameters are held, kr how the result is -/
def spM (K : PySem.W.Frag) (g : Gx) (κp : List Sl) (kr : Kd) (m : List D → Option (D × List D)) : Sp := fun vs H Q _ => ∃ F io ds r ds',
  vs.length = κp.length ∧ Ok K g κp ⟨H, F, io, vs.map some⟩ F H (vs.map some) (ds.map some) ∧ m ds = some (r, ds') ∧
  ∀ v F' H', OkN K g κp ⟨H, F, io, vs.map some⟩ F' H' (vs.map some) (ds'.map some) kr r v → Q v H'
/-- what the parameters hold behind the def -/
def outs : List Sl → List D → Rho → Option (List D)
  | [], [], _ => some []
  | s :: κ, d :: ds, x :: ρ => if s.io then (match x with
    | some d' => (outs κ ds ρ).map (d' :: ·)
    | none => none) else (outs κ ds ρ).map (d :: ·)
  | _, _, _ => none
/-- a def's mirror by its body's -/
def runD (κp : List Sl) (nl : Nat) (kr : Kd) (body : M Fl) (ds : List D) : Option (D × List D) := match body (ds.map some ++ List.replicate nl none) with
  | some (.rt r, ρ') => (outs κp ds ρ').map fun o => (r, o)
  | some (.nx, ρ') => if kr.fl then (outs κp ds ρ').map fun o => (.non, o) else none
  | _ => none
theorem outs_cons (s : Sl) (κ : List Sl) (d : D) (ds : List D) (x : Option D) (ρ : Rho) : outs (s :: κ) (d :: ds) (x :: ρ) = if s.io then (match x with
    | some d' => (outs κ ds ρ).map (d' :: ·)
    | none => none) else (outs κ ds ρ).map (d :: ·) := rfl
theorem outs_get : ∀ {κ : List Sl} {ds ds' : List D} {ρ : Rho}, outs κ ds ρ = some ds' → ds.length = κ.length ∧ ds'.length = κ.length ∧ ∀ (i : Nat) s, κ[i]? = some s → if s.io then (∃ d, ρ[i]? = some (some d) ∧ ds'[i]? = some d) else ds'[i]? = ds[i]?
  | [], [], ds', ρ, h => by
    rw [outs] at h
    cases h
    exact ⟨rfl, rfl, fun i s a => by simp at a⟩
  | [], _ :: _, _, _, h => by simp [outs] at h
  | _ :: _, [], _, _, h => by simp [outs] at h
  | _ :: _, _ :: _, _, [], h => by simp [outs] at h
  | s :: κ, d :: ds, ds', x :: ρ, h => by
    rw [outs_cons] at h
    by_cases hs : s.io = true
    · rw [if_pos hs] at h
      cases x with
      | none => cases h
      | some d' =>
        obtain ⟨es, h1, rfl⟩ := Option.map_eq_some_iff.mp h
        obtain ⟨l1, l2, g1⟩ := outs_get h1
        refine ⟨by simp [l1], by simp [l2], fun i t a => ?_⟩
        cases i with
        | zero =>
          cases a
          rw [if_pos hs]
          exact ⟨d', rfl, rfl⟩
        | succ i => simpa using g1 i t (by simpa using a)
    · rw [if_neg hs] at h
      obtain ⟨es, h1, rfl⟩ := Option.map_eq_some_iff.mp h
      obtain ⟨l1, l2, g1⟩ := outs_get h1
      refine ⟨by simp [l1], by simp [l2], fun i t a => ?_⟩
      cases i with
      | zero =>
        cases a
        rw [if_neg hs]
        rfl
      | succ i => simpa using g1 i t (by simpa using a)
section
variable {K : PySem.W.Frag} {g : Gx} {κp κl : List Sl} {F H : Hp} {io : Nat → Addr → Prop} {vs : List V} {ds : List D}
/-- the slots at a def's entry -/
theorem Ok.enter {N : List Str} (h : Ok K g κp ⟨H, F, io, vs.map some⟩ F H (vs.map some) (ds.map some)) (hl : vs.length = κp.length) (hN : N.length = κp.length + κl.length) (hk : κl.all (fun s => !s.io) = true) :
    Ok K g (κp ++ κl) ⟨H, F, fun i b => i < κp.length ∧ io i b, vs.map some⟩ F H (L2.start N vs) (ds.map some ++ List.replicate κl.length none) := by
  obtain ⟨c, S, e⟩ := h
  have hd : ds.length = κp.length := by simpa using e.lenR
  have st : L2.start N vs = vs.map some ++ List.replicate κl.length none := by
    unfold L2.start
    rw [hl, hN, Nat.add_sub_cancel_left]
  rw [st]
  have left : ∀ {i : Nat} {s : Sl}, (κp ++ κl)[i]? = some s → i < κp.length → κp[i]? = some s := fun {i s} a hi => by
    rw [List.getElem?_append_left hi] at a; exact a
  refine ⟨⟨Ex.refl F, c.sub, fun _ _ z _ _ => z, fun _ _ _ => rfl, fun _ z => z, c.tab, fun i s a b => ?_, fun i s b a q z => c.noio i s b (left a z.1) q z.2, by simp [hl]⟩, fun i b => i < κp.length ∧ S i b, ⟨by simp [hd], fun i j b x y => e.dis i j b x.2 y.2, fun i b x => ?_, fun i s d a r => ?_⟩⟩
  · have hi : i < κp.length := by
      apply Classical.byContradiction
      intro hn
      rw [List.getElem?_append_right (by omega)] at a
      have := List.all_eq_true.mp hk s (List.mem_of_getElem? a)
      rw [b] at this
      cases this
    rw [List.getElem?_append_left (by simp [hl]; exact hi)]
  · rcases e.mine i b x.2 with m | m
    · exact .inl ⟨x.1, m⟩
    · exact .inr m
  · by_cases hi : i < κp.length
    · rw [List.getElem?_append_left (by simp [hd]; exact hi)] at r
      obtain ⟨v, q1, q2⟩ := e.held i s d (left a hi) r
      refine ⟨v, by rw [List.getElem?_append_left (by simp [hl]; exact hi)]; exact q1, Hold.up (fun b z => ⟨hi, z⟩) q2⟩
    · rw [List.getElem?_append_right (by simp [hd]; omega)] at r
      have := List.mem_of_getElem? r
      rw [List.mem_replicate] at this
      cases this.2
/-- .. and behind it, for its caller -/
theorem OkN.leave {F' H' : Hp} {σ' : L2.St} {ρ' : Rho} {kr : Kd} {r : D} {v : V} {ds' : List D} (h0 : Ok K g κp ⟨H, F, io, vs.map some⟩ F H (vs.map some) (ds.map some)) (hl : vs.length = κp.length) (hf : κp.all (fun s => s.io || s.kd.fl) = true)
    (h : OkN K g (κp ++ κl) ⟨H, F, fun i b => i < κp.length ∧ io i b, vs.map some⟩ F' H' σ' ρ' kr r v) (ho : outs κp ds ρ' = some ds') : OkN K g κp ⟨H, F, io, vs.map some⟩ F' H' (vs.map some) (ds'.map some) kr r v := by
  obtain ⟨c0, S0, e0⟩ := h0
  obtain ⟨c, S, e, hd, hn⟩ := h
  obtain ⟨l1, l2, og⟩ := outs_get ho
  have hle : κp.length ≤ (κp ++ κl).length := by simp
  refine ⟨⟨c.ext, c.sub, fun b o z n t => c.frame b o z (fun i w => n i w.2) t, c.fz, c.dom, c.tab, fun _ _ _ _ => rfl, c0.noio, by simp [hl]⟩, fun i b => (i < κp.length ∧ S i b) ∨ (i = κp.length ∧ S (κp ++ κl).length b), ⟨by simp [l2], fun i j b x y => ?_, fun i b x => ?_, fun i s d a q => ?_⟩, ?_, fun b z => ?_⟩
  · rcases x with x | x <;> rcases y with y | y
    · exact e.dis i j b x.2 y.2
    · have := e.dis i _ b x.2 y.2; omega
    · have := e.dis _ j b x.2 y.2; omega
    · rw [x.1, y.1]
  · rcases x with x | x
    · rcases e.mine i b x.2 with m | m
      · exact .inl m.2
      · exact .inr m
    · exact .inr (hn b x.2)
  · have hi := (List.getElem?_eq_some_iff.mp a).1
    have a' : (κp ++ κl)[i]? = some s := by rw [List.getElem?_append_left hi]; exact a
    have og := og i s a
    rw [List.getElem?_map] at q
    by_cases hs : s.io = true
    · rw [if_pos hs] at og
      obtain ⟨d', q1, q2⟩ := og
      rw [q2] at q
      cases q
      obtain ⟨w, q3, q4⟩ := e.held i s _ a' q1
      rw [c.pin i s a' hs] at q3
      exact ⟨w, q3, Hold.up (fun b z => .inl ⟨hi, z⟩) q4⟩
    · rw [if_neg hs] at og
      rw [og] at q
      obtain ⟨w, q3, q4⟩ := e0.held i s d a (by rw [List.getElem?_map]; exact q)
      have fl : s.kd.fl = true := by
        have := List.all_eq_true.mp hf s (List.mem_of_getElem? a)
        simpa [hs] using this
      exact ⟨w, q3, Vw.hold fl (vw_flat fl c.ext q4.vw)⟩
  · exact Hold.up (fun b z => .inr ⟨rfl, z⟩) hd
  · rcases z with z | z
    · omega
    · exact hn b z.2
end
/-- a def's body as its mirror: the def keeps its promise -/
theorem fn_okM {P : Program} {w : World} {K : PySem.W.Frag} {mg : Str → Option Value} {base : Heap} {g : Gx} {x qual : Str} {params : Arguments} {body : List Stmt} {scope : Scope} {f : Addr} {fd : FuncData} {N ps : List Str} {k : Nat} {κp κl : List Sl} {kr : Kd} {m : M Fl}
    (Fn : FunD K x qual params body scope [] [] f fd) (S : FnScope N ps scope) (hN : N.length = κp.length + κl.length) (hps : ps.length = κp.length) (hfl : κp.all (fun s => s.io || s.kd.fl) = true) (hkl : κl.all (fun s => !s.io) = true)
    (hb : ∀ (cdv : Value) (A : Around) (outer : List PySem.Env) (s : Shared) (H : Hp) (E : XK), Room k (A.deeper (envOfC qual scope s.heap.objs.size f cdv)) → BX (cxOf CX0 P w K mg base N qual scope f cdv A outer s H E).nox g (κp ++ κl) kr body m) :
    FnOk P w K mg base CX0 (k + 1) f fd ps (spM K g κp kr (runD κp κl.length kr m)) := by
  refine Fn.ok S (fun vs H Q E h => ?_) (fun cdv A outer s H vs Q E hr h => ⟨sOf K g (κp ++ κl) kr m, PSs.nox (hb cdv A outer s H E hr), ?_⟩)
  · obtain ⟨F, io, ds, r, ds', hl, _⟩ := h
    rw [hl, hps]
  · obtain ⟨F, io, ds, r, ds', hl, ok, hm, q⟩ := h
    unfold runD at hm
    have ok2 := ok.enter (κl := κl) hl hN hkl
    cases hb : m (ds.map some ++ List.replicate κl.length none) with
    | none => rw [hb] at hm; cases hm
    | some p =>
      obtain ⟨fl, ρ'⟩ := p
      rw [hb] at hm
      refine ⟨_, F, _, fl, ρ', ok2, hb, ?_⟩
      cases fl with
      | nx =>
        have hm : (if kr.fl = true then (outs κp ds ρ').map fun o => (D.non, o) else none) = some (r, ds') := hm
        split at hm
        · rename_i hk
          obtain ⟨o, ho, e⟩ := Option.map_eq_some_iff.mp hm
          cases e
          refine fun σ' F' H' ok' _ => q .non F' H' (OkN.leave ok hl hfl (ok'.flat hk ?_) ho)
          cases kr with
          | sc => rfl
          | im => exact Rep.sc rfl
          | lst k => cases hk
          | ins c => cases hk
        · cases hm
      | bk => cases hm
      | ct => cases hm
      | rt d =>
        obtain ⟨o, ho, e⟩ := Option.map_eq_some_iff.mp hm
        cases e
        exact fun v σ' F' H' okn _ => q v F' H' (OkN.leave ok hl hfl okn ho)

/-! ### calls -/
/-- the arguments fit the parameters -/
def argsOk : List Sl → List D → Bool
  | [], [] => true
  | s :: κ, d :: ds => !s.io && okK s.kd d && argsOk κ ds
  | _, _ => false
theorem argsOk_get : ∀ {κ : List Sl} {ds : List D}, argsOk κ ds = true → ds.length = κ.length ∧ ∀ (i : Nat) s, κ[i]? = some s → s.io = false ∧ ∀ d, ds[i]? = some d → okK s.kd d = true
  | [], [], _ => ⟨rfl, fun i s a => by simp at a⟩
  | [], _ :: _, h => by simp [argsOk] at h
  | _ :: _, [], h => by simp [argsOk] at h
  | s :: κ, d :: ds, h => by
    rw [argsOk] at h
    simp only [Bool.and_eq_true] at h
    obtain ⟨⟨h1, h2⟩, h3⟩ := h
    obtain ⟨l, q⟩ := argsOk_get h3
    refine ⟨by simp [l], fun i t a => ?_⟩
    cases i with
    | zero =>
      cases a
      exact ⟨by simpa using h1, fun d' e => by cases e; exact h2⟩
    | succ i =>
      obtain ⟨q1, q2⟩ := q i t (by simpa using a)
      exact ⟨q1, fun d' e => q2 d' (by simpa using e)⟩
def callR (κp : List Sl) (mf : List D → Option (D × List D)) (ds : List D) : Option D := if argsOk κp ds then (mf ds).map (·.1) else none
theorem callR_some {κp : List Sl} {mf : List D → Option (D × List D)} {ds : List D} {r : D} (h : callR κp mf ds = some r) : argsOk κp ds = true ∧ ∃ ds', mf ds = some (r, ds') := by
  unfold callR at h
  split at h
  · rename_i h1
    obtain ⟨p, h2, rfl⟩ := Option.map_eq_some_iff.mp h
    exact ⟨h1, p.2, h2⟩
  · cases h
section
variable {K : PySem.W.Frag} {g : Gx} {κ κp : List Sl} {B : Bs} {F H : Hp} {σ : L2.St} {ρ : Rho} {kr : Kd} {mf : List D → Option (D × List D)}
/-- a call that changes nothing of its caller's: what its promise asks, what it gives -/
theorem call_go {ds ds' : List D} {vs : List V} {r : D} {Q : VK} {E : XK} (ok : Ok K g κ B F H σ ρ) (rs : Reps K g F ds vs) (ha : argsOk κp ds = true) (hm : mf ds = some (r, ds'))
    (q : ∀ v F' H', OkN K g κ B F' H' σ ρ kr r v → Ex F F' → ExT g H H' → Q v H') : spM K g κp kr mf vs H Q E := by
  obtain ⟨hl, ag⟩ := argsOk_get ha
  refine ⟨F, fun _ _ => False, ds, r, ds', by rw [← rs.length, hl], ⟨⟨Ex.refl F, ok.1.sub, fun _ _ z _ _ => z, fun _ _ _ => rfl, fun _ z => z, ok.1.tab, fun _ _ _ _ => rfl, fun _ _ _ _ _ z => z, by rw [List.length_map, ← rs.length, hl]⟩, fun _ _ => False, ⟨by simp [hl], fun _ _ _ z => z.elim, fun _ _ z => z.elim, fun i s d a b => ?_⟩⟩, hm, fun v F' H' okn => ?_⟩
  · rw [List.getElem?_map] at b
    obtain ⟨d', b1, b2⟩ := Option.map_eq_some_iff.mp b
    cases b2
    obtain ⟨v, h1, h2⟩ := rs.get b1
    obtain ⟨_, hk⟩ := ag i s a
    exact ⟨v, by rw [List.getElem?_map, h1]; rfl, Vw.hold (okK_flat (hk _ b1)) (vw_okK (H := H) h2 (hk _ b1) (Ex.refl F))⟩
  · obtain ⟨c, S, e, hd, hn⟩ := okn
    have x1 : ExT g H H' := fun b o z t => c.frame b o z (fun _ w => w) t
    have okg : Ok K g κ B F' H' σ ρ := ok.grow c.ext c.sub x1 c.fz c.dom c.tab
    refine q v F' H' ?_ c.ext x1
    obtain ⟨S2, e2, th⟩ := ok.there
    have e3 := e2.grow ok.1 c.ext x1 c.fz
    refine ⟨okg.1, fun i b => (i ≠ κ.length ∧ S2 i b) ∨ (i = κ.length ∧ S κp.length b), ⟨e3.lenR, fun i j b x y => ?_, fun i b x => ?_, fun i s d a b => ?_⟩, Hold.up (fun b z => .inr ⟨rfl, z⟩) hd, fun b z => ?_⟩
    · rcases x with x | x <;> rcases y with y | y
      · exact e3.dis i j b x.2 y.2
      · obtain ⟨_, xs, l, _⟩ := th i b x.2
        have := hn b y.2
        have this : H b = none := this
        rw [l] at this; cases this
      · obtain ⟨_, xs, l, _⟩ := th j b y.2
        have this : H b = none := hn b x.2
        rw [l] at this; cases this
      · rw [x.1, y.1]
    · rcases x with x | x
      · exact e3.mine i b x.2
      · exact .inr (ok.1.dom b (hn b x.2))
    · obtain ⟨w, q1, q2⟩ := e3.held i s d a b
      have hi : i ≠ κ.length := fun z => by
        have := (List.getElem?_eq_some_iff.mp a).1
        omega
      exact ⟨w, q1, Hold.up (fun b z => .inl ⟨hi, z⟩) q2⟩
    · rcases z with z | z
      · exact (z.1 rfl).elim
      · exact ok.1.dom b (hn b z.2)
end
def eCall (κp : List Sl) (mf : List D → Option (D × List D)) (a : M (List D)) : M D := bnd a fun ds => lft (callR κp mf ds)
section
variable {X : Cx} {g : Gx} {κ κp : List Sl} {b b1 b2 : Bool} {k k1 kr : Kd} {mf : List D → Option (D × List D)} {E : XK}
theorem nx_call {e : Expr} {es : List Expr} {a : M (List D)} (hp : ∀ {t : TA}, PA X es t → PE X e (tCall (spM X.K g κp kr mf) [] E t)) (h : AL X g κ b es a) : NX X g κ b kr e (eCall κp mf a) :=
  PE.weak (hp h.pa) fun σ H Q ⟨B, F, ρ, d, ρ', ok, hm, q⟩ => by
    obtain ⟨ds, ρ1, h1, h2⟩ := bnd_some hm
    obtain ⟨h3, rfl⟩ := lft_some h2
    obtain ⟨ha, ds', h4⟩ := callR_some h3
    refine ⟨B, F, ρ, ds, _, ok, h1, fun vs F1 H1 ok1 e1 q1 w1 => ?_⟩
    show spM X.K g κp kr mf (vs ++ []) H1 Q E
    rw [List.append_nil]
    exact call_go ok1 w1 ha h4 fun v F' H' okn e2 x2 => q v F' H' okn (e1.trans e2) fun hb => (q1 hb).trans x2
/-- o.m(..) of a frozen object of the class c -/
def objNo (c m : Str) : D → Bool
  | .obj c' fs => decide (c' = c) && (fs.lookup m).isNone
  | _ => false
def eMeth (c m : Str) (κp : List Sl) (mf : List D → Option (D × List D)) (o : M D) (a : M (List D)) : M D := bnd o fun d => bnd (if objNo c m d then a else fun _ => none) fun ds => lft (callR κp mf (d :: ds))
theorem nx_meth {c : Str} {e o : Expr} {mo : M D} {m : Str} {es : List Expr} {a : M (List D)} (hp : ∀ {to : TE} {t : TA}, PE X o to → PA X es t → PE X e (tMeth (g.cl c) m (spM X.K g κp kr mf) [] E to t)) (ho : EX X g κ b1 k o mo) (h : AL X g κ b2 es a) (hk : k.fl = true := by rfl) :
    NX X g κ (b1 && b2) kr e (eMeth c m κp mf mo a) := PE.weak (hp ho h.pa) fun σ H Q ⟨B, F, ρ, d, ρ', ok, hm, q⟩ => by
  obtain ⟨x, ρ1, h1, h2⟩ := bnd_some hm
  obtain ⟨ds, ρ2, h3, h4⟩ := bnd_some h2
  obtain ⟨h5, rfl⟩ := lft_some h4
  obtain ⟨ha, ds', h6⟩ := callR_some h5
  split at h3
  · rename_i hx
    refine ⟨B, F, ρ, x, ρ1, ok, h1, fun v F1 H1 ok1 e1 q1 w1 => ?_⟩
    cases x <;> try (cases hx)
    rename_i c' fs
    obtain ⟨hc, hl⟩ := Bool.and_eq_true_iff.mp (show (decide (c' = c) && (fs.lookup m).isNone) = true from hx)
    have hc := of_decide_eq_true hc
    subst hc
    obtain ⟨p, dx, us, rfl, l, rf⟩ := (w1.rep hk).ofObj
    refine ⟨p, dx, us, rfl, ok1.1.sub _ _ l, rf.lookN (by simpa using hl), B, F1, ρ1, ds, _, ok1, h3, fun vs F2 H2 ok2 e2 q2 w2 => ?_⟩
    show spM X.K g κp kr mf (V.ref p :: (vs ++ [])) H2 Q E
    rw [List.append_nil]
    exact call_go ok2 (.cons ((w1.rep hk).mono e2) w2) ha h6 fun v F' H' okn e3 x3 => q v F' H' okn ((e1.trans e2).trans e3) fun hb => by
      rw [Bool.and_eq_true] at hb
      exact ((q1 hb.1).trans (q2 hb.2)).trans x3
  · cases h3
theorem nx_meth0 {c : Str} {e o : Expr} {mo : M D} {m : Str} (hp : ∀ {to : TE}, PE X o to → PE X e (tMeth (g.cl c) m (spM X.K g κp kr mf) [] E to tNil)) (ho : EX X g κ b1 k o mo) (hk : k.fl = true := by rfl) :
    NX X g κ b1 kr e (eMeth c m κp mf mo aNil) := PE.weak (hp ho) fun σ H Q ⟨B, F, ρ, d, ρ', ok, hm, q⟩ => by
  obtain ⟨x, ρ1, h1, h2⟩ := bnd_some hm
  obtain ⟨ds, ρ2, h3, h4⟩ := bnd_some h2
  obtain ⟨h5, rfl⟩ := lft_some h4
  obtain ⟨ha, ds', h6⟩ := callR_some h5
  split at h3
  · rename_i hx
    obtain ⟨rfl, rfl⟩ := ret_some h3
    refine ⟨B, F, ρ, x, _, ok, h1, fun v F1 H1 ok1 e1 q1 w1 => ?_⟩
    cases x <;> try (cases hx)
    rename_i c' fs
    obtain ⟨hc, hl⟩ := Bool.and_eq_true_iff.mp (show (decide (c' = c) && (fs.lookup m).isNone) = true from hx)
    have hc := of_decide_eq_true hc
    subst hc
    obtain ⟨p, dx, us, rfl, l, rf⟩ := (w1.rep hk).ofObj
    refine ⟨p, dx, us, rfl, ok1.1.sub _ _ l, rf.lookN (by simpa using hl), ?_⟩
    exact call_go (E := E) ok1 (.cons (w1.rep hk) .nil) ha h6 fun v F' H' okn e3 x3 => q v F' H' okn (e1.trans e3) fun hb => (q1 hb).trans x3
  · cases h3
end
end DL

set_option maxHeartbeats 4000000
/-! DL11: calls that change the list in a slot (their first argument). -/
namespace DL
open PySem PySem.Spec PyProof.Rows L2
section
variable {K : PySem.W.Frag} {g : Gx} {κ κr : List Sl} {s0 : Sl} {B : Bs} {F H : Hp} {σ : L2.St} {ρ : Rho} {kr : Kd} {mf : List D → Option (D × List D)}
theorem callIo_go {i : Nat} {s : Sl} {d0 d0' r : D} {ds rest : List D} {v0 : V} {vs : List V} {Q : VK} {E : XK} (ok : Ok K g κ B F H σ ρ) (hi : κ[i]? = some s) (hk : s.kd = s0.kd) (hio : s0.io = true) (hσ : σ[i]? = some (some v0)) (hr : ρ[i]? = some (some d0))
    (rs : Reps K g F ds vs) (ha : argsOk κr ds = true) (hm : mf (d0 :: ds) = some (r, d0' :: rest)) (q : ∀ v F' H', OkN K g κ B F' H' σ (ρ.set i (some d0')) kr r v → Ex F F' → Q v H') : spM K g (s0 :: κr) kr mf (v0 :: vs) H Q E := by
  obtain ⟨hl, ag⟩ := argsOk_get ha
  obtain ⟨S, e, th⟩ := ok.there
  have hlt := (List.getElem?_eq_some_iff.mp hi).1
  obtain ⟨v0', hσ', hd0⟩ := e.held i s d0 hi hr
  rw [hσ] at hσ'
  cases hσ'
  refine ⟨F, fun j b => j = 0 ∧ S i b, d0 :: ds, r, d0' :: rest, by rw [List.length_cons, List.length_cons, ← rs.length, hl], ⟨⟨Ex.refl F, ok.1.sub, fun _ _ z _ _ => z, fun _ _ _ => rfl, fun _ z => z, ok.1.tab, fun _ _ _ _ => rfl, fun j t b a io z => ?_, by simp [← rs.length, hl]⟩, fun j b => j = 0 ∧ S i b, ⟨by simp [hl], fun j l b x y => by rw [x.1, y.1], fun j b x => .inl x, fun j t d a b => ?_⟩⟩, hm, fun v F' H' okn => ?_⟩
  · rw [z.1] at a
    cases a
    rw [hio] at io; cases io
  · cases j with
    | zero =>
      cases a
      cases b
      refine ⟨v0, rfl, ?_⟩
      rw [← hk]
      exact Hold.up (fun b z => ⟨rfl, z⟩) hd0
    | succ j =>
      have a : κr[j]? = some t := by simpa using a
      have b : (ds.map some)[j]? = some (some d) := by simpa using b
      rw [List.getElem?_map] at b
      obtain ⟨d', b1, b2⟩ := Option.map_eq_some_iff.mp b
      cases b2
      obtain ⟨v, h1, h2⟩ := rs.get b1
      obtain ⟨_, hkk⟩ := ag j t a
      refine ⟨v, by simp [h1], Vw.hold (okK_flat (hkk _ b1)) (vw_okK (H := H) h2 (hkk _ b1) (Ex.refl F))⟩
  · obtain ⟨c, S', e', hd', hn'⟩ := okn
    have keep : ∀ j b o, j ≠ i → S j b → F b = none → H b = some o → mutO o = true → H' b = some o ∧ F' b = none := fun j b o hj sb f l mo => by
      refine ⟨c.frame b _ l (fun m z => hj (e.dis j i b sb z.2)) (notab ok.1.tab l mo), (c.fz b _ l).trans f⟩
    have io' : ∀ j b, S' j b → (j = 0 ∧ S i b) ∨ H b = none := fun j b z => e'.mine j b z
    have fr : ∀ j b, S j b → H b = none → False := fun j b z w => by
      obtain ⟨_, xs, l, _⟩ := th j b z
      rw [l] at w; cases w
    refine q v F' H' ⟨⟨ok.1.ext.trans c.ext, c.sub, fun b o z n t => ?_, fun b o z => ?_, fun b z => ok.1.dom b (c.dom b z), c.tab, ok.1.pin, ok.1.noio, ok.1.len⟩, fun j b => if j = i then S' 0 b else if j = κ.length then S' (s0 :: κr).length b else S j b, ⟨by rw [List.length_set]; exact e.lenR, fun j l b x y => ?_, fun j b x => ?_, fun j t d a b => ?_⟩, ?_, fun b z => ?_⟩ c.ext
    · have h1 := ok.1.frame b o z n t
      refine c.frame b o h1 (fun m w => ?_) t
      rcases e.mine i b w.2 with m' | m'
      · exact n i m'
      · rw [m'] at z; cases z
    · cases w : H b with
      | none => rw [ok.1.dom b w] at z; cases z
      | some u => exact (c.fz b u w).trans (ok.1.fz b o z)
    · -- which slots own the address
      have key : ∀ j, (if j = i then S' 0 b else if j = κ.length then S' (s0 :: κr).length b else S j b) → (j = i ∧ S' 0 b) ∨ (j ≠ i ∧ j = κ.length ∧ S' (s0 :: κr).length b) ∨ (j ≠ i ∧ j ≠ κ.length ∧ S j b) := fun j x => by
        by_cases h1 : j = i
        · rw [if_pos h1] at x; exact .inl ⟨h1, x⟩
        · rw [if_neg h1] at x
          by_cases h2 : j = κ.length
          · rw [if_pos h2] at x; exact .inr (.inl ⟨h1, h2, x⟩)
          · rw [if_neg h2] at x; exact .inr (.inr ⟨h1, h2, x⟩)
      rcases key j x with x | x | x <;> rcases key l y with y | y | y
      · rw [x.1, y.1]
      · have := e'.dis 0 _ b x.2 y.2.2
        simp at this
      · rcases io' 0 b x.2 with m | m
        · exact (y.1 (e.dis l i b y.2.2 m.2)).elim
        · exact (fr l b y.2.2 m).elim
      · have := e'.dis _ 0 b x.2.2 y.2
        simp at this
      · rw [x.2.1, y.2.1]
      · exact (fr l b y.2.2 (hn' b x.2.2)).elim
      · rcases io' 0 b y.2 with m | m
        · exact (x.1 (e.dis j i b x.2.2 m.2)).elim
        · exact (fr j b x.2.2 m).elim
      · exact (fr j b x.2.2 (hn' b y.2.2)).elim
      · exact e.dis j l b x.2.2 y.2.2
    · by_cases h1 : j = i
      · simp only [if_pos h1] at x
        rcases io' 0 b x with m | m
        · rw [h1]; exact e.mine i b m.2
        · exact .inr (ok.1.dom b m)
      · simp only [if_neg h1] at x
        by_cases h2 : j = κ.length
        · simp only [if_pos h2] at x
          exact .inr (ok.1.dom b (hn' b x))
        · simp only [if_neg h2] at x
          exact e.mine j b x
    · have hj := (List.getElem?_eq_some_iff.mp a).1
      by_cases h1 : j = i
      · subst h1
        rw [hi] at a
        cases a
        rw [List.getElem?_set_self (by rw [e.lenR]; exact hlt)] at b
        cases b
        obtain ⟨w, q1, q2⟩ := e'.held 0 s0 d0' rfl rfl
        cases q1
        refine ⟨v0, hσ, ?_⟩
        simp only [if_pos]
        rw [hk]
        exact q2
      · rw [List.getElem?_set_ne (Ne.symm h1)] at b
        obtain ⟨w, q1, q2⟩ := e.held j t d a b
        refine ⟨w, q1, ?_⟩
        have h2 : j ≠ κ.length := by omega
        simp only [if_neg h1, if_neg h2]
        exact q2.keep c.ext fun b o sb f l m => keep j b o h1 sb f l m
    · have h1 : ¬ κ.length = i := by omega
      simp only [if_neg h1, if_pos]
      exact hd'
    · have h1 : ¬ κ.length = i := by omega
      simp only [if_neg h1, if_pos] at z
      exact ok.1.dom b (hn' b z)
end
def eCallIo (i : Nat) (κr : List Sl) (mf : List D → Option (D × List D)) (a : M (List D)) : M D := bnd (eVar i) fun _ => bnd a fun ds => fun ρ => match ρ[i]? with
  | some (some d0) => if argsOk κr ds then (match mf (d0 :: ds) with
    | some (r, d0' :: _) => some (r, ρ.set i (some d0'))
    | _ => none) else none
  | _ => none
section
variable {X : Cx} {g : Gx} {κ κr : List Sl} {s0 : Sl} {b b1 b2 : Bool} {k k1 kr : Kd} {mf : List D → Option (D × List D)} {E : XK}
theorem nx_callIo {e e0 : Expr} {es : List Expr} {a : M (List D)} {i : Nat} {s : Sl} (hp : ∀ {t : TA}, PA X (e0 :: es) t → PE X e (tCall (spM X.K g (s0 :: κr) kr mf) [] E t)) (h0 : PE X e0 (tVar i)) (h : AL X g κ b es a)
    (hi : κ[i]? = some s) (hk : s.kd = s0.kd := by rfl) (hio : s0.io = true := by rfl) (hs : starEach (e0 :: es) X.env = (false, eval e0 X.env) :: starEach es X.env := by rfl) : NX X g κ false kr e (eCallIo i κr mf a) :=
  PE.weak (hp (pa_cons h0 h.pa hs)) fun σ H Q ⟨B, F, ρ, d, ρ', ok, hm, q⟩ => by
    obtain ⟨dv, ρ1, h1, h2⟩ := bnd_some hm
    obtain ⟨hr, rfl⟩ := eVar_some h1
    obtain ⟨ds, ρ2, h3, h4⟩ := bnd_some h2
    obtain ⟨v0, hσ, _⟩ := ok.get hi hr
    refine ⟨v0, hσ, B, F, _, ds, ρ2, ok, h3, fun vs F1 H1 ok1 e1 q1 w1 => ?_⟩
    show spM X.K g (s0 :: κr) kr mf (v0 :: vs ++ []) H1 Q E
    rw [List.append_nil]
    have h4 : (match ρ2[i]? with
      | some (some d0) => if argsOk κr ds then (match mf (d0 :: ds) with
        | some (r, d0' :: _) => some (r, ρ2.set i (some d0'))
        | _ => none) else none
      | _ => none) = some (d, ρ') := h4
    split at h4
    · rename_i d0 hr2
      split at h4
      · rename_i ha
        split at h4
        · rename_i r d0' rest hmf
          cases h4
          exact callIo_go ok1 hi hk hio hσ hr2 w1 ha hmf fun v F' H' okn e2 => q v F' H' okn (e1.trans e2) fun z => by cases z
        · cases h4
      · cases h4
    · cases h4
end
end DL

set_option maxHeartbeats 4000000
/-! DLZ: zip of a list or tuple with a list or tuple. -/
namespace DLZ
open PySem
section
/-- t: a tuple; else a list -/
def ItAt (t : Bool) (h : Heap) (it l : Addr) (i : Nat) : Prop := match t with
  | true => h.IsTupleIter it l i
  | false => h.IsListIter it l i
def SqAt (t : Bool) (h : Heap) (l : Addr) (xs : Array Value) : Prop := match t with
  | true => h.IsTuple l xs
  | false => h.IsList l xs
variable {h h' : Heap} {it l a : Addr} {i : Nat} {xs : Array Value}
theorem ItAt.ext : ∀ {t : Bool}, ItAt t h it l i → Heap.ExtBut a h h' → it ≠ a → ItAt t h' it l i
  | true, q, e, n => Heap.IsTupleIter.extBut q e n
  | false, q, e, n => Heap.IsListIter.extBut q e n
theorem SqAt.ext : ∀ {t : Bool}, SqAt t h l xs → Heap.ExtBut a h h' → l ≠ a → SqAt t h' l xs
  | true, q, e, n => Heap.IsTuple.extBut q e n
  | false, q, e, n => Heap.IsList.extBut q e n
theorem ItAt.mv : ∀ {t : Bool}, ItAt t h it l i → (∀ o, h.get? it = some o → h'.get? it = some o) → ItAt t h' it l i
  | true, q, e => Heap.IsTupleIter.at q e
  | false, q, e => Heap.IsListIter.at q e
theorem ItAt.obj : ∀ {t : Bool}, ItAt t h it l i → ∃ o, h.get? it = some o ∧ ∀ v, o.data ≠ .cell v
  | true, ⟨o, e, _, d⟩ => ⟨o, e, fun v z => by rw [d] at z; cases z⟩
  | false, ⟨o, e, _, d⟩ => ⟨o, e, fun v z => by rw [d] at z; cases z⟩
theorem ItAt.lt {t : Bool} (q : ItAt t h it l i) : it < h.objs.size := by
  obtain ⟨o, e, _⟩ := q.obj
  exact Heap.lt_size e
end
section
variable {prog : Program} {w : World} {A : Around} {E : Value → Shared → Prop} {s : Shared}
theorem next_item {it l : Addr} {i : Nat} {xs : Array Value} {x : Value} {Q : Value → Shared → Prop} : ∀ {t : Bool}, ItAt t s.heap it l i → SqAt t s.heap l xs → xs[i]? = some x →
    (∀ h', ItAt t h' it l (i + 1) → Heap.SameBut it s.heap h' → Q x { s with heap := h' }) → wpAny (model prog w) A (Builtin.SmallTypes.nextOf (.ref it)) Q E s
  | true, a, b, c, q => RZ.nextOf_tuple_item a b c q
  | false, a, b, c, q => wpAny_nextOf_list_item a b c q
theorem next_end {it l : Addr} {i : Nat} {xs : Array Value} {Q : Value → Shared → Prop} (hh : A.handled = none) : ∀ {t : Bool}, ItAt t s.heap it l i → SqAt t s.heap l xs → xs[i]? = none →
    (∀ h' e, Heap.ExtBut it s.heap h' → (∃ o, h'.get? e = some o ∧ o.cls = .type "StopIteration") → E (.ref e) { s with heap := h' }) → wpAny (model prog w) A (Builtin.SmallTypes.nextOf (.ref it)) Q E s
  | true, a, b, c, q => RZ.nextOf_tuple_end hh a b c q
  | false, a, b, c, q => wpAny_nextOf_list_end hh a b c q
variable {t u : Bool}
theorem zip_item {z TI TO i1 i2 l1 l2 : Addr} {k1 k2 : Nat} {xs ys : Array Value} {x y a b : Value} {Q : Value → Shared → Prop} (D : ZipApart z TI TO i1 i2 l1 l2)
    (hz : IsZip s.heap z TI TO .none) (hTI : IsPair s.heap TI (.ref i1) (.ref i2)) (hTO : IsPair s.heap TO a b)
    (h1 : ItAt t s.heap i1 l1 k1) (h2 : ItAt u s.heap i2 l2 k2) (hl1 : SqAt t s.heap l1 xs) (hl2 : SqAt u s.heap l2 ys) (hx : xs[k1]? = some x) (hy : ys[k2]? = some y)
    (hQ : ∀ h', IsZip h' z TI TO (rawInt s.heap.objs.size) → IsPair h' TO x y → ItAt t h' i1 l1 (k1 + 1) → ItAt u h' i2 l2 (k2 + 1) → IsPair h' s.heap.objs.size x y → h'.objs.size = s.heap.objs.size + 1 →
      (∀ c o, c ≠ z → c ≠ TO → c ≠ i1 → c ≠ i2 → s.heap.get? c = some o → h'.get? c = some o) → Q (.ref s.heap.objs.size) { s with heap := h' }) :
    wpAny (model prog w) A (Builtin.«zip.__next__» ⟨[.ref z], []⟩) (fun fin s' => ∃ v, fin = .done (.ret v) ∧ Q v s') E s := by
  show wpAny _ _ (field (.ref z) 2 >>= _) _ _ _
  refine wpAny_bind (wpAny_field hz rfl (x := .bool false) rfl ?_)
  show wpAny _ _ (field (.ref z) 3 >>= _) _ _ _
  refine wpAny_bind (wpAny_field hz rfl (x := .ref TI) rfl ?_)
  refine wpAny_bind (wpAny_seqItems hTI rfl ?_)
  show wpAny _ _ (Builtin.SmallTypes.ownedTupleIsFree (.ref z) >>= _) _ _ _
  refine wpAny_bind ?_
  unfold Builtin.SmallTypes.ownedTupleIsFree
  refine wpAny_bind (wpAny_field hz rfl (x := .none) rfl (wpAny_pure ?_))
  simp only [if_true]
  refine wpAny_bind (wpAny_rule ?_)
  refine wpAny_bind (wpAny_field hz rfl (x := .ref TO) rfl ?_)
  refine wpAny_bind (wpAny_setField_rec hz (by simp) fun g1 z1 s1 => ?_)
  replace z1 : IsZip g1 z TI TO .ellipsis := z1
  refine wpAny_bind ?_
  simp only [List.zipIdx_cons, List.zipIdx_nil, List.forIn_cons, List.forIn_nil]
  refine wpAny_bind (wpAny_bind (wpAny_onRaise ?_))
  show wpAny _ _ (Builtin.SmallTypes.nextOf (.ref i1) >>= _) _ _ _
  refine wpAny_bind (next_item (h1.ext s1.extBut D.i1z) (hl1.ext s1.extBut D.l1z) hx fun g2 a2 s2 => wpAny_pure ?_)
  have o2 : IsPair g2 TO a b := s2.extBut _ _ D.TOi1 (s1.extBut _ _ D.TOz hTO)
  refine wpAny_bind (wpAny_seqItems o2 rfl ?_)
  refine wpAny_bind (wpAny_updateSeq_pair o2 fun g3 o3 s3 => ?_)
  replace o3 : IsPair g3 TO x b := o3
  refine wpAny_bind (wpAny_letGo (wpAny_pure ?_))
  refine wpAny_bind (wpAny_bind (wpAny_onRaise ?_))
  show wpAny _ _ (Builtin.SmallTypes.nextOf (.ref i2) >>= _) _ _ _
  refine wpAny_bind (next_item (((h2.ext s1.extBut D.i2z).ext s2.extBut D.i12.symm).ext s3.extBut D.TOi2.symm)
    (((hl2.ext s1.extBut D.l2z).ext s2.extBut D.l2i1).ext s3.extBut D.l2TO) hy fun g4 a4 s4 => wpAny_pure ?_)
  have o4 : IsPair g4 TO x b := s4.extBut _ _ D.TOi2 o3
  refine wpAny_bind (wpAny_seqItems o4 rfl ?_)
  refine wpAny_bind (wpAny_updateSeq_pair o4 fun g5 o5 s5 => ?_)
  replace o5 : IsPair g5 TO x y := o5
  refine wpAny_bind (wpAny_letGo (wpAny_pure (wpAny_pure ?_)))
  refine wpAny_bind (wpAny_seqItems o5 rfl ?_)
  refine wpAny_bind (wpAny_newTuple ?_)
  have hsz : g5.objs.size = s.heap.objs.size := by rw [s5.1, s4.1, s3.1, s2.1, s1.1]
  have z5 : IsZip g5 z TI TO .ellipsis := s5.extBut _ _ D.TOz.symm (s4.extBut _ _ D.i2z.symm (s3.extBut _ _ D.TOz.symm (s2.extBut _ _ D.i1z.symm z1)))
  have k5 : ∀ c o, c ≠ z → c ≠ TO → c ≠ i1 → c ≠ i2 → s.heap.get? c = some o → g5.get? c = some o := fun c o c1 c2 c3 c4 e =>
    s5.extBut _ _ c2 (s4.extBut _ _ c4 (s3.extBut _ _ c2 (s2.extBut _ _ c3 (s1.extBut _ _ c1 e))))
  have p1 : ItAt t g5 i1 l1 (k1 + 1) := ((a2.ext s3.extBut D.TOi1.symm).ext s4.extBut D.i12).ext s5.extBut D.TOi1.symm
  have p2 : ItAt u g5 i2 l2 (k2 + 1) := a4.ext s5.extBut D.TOi2.symm
  have zlt : z < g5.objs.size := Heap.lt_size z5
  show wpAny _ _ (Builtin.SmallTypes.ownedTupleHandOut (.ref z) (.ref g5.objs.size) >>= _) _ _ _
  refine wpAny_bind ?_
  unfold Builtin.SmallTypes.ownedTupleHandOut
  have z6 : IsZip (g5.push { cls := .type "tuple", data := .seq #[x, y] }) z TI TO .ellipsis := Heap.get?_push_of_some _ z5
  refine wpAny_bind (wpAny_setField_rec z6 (by simp) fun g7 z7 s7 => ?_)
  replace z7 : IsZip g7 z TI TO (rawInt g5.objs.size) := z7
  refine wpAny_setField_rec z7 (by simp) fun g8 z8 s8 => ?_
  replace z8 : IsZip g8 z TI TO (rawInt g5.objs.size) := z8
  have up : ∀ c o, c ≠ z → g5.get? c = some o → g8.get? c = some o := fun c o c1 e => s8.extBut _ _ c1 (s7.extBut _ _ c1 (Heap.get?_push_of_some _ e))
  have hT8 : IsPair g8 g5.objs.size x y := s8.extBut _ _ (Nat.ne_of_gt zlt) (s7.extBut _ _ (Nat.ne_of_gt zlt) (Heap.get?_push_size _ rfl))
  have sz8 : g8.objs.size = g5.objs.size + 1 := by rw [s8.1, s7.1, Heap.size_push]
  rw [hsz] at z8 hT8 sz8
  refine wpAny_pure ⟨_, rfl, ?_⟩
  show Q (.ref g5.objs.size) _
  rw [hsz]
  exact hQ g8 z8 (up _ _ D.TOz o5) (p1.mv fun o e => up _ o D.i1z e) (p2.mv fun o e => up _ o D.i2z e) hT8 sz8 fun c o c1 c2 c3 c4 e => up c o c1 (k5 c o c1 c2 c3 c4 e)
theorem zip_end {z TI TO i1 i2 l1 l2 : Addr} {k1 k2 : Nat} {xs ys : Array Value} {a b : Value} {Q : Fin → Shared → Prop} (hh : A.handled = none) (D : ZipApart z TI TO i1 i2 l1 l2)
    (hz : IsZip s.heap z TI TO .none) (hTI : IsPair s.heap TI (.ref i1) (.ref i2)) (hTO : IsPair s.heap TO a b)
    (h1 : ItAt t s.heap i1 l1 k1) (h2 : ItAt u s.heap i2 l2 k2) (hl1 : SqAt t s.heap l1 xs) (hl2 : SqAt u s.heap l2 ys) (hend : xs[k1]? = none ∨ ys[k2]? = none)
    (hE : ∀ h' e, (∀ c o, c ≠ z → c ≠ TO → c ≠ i1 → c ≠ i2 → s.heap.get? c = some o → h'.get? c = some o) → (∃ o, h'.get? e = some o ∧ o.cls = .type "StopIteration") → E (.ref e) { s with heap := h' }) :
    wpAny (model prog w) A (Builtin.«zip.__next__» ⟨[.ref z], []⟩) Q E s := by
  show wpAny _ _ (field (.ref z) 2 >>= _) _ _ _
  refine wpAny_bind (wpAny_field hz rfl (x := .bool false) rfl ?_)
  show wpAny _ _ (field (.ref z) 3 >>= _) _ _ _
  refine wpAny_bind (wpAny_field hz rfl (x := .ref TI) rfl ?_)
  refine wpAny_bind (wpAny_seqItems hTI rfl ?_)
  show wpAny _ _ (Builtin.SmallTypes.ownedTupleIsFree (.ref z) >>= _) _ _ _
  refine wpAny_bind ?_
  unfold Builtin.SmallTypes.ownedTupleIsFree
  refine wpAny_bind (wpAny_field hz rfl (x := .none) rfl (wpAny_pure ?_))
  simp only [if_true]
  refine wpAny_bind (wpAny_rule ?_)
  refine wpAny_bind (wpAny_field hz rfl (x := .ref TO) rfl ?_)
  refine wpAny_bind (wpAny_setField_rec hz (by simp) fun g1 z1 s1 => ?_)
  replace z1 : IsZip g1 z TI TO .ellipsis := z1
  refine wpAny_bind ?_
  simp only [List.zipIdx_cons, List.zipIdx_nil, List.forIn_cons, List.forIn_nil]
  refine wpAny_bind (wpAny_bind (wpAny_onRaise ?_))
  show wpAny _ _ (Builtin.SmallTypes.nextOf (.ref i1) >>= _) _ _ _
  cases hx : xs[k1]? with
  | none =>
    refine wpAny_bind (next_end hh (h1.ext s1.extBut D.i1z) (hl1.ext s1.extBut D.l1z) hx fun g2 e s2 he => ?_)
    obtain ⟨oe, hoe, hce⟩ := he
    have z2 : IsZip g2 z TI TO .ellipsis := s2 _ _ D.i1z.symm z1
    have ne : e ≠ z := fun q => by subst q; rw [z2] at hoe; cases hoe; simp at hce
    refine wpAny_setField_rec z2 (by simp) fun g3 _ s3 => hE g3 e (fun c o c1 _ c3 _ q => s3.extBut _ _ c1 (s2 _ _ c3 (s1.extBut _ _ c1 q))) ⟨oe, s3.extBut _ _ ne hoe, hce⟩
  | some x =>
    have hy : ys[k2]? = none := by
      rcases hend with q | q
      · rw [hx] at q; cases q
      · exact q
    refine wpAny_bind (next_item (h1.ext s1.extBut D.i1z) (hl1.ext s1.extBut D.l1z) hx fun g2 a2 s2 => wpAny_pure ?_)
    have o2 : IsPair g2 TO a b := s2.extBut _ _ D.TOi1 (s1.extBut _ _ D.TOz hTO)
    refine wpAny_bind (wpAny_seqItems o2 rfl ?_)
    refine wpAny_bind (wpAny_updateSeq_pair o2 fun g3 o3 s3 => ?_)
    refine wpAny_bind (wpAny_letGo (wpAny_pure ?_))
    refine wpAny_bind (wpAny_bind (wpAny_onRaise ?_))
    show wpAny _ _ (Builtin.SmallTypes.nextOf (.ref i2) >>= _) _ _ _
    refine wpAny_bind (next_end hh (((h2.ext s1.extBut D.i2z).ext s2.extBut D.i12.symm).ext s3.extBut D.TOi2.symm)
      (((hl2.ext s1.extBut D.l2z).ext s2.extBut D.l2i1).ext s3.extBut D.l2TO) hy fun g4 e s4 he => ?_)
    obtain ⟨oe, hoe, hce⟩ := he
    have z4 : IsZip g4 z TI TO .ellipsis := s4 _ _ D.i2z.symm (s3.extBut _ _ D.TOz.symm (s2.extBut _ _ D.i1z.symm z1))
    have ne : e ≠ z := fun q => by subst q; rw [z4] at hoe; cases hoe; simp at hce
    refine wpAny_setField_rec z4 (by simp) fun g5 _ s5 => hE g5 e (fun c o c1 c2 c3 c4 q => s5.extBut _ _ c1 (s4 _ _ c4 (s3.extBut _ _ c2 (s2.extBut _ _ c3 (s1.extBut _ _ c1 q))))) ⟨oe, s5.extBut _ _ ne hoe, hce⟩
theorem py_item {z TI TO i1 i2 l1 l2 : Addr} {k1 k2 : Nat} {xs ys : Array Value} {x y a b : Value} {Q : Option Value → Shared → Prop} (D : ZipApart z TI TO i1 i2 l1 l2)
    (hz : IsZip s.heap z TI TO .none) (hTI : IsPair s.heap TI (.ref i1) (.ref i2)) (hTO : IsPair s.heap TO a b)
    (h1 : ItAt t s.heap i1 l1 k1) (h2 : ItAt u s.heap i2 l2 k2) (hl1 : SqAt t s.heap l1 xs) (hl2 : SqAt u s.heap l2 ys) (hx : xs[k1]? = some x) (hy : ys[k2]? = some y)
    (hQ : ∀ h', IsZip h' z TI TO (rawInt s.heap.objs.size) → IsPair h' TO x y → ItAt t h' i1 l1 (k1 + 1) → ItAt u h' i2 l2 (k2 + 1) → IsPair h' s.heap.objs.size x y → h'.objs.size = s.heap.objs.size + 1 →
      (∀ c o, c ≠ z → c ≠ TO → c ≠ i1 → c ≠ i2 → s.heap.get? c = some o → h'.get? c = some o) → Q (some (.ref s.heap.objs.size)) { s with heap := h' }) :
    wpAny (model prog w) A (pyNext (.ref z)) Q E s := by
  have hT : s.TypeIs (.ref z) "zip" := ⟨_, hz, rfl⟩
  unfold pyNext
  exact wpAny_bind (wpAny_attempt (wpAny_callSpecial?_slot (name := Str.ofString "__next__") hT F.slot_zip_next
    (wpAny_call_entry F.slot_zip_next hT F.entry_zip_next
      (zip_item D hz hTI hTO h1 h2 hl1 hl2 hx hy fun h' a1 a2 a3 a4 a5 a6 a7 => wpAny_pure (hQ h' a1 a2 a3 a4 a5 a6 a7)) (F.args_zip_next_1 _))))
theorem py_end {z TI TO i1 i2 l1 l2 : Addr} {k1 k2 : Nat} {xs ys : Array Value} {a b : Value} {Q : Option Value → Shared → Prop} (hh : A.handled = none) (D : ZipApart z TI TO i1 i2 l1 l2)
    (hz : IsZip s.heap z TI TO .none) (hTI : IsPair s.heap TI (.ref i1) (.ref i2)) (hTO : IsPair s.heap TO a b)
    (h1 : ItAt t s.heap i1 l1 k1) (h2 : ItAt u s.heap i2 l2 k2) (hl1 : SqAt t s.heap l1 xs) (hl2 : SqAt u s.heap l2 ys) (hend : xs[k1]? = none ∨ ys[k2]? = none)
    (hQ : ∀ h', (∀ c o, c ≠ z → c ≠ TO → c ≠ i1 → c ≠ i2 → s.heap.get? c = some o → h'.get? c = some o) → Q none { s with heap := h' }) : wpAny (model prog w) A (pyNext (.ref z)) Q E s := by
  have hT : s.TypeIs (.ref z) "zip" := ⟨_, hz, rfl⟩
  unfold pyNext
  refine wpAny_bind (wpAny_attempt (wpAny_callSpecial?_slot (name := Str.ofString "__next__") hT F.slot_zip_next
    (wpAny_call_entry F.slot_zip_next hT F.entry_zip_next (zip_end hh D hz hTI hTO h1 h2 hl1 hl2 hend fun h' e hk he => ?_) (F.args_zip_next_1 _))))
  obtain ⟨o, ho, hc⟩ := he
  refine wpAny_bind (wpAny_isInstance (T := "StopIteration") (b := true) ⟨o, ho, hc⟩ isSubtype_stop ?_)
  exact wpAny_pure (hQ _ hk)
/-! ### its making: a list with a tuple -/
abbrev mk1 (h : Heap) (l1 : Addr) : Heap := h.push { cls := .type "list_iterator", data := .fields #[.ref l1, .int 0 0] }
abbrev mk2 (h : Heap) (l1 l2 : Addr) : Heap := (mk1 h l1).push { cls := .type "tuple_iterator", data := .fields #[.ref l2, .int 0 0] }
abbrev mk3 (h : Heap) (l1 l2 : Addr) : Heap := (mk2 h l1 l2).push { cls := .type "tuple", data := .seq #[.ref h.objs.size, .ref (mk1 h l1).objs.size] }
abbrev mk4 (h : Heap) (l1 l2 : Addr) : Heap := (mk3 h l1 l2).push { cls := .type "tuple", data := .seq #[.none, .none] }
abbrev mk5 (h : Heap) (l1 l2 : Addr) : Heap := (mk4 h l1 l2).push { cls := .type "zip", data := .fields #[.none, .bool false, .bool false, .ref (mk2 h l1 l2).objs.size, .ref (mk3 h l1 l2).objs.size] }
theorem meets_new (l1 l2 : Addr) (xs ys : Array Value) :
    Meets (Builtin.«zip.__new__» ⟨[.type "zip", .ref l1, .ref l2], []⟩) (fun _ R s => s.heap.IsList l1 xs ∧ s.heap.IsTuple l2 ys ∧
      R (.ok (.ret (.ref (mk4 s.heap l1 l2).objs.size))) { s with heap := mk5 s.heap l1 l2 }) :=
  .of_wp fun prog w A R s h => by
    obtain ⟨hp, g, d, tk, os⟩ := s; obtain ⟨hl1, hl2, h⟩ := h
    have hsub := sub_zip
    have hL1 : Heap.IsList (Shared.heap ⟨hp, g, d, tk, os⟩) l1 xs := hl1
    have hL2 : Heap.IsTuple (Shared.heap ⟨hp.push { cls := .type "list_iterator", data := .fields #[.ref l1, .int 0 0] }, g, d, tk, os⟩) l2 ys := Heap.IsTuple.push hl2 _
    wp_walk using wpAny_pyIter_list hL1, wpAny_pyIter_tuple hL2
    exact ⟨_, rfl, h⟩
theorem call_zip {l1 l2 : Addr} {xs ys : Array Value} {Q : Value → Shared → Prop} (hl1 : s.heap.IsList l1 xs) (hl2 : s.heap.IsTuple l2 ys)
    (h : ∀ h', IsZip h' (s.heap.objs.size + 4) (s.heap.objs.size + 2) (s.heap.objs.size + 3) .none → IsPair h' (s.heap.objs.size + 2) (.ref s.heap.objs.size) (.ref (s.heap.objs.size + 1)) →
      IsPair h' (s.heap.objs.size + 3) .none .none → h'.IsListIter s.heap.objs.size l1 0 → h'.IsTupleIter (s.heap.objs.size + 1) l2 0 → h'.objs.size = s.heap.objs.size + 5 →
      (∀ c o, s.heap.get? c = some o → h'.get? c = some o) → Q (.ref (s.heap.objs.size + 4)) { s with heap := h' }) :
    wpAny (model prog w) A (call (.type "zip") [.ref l1, .ref l2]) Q E s := by
  refine callType_new F.called_zip (by decide) (F.typeCall_zip_2 _ _) (F.newCall_zip_2 _ _) (fun obj => F.args_object_init_3 obj _ _) F.entry_zip_new
    (meets_new l1 l2 xs ys) ⟨hl1, hl2, ?_⟩
  have z1 : (mk1 s.heap l1).objs.size = s.heap.objs.size + 1 := Heap.size_push ..
  have z2 : (mk2 s.heap l1 l2).objs.size = s.heap.objs.size + 2 := by rw [Heap.size_push, z1]
  have z3 : (mk3 s.heap l1 l2).objs.size = s.heap.objs.size + 3 := by rw [Heap.size_push, z2]
  have z4 : (mk4 s.heap l1 l2).objs.size = s.heap.objs.size + 4 := by rw [Heap.size_push, z3]
  have z5 : (mk5 s.heap l1 l2).objs.size = s.heap.objs.size + 5 := by rw [Heap.size_push, z4]
  have k1 : ∀ {c : Addr} {o : Obj}, (mk1 s.heap l1).get? c = some o → (mk5 s.heap l1 l2).get? c = some o := fun e => Heap.get?_push_of_some _ (Heap.get?_push_of_some _ (Heap.get?_push_of_some _ (Heap.get?_push_of_some _ e)))
  have g5 : (mk5 s.heap l1 l2).get? (mk4 s.heap l1 l2).objs.size = some _ := Heap.get?_push_size _ rfl
  have g4 : (mk5 s.heap l1 l2).get? (mk3 s.heap l1 l2).objs.size = some _ := Heap.get?_push_of_some _ (Heap.get?_push_size _ rfl)
  have g3 : (mk5 s.heap l1 l2).get? (mk2 s.heap l1 l2).objs.size = some _ := Heap.get?_push_of_some _ (Heap.get?_push_of_some _ (Heap.get?_push_size _ rfl))
  have g2 : (mk5 s.heap l1 l2).get? (mk1 s.heap l1).objs.size = some _ := Heap.get?_push_of_some _ (Heap.get?_push_of_some _ (Heap.get?_push_of_some _ (Heap.get?_push_size _ rfl)))
  have g1 : (mk5 s.heap l1 l2).get? s.heap.objs.size = some _ := k1 (Heap.get?_push_size _ rfl)
  show _ ∧ _
  rw [z2, z3, z4] at g5
  rw [z1, z2] at g3
  rw [z3] at g4
  rw [z1] at g2
  rw [z4]
  exact ⟨⟨_, g5, rfl⟩, h _ g5 g3 g4 ⟨_, g1, rfl, rfl⟩ ⟨_, g2, rfl, rfl⟩ z5 fun c o x => k1 (Heap.get?_push_of_some _ x)⟩
end
end DLZ
namespace DLZ
open PySem PySem.Spec PyProof.Rows L2
/-- a list at a, a tuple at b, walked side by side, their items in new pairs -/
def ItzM (K : PySem.W.Frag) (a b : Addr) : It :=
  ⟨fun i H => ∃ (xs ys : List V) (x y : V), SqL K H a xs ∧ SqT K H b ys ∧ xs[i]? = some x ∧ ys[i]? = some y,
    fun i H v H' => ∃ T x y, v = .ref T ∧ H T = none ∧ H' = upd H T (.tup [x, y]) ∧ (∀ xs, SqL K H a xs → xs[i]? = some x) ∧ ∀ ys, SqT K H b ys → ys[i]? = some y,
    fun i H => ∃ xs ys : List V, SqL K H a xs ∧ SqT K H b ys ∧ (xs.length ≤ i ∨ ys.length ≤ i)⟩
theorem turn_zipM {P : Program} {w : World} {K : PySem.W.Frag} {elts : List Expr} {kk : Nat} {tpos : Pos} {a b z TI TO i1 i2 : Addr} (D : ZipApart z TI TO i1 i2 a b) :
    Turn P w K (.Tuple elts kk tpos) (ItzM K a b) [z, TI, TO, i1, i2] z (fun i h => IsZip h z TI TO .none ∧ IsPair h TI (.ref i1) (.ref i2) ∧ (∃ x y, IsPair h TO x y) ∧ ItAt false h i1 a i ∧ ItAt true h i2 b i) where
  mem := by simp
  obj := fun i h st c hc => by
    obtain ⟨hz, hTI, ⟨x, y, hTO⟩, o1, o2⟩ := st
    simp only [List.mem_cons, List.not_mem_nil, or_false] at hc
    rcases hc with rfl | rfl | rfl | rfl | rfl
    · exact ⟨_, hz, fun v q => nomatch q⟩
    · exact ⟨_, hTI, fun v q => nomatch q⟩
    · exact ⟨_, hTO, fun v q => nomatch q⟩
    · exact o1.obj
    · exact o2.obj
  keep := fun i h h' st k => by
    obtain ⟨hz, hTI, ⟨x, y, hTO⟩, h1, h2⟩ := st
    exact ⟨k z (by simp) _ hz, k TI (by simp) _ hTI, ⟨x, y, k TO (by simp) _ hTO⟩, h1.mv fun o q => k i1 (by simp) o q, h2.mv fun o q => k i2 (by simp) o q⟩
  item := by
    intro X hP hw hK hc i pins s σ H E I hf st hg
    subst hP hw hK
    obtain ⟨hz, hTI, ⟨x0, y0, hTO⟩, h1, h2⟩ := st
    obtain ⟨xs, ys, x, y, hqx, hqy, hx, hy⟩ := hg
    obtain ⟨its, rv, p, _⟩ := I.list hqx
    obtain ⟨its2, rv2, p2, _⟩ := I.tuple hqy
    obtain ⟨u, hu, ru⟩ := rv.get hx
    obtain ⟨u2, hu2, ru2⟩ := rv2.get hy
    have hzl : z < s.heap.objs.size := Heap.lt_size hz
    refine py_item D hz hTI hTO h1 h2 (show SqAt false s.heap a its.toArray from p.isList) (show SqAt true s.heap b its2.toArray from p2) (x := u) (y := u2) (by simpa using hu) (by simpa using hu2) fun h' z' TO' h1' h2' hT hsz hk => ?_
    refine ⟨_, rfl, wpAny_letOwnedTupleGo_zip (s := { s with heap := h' }) z' fun h'' z'' sb => ?_⟩
    have hT2 : h''.get? s.heap.objs.size = some { cls := .type "tuple", data := .seq #[u, u2] } := (sb.2 _ (Nat.ne_of_gt hzl)).trans hT
    have new : ObjOk X.prog X.w (upd H s.heap.objs.size (.tup [x, y])) h'' s.heap.objs.size (.tup [x, y]) :=
      ⟨by show 2 ≤ sizeLine; decide, [u, u2], .cons ru (.cons ru2 .nil), ⟨_, hT2, rfl, _, rfl⟩⟩
    have hold : ∀ c o, c ∉ [z, TI, TO, i1, i2] → s.heap.get? c = some o → h''.get? c = some o := fun c o hb q => by
      simp only [List.mem_cons, List.not_mem_nil, or_false, not_or] at hb
      exact (sb.2 c hb.1).trans (hk c o hb.1 hb.2.2.1 hb.2.2.2.1 hb.2.2.2.2 q)
    have I1 : Inv X pins σ (upd H s.heap.objs.size (.tup [x, y])) { s with heap := h'' } := I.turnedNew (t' := s.toks) (ch := [z, TI, TO, i1, i2]) hold hf (Nat.le_refl _) new
    refine ⟨.ref s.heap.objs.size, _, I1, rfl, ⟨_, x, y, rfl, I.hok.fresh (Nat.le_refl _), rfl, fun l hl => by rw [I.list_inj hl hqx]; exact hx, fun l hl => by rw [I.tuple_inj hl hqy]; exact hy⟩, ⟨z'', ?_, ⟨u, u2, ?_⟩, ?_, ?_⟩, fun c hcm => ?_⟩
    · exact (sb.2 _ D.TIz).trans (hk _ _ D.TIz D.TITO D.TIi1 D.TIi2 hTI)
    · exact (sb.2 _ D.TOz).trans TO'
    · exact h1'.mv fun o q => (sb.2 _ D.i1z).trans q
    · exact h2'.mv fun o q => (sb.2 _ D.i2z).trans q
    · have hlt : c < s.heap.objs.size := by
        have hcm' := hcm
        simp only [List.mem_cons, List.not_mem_nil, or_false] at hcm'
        rcases hcm' with rfl | rfl | rfl | rfl | rfl
        · exact hzl
        · exact Heap.lt_size hTI
        · exact Heap.lt_size hTO
        · exact h1.lt
        · exact h2.lt
      rw [upd_ne (Nat.ne_of_lt hlt)]
      exact (hf c hcm).1
  done := by
    intro X hP hw hK hc i pins s σ H E I hf st hg
    subst hP hw hK
    obtain ⟨hz, hTI, ⟨x0, y0, hTO⟩, h1, h2⟩ := st
    obtain ⟨xs, ys, hqx, hqy, hend⟩ := hg
    obtain ⟨its, rv, p, _⟩ := I.list hqx
    obtain ⟨its2, rv2, p2, _⟩ := I.tuple hqy
    have l1 := rv.length
    have l2 := rv2.length
    have he : its.toArray[i]? = none ∨ its2.toArray[i]? = none := by
      rcases hend with q | q
      · exact .inl (by simp; omega)
      · exact .inr (by simp; omega)
    refine py_end (I.ok.hd hc) D hz hTI hTO h1 h2 (show SqAt false s.heap a its.toArray from p.isList) (show SqAt true s.heap b its2.toArray from p2) he fun h' hk => ⟨rfl, I.turnedL (t' := s.toks) (ch := [z, TI, TO, i1, i2]) (fun c o hb q => ?_) hf⟩
    simp only [List.mem_cons, List.not_mem_nil, or_false, not_or] at hb
    exact hk c o hb.1 hb.2.2.1 hb.2.2.2.1 hb.2.2.2.2 q
  self := fun A i s Q E st h => wpAny_pyIter_zip st.1 h
/-- zip(list, tuple) -/
def iZipM (K : PySem.W.Frag) (ta : TA) : TI := fun σ H R => ta σ H fun vs H1 => ∃ a b xs ys, vs = [.ref a, .ref b] ∧ SqL K H1 a xs ∧ SqT K H1 b ys ∧ R (ItzM K a b) H1
theorem pi_zipM {X : Cx} {e e2 : Expr} {ta : TA} {p pos tpos : Pos} {elts : List Expr} {kk : Nat} (hg : Gl X "zip") (hm : X.mg "zip" = none) (ha : PA X [e, e2] ta)
    (hs : starEach [e, e2] X.env = (false, eval e X.env) :: starEach [e2] X.env := by rfl) (hpl : (backTo pos (starEach [e2] X.env)).any (·.1) = false := by rfl) :
    PI X (.Tuple elts kk tpos) (.Call (.Name "zip" p) [e, e2] [] pos) (iZipM X.K ta) := by
  refine ⟨fun pins s σ H R I h => ?_⟩
  refine Call_ (ld_blt I hg hm PyProof.Rows.boot_zip (PyProof.Rows.callWith_type1 (thn (ha.run pos pins s σ H _ I h) fun us s1 ⟨vs, H1, I1, r1, q1⟩ => ?_) hs hpl))
  obtain ⟨a, b, xs, ys, ex, hqx, hqy, q⟩ := q1
  subst ex
  cases r1 with
  | cons r rr =>
    cases rr with
    | cons r' rr =>
      cases rr
      cases r
      cases r'
      obtain ⟨its, rv, p1, _⟩ := I1.list hqx
      obtain ⟨its2, rv2, p2, _⟩ := I1.tuple hqy
      obtain ⟨o2, ho2, _⟩ := id p2
      refine call_zip p1.isList (show s1.heap.IsTuple b its2.toArray from p2) fun h' hz hTI hTO h1 h2 hsz hk => wpAny_pyIter_zip hz ?_
      have I2 : Inv X pins σ H1 { s1 with heap := h' } := I1.kept (t' := s1.toks) hk
      refine ⟨s1.heap.objs.size + 4, [s1.heap.objs.size + 4, s1.heap.objs.size + 2, s1.heap.objs.size + 3, s1.heap.objs.size, s1.heap.objs.size + 1], _, _, H1, rfl, I2, turn_zipM (PySem.W.ktu_apart s1.heap.objs.size a b p1.lt (Heap.lt_size ho2)), ⟨hz, hTI, ⟨_, _, hTO⟩, h1, h2⟩, fun c hcm => ?_, q⟩
      simp only [List.mem_cons, List.not_mem_nil, or_false] at hcm
      have hle : s1.heap.objs.size ≤ c := by
        rcases hcm with e | e | e | e | e
        · exact e ▸ Nat.le_add_right _ _
        · exact e ▸ Nat.le_add_right _ _
        · exact e ▸ Nat.le_add_right _ _
        · exact e ▸ Nat.le_refl _
        · exact e ▸ Nat.le_add_right _ _
      exact I1.fpOk hle (I1.hok.fresh hle)
end DLZ

set_option maxHeartbeats 4000000
/-! DL12: zip, slices, isinstance, all over signs; instances that are made and changed. -/
namespace DL
open PySem PySem.Spec PyProof.Rows L2
section
variable {X : Cx} {g : Gx} {κ κr κp : List Sl} {s0 : Sl} {b b1 b2 b3 : Bool} {k k1 k2 k3 kr : Kd} {pos : Pos}
/-! ### zip -/
def zipD : List D → List D → List D
  | x :: xs, y :: ys => .tup [x, y] :: zipD xs ys
  | _, _ => []
theorem zipD_len : ∀ (xs ys : List D), (zipD xs ys).length = min xs.length ys.length
  | [], _ => by simp [zipD]
  | _ :: _, [] => by simp [zipD]
  | x :: xs, y :: ys => by rw [zipD, List.length_cons, List.length_cons, List.length_cons, zipD_len]; omega
theorem zipD_get : ∀ {xs ys : List D} {i : Nat} {x y : D}, xs[i]? = some x → ys[i]? = some y → (zipD xs ys)[i]? = some (.tup [x, y])
  | [], _, _, _, _, h, _ => by simp at h
  | _ :: _, [], _, _, _, _, h => by simp at h
  | x :: xs, y :: ys, 0, _, _, h1, h2 => by cases h1; cases h2; rfl
  | x :: xs, y :: ys, i + 1, _, _, h1, h2 => by
    rw [zipD, List.getElem?_cons_succ]
    exact zipD_get (by simpa using h1) (by simpa using h2)
/-- the shape that the three walks of zip share -/
theorem yl_zip {K : PySem.W.Frag} {F0 : Hp} {J : It} {xs ys : List D} {us ws : List V} (r1 : Reps K g F0 xs us) (r2 : Reps K g F0 ys ws)
    (go : ∀ (i : Nat) H x y, Ex F0 H → us[i]? = some x → ws[i]? = some y → J.go i H)
    (yl : ∀ (i : Nat) H v H', Ex F0 H → J.yld i H v H' → ∃ T x y, v = .ref T ∧ H T = none ∧ H' = L2.upd H T (.tup [x, y]) ∧ us[i]? = some x ∧ ws[i]? = some y)
    (stop : ∀ (i : Nat) H, Ex F0 H → (us.length ≤ i ∨ ws.length ≤ i) → J.stop i H) : Yl K g J F0 (zipD xs ys) where
  go := fun i F H hi e1 e2 => by
    rw [zipD_len, r1.length, r2.length] at hi
    exact go i H us[i] ws[i] (e1.trans e2) (by simp) (by simp)
  yl := fun i F H x H' hi e1 e2 y => by
    obtain ⟨T, u, w, rfl, hT, rfl, h1, h2⟩ := yl i H x H' (e1.trans e2) y
    obtain ⟨d1, a1, a2⟩ := r1.get' h1
    obtain ⟨d2, c1, c2⟩ := r2.get' h2
    exact .inr ⟨T, _, [d1, d2], hT, rfl, rfl, zipD_get a1 c1, .cons (a2.mono e1) (.cons (c2.mono e1) .nil)⟩
  stop := fun F H e1 e2 => stop _ H (e1.trans e2) (by rw [zipD_len, r1.length, r2.length]; omega)
/-- two in a row -/
theorem vws2 {K : PySem.W.Frag} {F : Hp} {x y : D} {vs : List V} (r : Reps K g F [x, y] vs) : ∃ v w, vs = [v, w] ∧ Rep K g F x v ∧ Rep K g F y w := by
  cases r with
  | cons a r => cases r with
    | cons c r => cases r; exact ⟨_, _, rfl, a, c⟩
def zipA (xs : List D) : Option (List D) := match xs with
  | [.lst x, .lst y] => some (zipD x y)
  | [.lst x, .tup y] => some (zipD x y)
  | [.tup x, .tup y] => some (zipD x y)
  | _ => none
def iZip' (a : M (List D)) : M (List D) := bnd a fun ds => lft (zipA ds)
theorem ix_zip {e e2 : Expr} {p pos tpos : Pos} {elts : List Expr} {kk : Nat} {a : M (List D)} (h : AL X g κ b [e, e2] a) (hm : X.mg "zip" = none) (hg : Gl X "zip" := by rfl)
    (hs : starEach [e, e2] X.env = (false, eval e X.env) :: starEach [e2] X.env := by rfl) (hpl : (backTo pos (starEach [e2] X.env)).any (·.1) = false := by rfl) :
    IX X g κ b (.Tuple elts kk tpos) (.Call (.Name "zip" p) [e, e2] [] pos) (iZip' a) :=
  PI.weak (PI.or (RZ.pi_zipA hg hm h.pa hs hpl) (DLZ.pi_zipM hg hm h.pa hs hpl)) fun σ H R ⟨B, F, ρ, ds, ρ', ok, hm, q⟩ => by
    obtain ⟨xs, ρ1, h1, h2⟩ := bnd_some hm
    obtain ⟨h3, rfl⟩ := lft_some h2
    unfold zipA at h3
    split at h3
    · cases h3
      refine .inl ⟨B, F, ρ, _, _, ok, h1, fun vs F1 H1 ok1 e1 q1 w1 => ?_⟩
      obtain ⟨u1, u2, rfl, w1, w2⟩ := vws2 w1
      obtain ⟨p1, us, rfl, l1, r1⟩ := w1.ofLst
      obtain ⟨p2, ws, rfl, l2, r2⟩ := w2.ofLst
      refine ⟨p1, p2, us, ws, rfl, .inl ⟨SqL.of (ok1.1.sub _ _ l1), SqL.of (ok1.1.sub _ _ l2), q _ F1 H1 ok1 e1 q1 (yl_zip r1 r2 (fun i H x y e a c => ⟨us, ws, x, y, SqL.of (e _ _ l1), SqL.of (e _ _ l2), a, c⟩) (fun i H v H' e y => ?_) fun i H e z => ⟨us, ws, SqL.of (e _ _ l1), SqL.of (e _ _ l2), z⟩)⟩⟩
      obtain ⟨T, x, y, a1, a2, a3, a4, a5⟩ := y
      exact ⟨T, x, y, a1, a2, a3, a4 us (SqL.of (e _ _ l1)), a5 ws (SqL.of (e _ _ l2))⟩
    · cases h3
      refine .inr ⟨B, F, ρ, _, _, ok, h1, fun vs F1 H1 ok1 e1 q1 w1 => ?_⟩
      obtain ⟨u1, u2, rfl, w1, w2⟩ := vws2 w1
      obtain ⟨p1, us, rfl, l1, r1⟩ := w1.ofLst
      obtain ⟨p2, ws, rfl, l2, r2⟩ := w2.ofTup
      refine ⟨p1, p2, us, ws, rfl, SqL.of (ok1.1.sub _ _ l1), ex_t ok1.1.sub l2, q _ F1 H1 ok1 e1 q1 (yl_zip r1 r2 (fun i H x y e a c => ⟨us, ws, x, y, SqL.of (e _ _ l1), ex_t e l2, a, c⟩) (fun i H v H' e y => ?_) fun i H e z => ⟨us, ws, SqL.of (e _ _ l1), ex_t e l2, z⟩)⟩
      obtain ⟨T, x, y, a1, a2, a3, a4, a5⟩ := y
      exact ⟨T, x, y, a1, a2, a3, a4 us (SqL.of (e _ _ l1)), a5 ws (ex_t e l2)⟩
    · cases h3
      refine .inl ⟨B, F, ρ, _, _, ok, h1, fun vs F1 H1 ok1 e1 q1 w1 => ?_⟩
      obtain ⟨u1, u2, rfl, w1, w2⟩ := vws2 w1
      obtain ⟨p1, us, rfl, l1, r1⟩ := w1.ofTup
      obtain ⟨p2, ws, rfl, l2, r2⟩ := w2.ofTup
      refine ⟨p1, p2, us, ws, rfl, .inr ⟨ex_t ok1.1.sub l1, ex_t ok1.1.sub l2, q _ F1 H1 ok1 e1 q1 (yl_zip r1 r2 (fun i H x y e a c => ⟨us, ws, x, y, ex_t e l1, ex_t e l2, a, c⟩) (fun i H v H' e y => ?_) fun i H e z => ⟨us, ws, ex_t e l1, ex_t e l2, z⟩)⟩⟩
      obtain ⟨T, x, y, a1, a2, a3, a4, a5⟩ := y
      exact ⟨T, x, y, a1, a2, a3, a4 us (ex_t e l1), a5 ws (ex_t e l2)⟩
    · cases h3

/-! ### slices of lists -/
def oOf (K : PySem.W.Frag) (g : Gx) (κ : List Sl) (b : Bool) (m : M (Option Int)) : TO := fun σ H Q => ∃ B F ρ o ρ', Ok K g κ B F H σ ρ ∧ m ρ = some (o, ρ') ∧
  ∀ F' H', Ok K g κ B F' H' σ ρ' → Ex F F' → (b = true → ExT g H H') → Q o H'
abbrev OX (X : Cx) (g : Gx) (κ : List Sl) (b : Bool) (e : Option Expr) (m : M (Option Int)) : Prop := PO X e (oOf X.K g κ b m)
theorem PO.weak {e : Option Expr} {t t' : TO} (h : PO X e t) (w : ∀ σ H Q, t' σ H Q → t σ H Q) : PO X e t' := ⟨fun pins s σ H Q I q => h.run pins s σ H Q I (w σ H Q q)⟩
def oNone : M (Option Int) := ret none
def oSome (m : M D) : M (Option Int) := bnd m fun d => lft ((asI d).map some)
theorem ox_none : OX X g κ true none oNone := PO.weak po_none fun σ H Q ⟨B, F, ρ, o, ρ', ok, hm, q⟩ => by
  obtain ⟨rfl, rfl⟩ := ret_some hm
  exact q F H ok (Ex.refl F) (fun _ => ExT.refl g H)
theorem ox_some {e : Expr} {m : M D} (h : EX X g κ b k e m) (hk : k.fl = true := by rfl) : OX X g κ b (some e) (oSome m) := PO.weak (po_some h) fun σ H Q ⟨B, F, ρ, o, ρ', ok, hm, q⟩ => by
  obtain ⟨d, ρ1, h1, h2⟩ := bnd_some hm
  obtain ⟨h3, rfl⟩ := lft_some h2
  obtain ⟨i, h4, rfl⟩ := Option.map_eq_some_iff.mp h3
  cases d <;> try (cases h4)
  exact ⟨B, F, ρ, _, _, ok, h1, fun v F1 H1 ok1 e1 q1 w1 => ⟨_, (w1.rep hk).ofInt, q F1 H1 ok1 e1 q1⟩⟩
def cutD {α : Type} (xs : List α) (lo hi : Option Int) : List α := (xs.drop (HT.sIx xs.length 0 lo)).take (HT.sIx xs.length xs.length hi - HT.sIx xs.length 0 lo)
theorem cutD_len {α : Type} (xs : List α) (lo hi : Option Int) : (cutD xs lo hi).length ≤ xs.length := by
  unfold cutD
  rw [List.length_take, List.length_drop]
  omega
theorem reps_cut {K : PySem.W.Frag} {F : Hp} {ds : List D} {vs : List V} (r : Reps K g F ds vs) (lo hi : Option Int) : Reps K g F (cutD ds lo hi) (cutV vs lo hi) := by
  unfold cutD cutV
  rw [r.length]
  exact (r.drop _).take _
def eSl (k : Kd) (m : M D) (lo hi : M (Option Int)) : M D := bnd m fun d => bnd lo fun l => bnd hi fun h => lft ((listD d).bind fun ds => mkL k (cutD ds l h))
theorem nx_sl {e : Expr} {m : M D} {lo hi : Option Expr} {ml mh : M (Option Int)} {p2 : Pos} (k : Kd) (he : EX X g κ b1 k1 e m) (hl : OX X g κ b2 lo ml) (hh : OX X g κ b3 hi mh) (hk : k.fl = true := by rfl) (h1 : k1.fl = true := by rfl) :
    NX X g κ (b1 && b2 && b3) (.lst k) (.Subscript e (.Slice lo hi none p2) pos) (eSl k m ml mh) := PE.weak (pe_slice sl_list he hl hh) fun σ H Q ⟨B, F, ρ, d, ρ', ok, hm, q⟩ => by
  obtain ⟨x, ρ1, a1, hm1⟩ := bnd_some hm
  obtain ⟨l, ρ2, a2, hm2⟩ := bnd_some hm1
  obtain ⟨u, ρ3, a3, hm3⟩ := bnd_some hm2
  obtain ⟨hz, rfl⟩ := lft_some hm3
  obtain ⟨ds, hd, hz⟩ := Option.bind_eq_some_iff.mp hz
  obtain ⟨rfl, hall⟩ := mkL_some hz
  cases x <;> try (cases hd)
  refine ⟨B, F, ρ, _, ρ1, ok, a1, fun v F1 H1 ok1 e1 q1 w1 => ⟨B, F1, ρ1, l, ρ2, ok1, a2, fun F2 H2 ok2 e2 q2 => ⟨B, F2, ρ2, u, _, ok2, a3, fun F3 H3 ok3 e3 q3 => ?_⟩⟩⟩
  obtain ⟨p, vs, rfl, ll, rs⟩ := ((w1.rep h1).mono (e2.trans e3)).ofLst
  have rc := reps_cut rs l u
  refine ⟨p, vs, rfl, SqL.of (ok3.1.sub _ _ ll), fun n hn => q _ _ _ (ok3.newL hn hk rc.length (vws_okK (H := H3) rc hall (Ex.refl _))) (e1.trans (e2.trans e3)) fun hb => ?_⟩
  rw [Bool.and_eq_true, Bool.and_eq_true] at hb
  exact (((q1 hb.1.1).trans (q2 hb.1.2)).trans (q3 hb.2)).trans (Ex.toT (.new hn))
/-- of an owned list -/
def eSlO (m : M D) (lo hi : M (Option Int)) : M D := bnd m fun d => bnd lo fun l => bnd hi fun h => lft ((listD d).map fun ds => .lst (cutD ds l h))
theorem vws_cut {K : PySem.W.Frag} {F H : Hp} {ds : List D} {vs : List V} (hl : ds.length = vs.length) (it : ∀ (i : Nat) (x : D) (y : V), ds[i]? = some x → vs[i]? = some y → Vw K g F H k x y) (lo hi : Option Int) :
    (cutD ds lo hi).length = (cutV vs lo hi).length ∧ ∀ (i : Nat) (x : D) (y : V), (cutD ds lo hi)[i]? = some x → (cutV vs lo hi)[i]? = some y → Vw K g F H k x y := by
  unfold cutD cutV
  rw [hl]
  refine ⟨by rw [List.length_take, List.length_take, List.length_drop, List.length_drop, hl], fun i x y a c => ?_⟩
  rw [List.getElem?_take] at a c
  split at a
  · rename_i h
    rw [if_pos h] at c
    rw [List.getElem?_drop] at a c
    exact it _ x y a c
  · cases a
theorem nx_slO {e : Expr} {m : M D} {lo hi : Option Expr} {ml mh : M (Option Int)} {p2 : Pos} (he : EX X g κ b1 (.lst k) e m) (hl : OX X g κ true lo ml) (hh : OX X g κ true hi mh) (hk : k.fl = true := by rfl) :
    NX X g κ b1 (.lst k) (.Subscript e (.Slice lo hi none p2) pos) (eSlO m ml mh) := PE.weak (pe_slice sl_list he hl hh) fun σ H Q ⟨B, F, ρ, d, ρ', ok, hm, q⟩ => by
  obtain ⟨x, ρ1, a1, hm1⟩ := bnd_some hm
  obtain ⟨l, ρ2, a2, hm2⟩ := bnd_some hm1
  obtain ⟨u, ρ3, a3, hm3⟩ := bnd_some hm2
  obtain ⟨hz, rfl⟩ := lft_some hm3
  obtain ⟨ds, hd, rfl⟩ := Option.map_eq_some_iff.mp hz
  cases x <;> try (cases hd)
  refine ⟨B, F, ρ, _, ρ1, ok, a1, fun v F1 H1 ok1 e1 q1 w1 => ⟨B, F1, ρ1, l, ρ2, ok1, a2, fun F2 H2 ok2 e2 q2 => ⟨B, F2, ρ2, u, _, ok2, a3, fun F3 H3 ok3 e3 q3 => ?_⟩⟩⟩
  have x2 := (q2 rfl).trans (q3 rfl)
  have w3 : Vw X.K g F3 H3 (.lst k) (.lst ds) v := w1.keep (e2.trans e3) (x2.mut ok1.1.tab)
  obtain ⟨p, vs, rfl, ll, hlen, it⟩ := Vw.itemsL w3 rfl
  obtain ⟨c1, c2⟩ := vws_cut hlen it l u
  exact ⟨p, vs, rfl, SqL.of ll, fun n hn => q _ _ _ (ok3.newL hn hk c1 c2) (e1.trans (e2.trans e3)) fun hb => ((q1 hb).trans x2).trans (Ex.toT (.new hn))⟩

/-! ### isinstance against built-in types -/
def tyD : D → Option String
  | .non => some "NoneType"
  | .bl _ => some "bool"
  | .int _ => some "int"
  | .str _ => some "str"
  | .lst _ => some "list"
  | .tup _ => some "tuple"
  | _ => none
def isTy (t T : String) : Bool := t == T || (t == "bool" && T == "int")
def knownTy (T : String) : Bool := T == "int" || T == "str" || T == "bool" || T == "list" || T == "tuple"
theorem kit_isTy {d : D} {t T : String} (h : tyD d = some t) (k : knownTy T = true) : kitB t T = some (isTy t T) := by
  have hT : T = "int" ∨ T = "str" ∨ T = "bool" ∨ T = "list" ∨ T = "tuple" := by
    simp only [knownTy, Bool.or_eq_true, beq_iff_eq] at k
    rcases k with (((k | k) | k) | k) | k <;> simp [k]
  have ht : t = "NoneType" ∨ t = "bool" ∨ t = "int" ∨ t = "str" ∨ t = "list" ∨ t = "tuple" := by
    cases d <;> simp only [tyD, Option.some.injEq, reduceCtorEq] at h <;> simp [← h]
  rcases ht with rfl | rfl | rfl | rfl | rfl | rfl <;> rcases hT with rfl | rfl | rfl | rfl | rfl <;> decide +kernel
theorem tyX_of {K : PySem.W.Frag} {H : Hp} {d : D} {v : V} {t : String} (r : Rep K g H d v) (h : tyD d = some t) : TyX K H v (.type t) := by
  cases d with
  | non => cases h; rw [r.ofNon]; exact .base .non
  | bl c => cases h; rw [r.ofBl]; exact .base (.bl c)
  | int i => cases h; rw [r.ofInt]; exact .base (.int i)
  | str s => cases h; rw [r.ofStr]; exact .base (.str s)
  | lst ds =>
    cases h
    obtain ⟨a, vs, rfl, l, _⟩ := r.ofLst
    exact .base (.lst l)
  | tup ds =>
    cases h
    obtain ⟨a, vs, rfl, l, _⟩ := r.ofTup
    rcases l with (l | ⟨o, l⟩) | ⟨o, its, n, l, c, _⟩
    · exact .base (.tup l)
    · exact .fTuple l
    · exact .kTuple l c
  | obj c fs => cases h
  | scr ns => cases h
def eIs (T : String) (m : M D) : M D := bnd m fun d => lft ((tyD d).map fun t => .bl (isTy t T))
theorem ex_is {e ea eT : Expr} {m : M D} {T : String} (hp : ∀ {t : TA}, PA X [ea, eT] t → PE X e (tCB (rIsi X.K) t)) (h : EX X g κ b k ea m) (hT : PE X eT (tC (.ty T))) (kt : knownTy T = true := by rfl)
    (hs : starEach [ea, eT] X.env = (false, eval ea X.env) :: starEach [eT] X.env := by rfl) (hs2 : starEach [eT] X.env = (false, eval eT X.env) :: starEach [] X.env := by rfl) : EX X g κ b .sc e (eIs T m) :=
  PE.weak (hp (pa_cons h (pa_cons hT pa_nil hs2) hs)) fun σ H Q ⟨B, F, ρ, d, ρ', ok, hm, q⟩ => by
    obtain ⟨x, ρ1, h1, h2⟩ := bnd_some hm
    obtain ⟨h3, rfl⟩ := lft_some h2
    obtain ⟨t, h4, rfl⟩ := Option.map_eq_some_iff.mp h3
    refine ⟨B, F, ρ, x, _, ok, h1, fun v F1 H1 ok1 e1 q1 w1 => ?_⟩
    exact ⟨v, .ty T, .type t, .type T, isTy t T, rfl, .ty T, tyX_of (w1.inH ok1.1.sub fun _ _ z _ => z) h4, kit_ty (kit_isTy h4 kt), q _ F1 H1 ok1 e1 q1 rfl⟩
def eIs2 (T U : String) (m : M D) : M D := bnd m fun d => lft ((tyD d).map fun t => .bl (isTy t T || isTy t U))
theorem ex_is2 {e ea e1 e2 : Expr} {m : M D} {T U : String} {kk : Nat} {tpos : Pos} (hp : ∀ {t : TA}, PA X [ea, .Tuple [e1, e2] kk tpos] t → PE X e (tCB (rIsiT X.K) t)) (h : EX X g κ b k ea m) (hT : PE X e1 (tC (.ty T))) (hU : PE X e2 (tC (.ty U))) (kt : knownTy T = true := by rfl) (ku : knownTy U = true := by rfl)
    (hs : starEach [ea, .Tuple [e1, e2] kk tpos] X.env = (false, eval ea X.env) :: starEach [.Tuple [e1, e2] kk tpos] X.env := by rfl) (hs2 : starEach [.Tuple [e1, e2] kk tpos] X.env = (false, eval (.Tuple [e1, e2] kk tpos) X.env) :: starEach [] X.env := by rfl)
    (hs3 : starEach [e1, e2] X.env = (false, eval e1 X.env) :: starEach [e2] X.env := by rfl) (hs4 : starEach [e2] X.env = (false, eval e2 X.env) :: starEach [] X.env := by rfl) : EX X g κ b .sc e (eIs2 T U m) :=
  PE.weak (hp (pa_cons h (pa_cons (pe_tup (pa_cons hT (pa_cons hU pa_nil hs4) hs3)) pa_nil hs2) hs)) fun σ H Q ⟨B, F, ρ, d, ρ', ok, hm, q⟩ => by
    obtain ⟨x, ρ1, h1, h2⟩ := bnd_some hm
    obtain ⟨h3, rfl⟩ := lft_some h2
    obtain ⟨t, h4, rfl⟩ := Option.map_eq_some_iff.mp h3
    refine ⟨B, F, ρ, x, _, ok, h1, fun v F1 H1 ok1 e1 q1 w1 => ⟨by show 2 ≤ sizeLine; decide, fun p hp => ?_⟩⟩
    have fp := ok1.fnone hp
    have ok2 := ok1.newF (o := .tup [.ty T, .ty U]) hp
    have r2 : Rep X.K g (L2.upd H1 p (.tup [.ty T, .ty U])) x v := (w1.inH (g := g) ok1.1.sub fun _ _ z _ => z).mono (.new hp)
    refine ⟨v, p, [.ty T, .ty U], .type t, [.type T, .type U], isTy t T || isTy t U, rfl, upd_same, .cons (.ty T) (.cons (.ty U) .nil), tyX_of r2 h4, ?_, q _ _ _ ok2 (e1.trans (.new fp)) (fun hb => (q1 hb).trans (Ex.toT (.new hp))) rfl⟩
    refine kitAny_cons (kit_ty (kit_isTy h4 kt)) (fun hb => kitAny_cons (kit_ty (kit_isTy h4 ku)) (fun hc => ?_) fun hc => ?_) fun hb => ?_
    · rw [hb, hc]; exact kitAny_nil
    · rw [hb, hc]; rfl
    · rw [hb]; rfl

/-! ### all(test for sign in text) -/
def eAllS (pb : Nat → Bool) (m : M D) : M D := bnd m fun d => lft (match d with
  | .str s => some (.bl (s.cps.toList.all pb))
  | _ => none)
theorem ex_allS {e : Expr} {m : M D} {P : Addr} {pb : Nat → Bool} (hp : PE X e (GxR.tAllS P pb (tOf X.K g κ b k m))) (hk : k.fl = true) (hP : g.tab P) : EX X g κ b .sc e (eAllS pb m) :=
  PE.weak hp fun σ H Q ⟨B, F, ρ, d, ρ', ok, hm, q⟩ => by
    obtain ⟨x, ρ1, h1, h2⟩ := bnd_some hm
    obtain ⟨h3, rfl⟩ := lft_some h2
    cases x <;> try (cases h3)
    refine ⟨B, F, ρ, _, _, ok, h1, fun v F1 H1 ok1 e1 q1 w1 => ⟨_, (w1.rep hk).ofStr, (ok1.1.tab P hP).1, fun H2 hT => ?_⟩⟩
    have fP : ∀ b o, F1 b = some o → b ≠ P := fun b o e z => by rw [z, (ok1.1.tab P hP).2] at e; cases e
    refine q _ F1 H2 (ok1.grow (Ex.refl F1) (fun b o e => (hT.2 b (fP b o e)).trans (ok1.1.sub b o e)) (fun b o e nt => (hT.2 b (fun z => nt (z ▸ hP))).trans e) (fun _ _ _ => rfl) (fun b e => ?_) fun P' hP' => ?_) e1 (fun hb => (q1 hb).trans fun b o e nt => (hT.2 b (fun z => nt (z ▸ hP))).trans e) rfl
    · have : b ≠ P := fun z => by
        obtain ⟨ps, e2, _⟩ := hT.1
        rw [z, e2] at e; cases e
      rw [← hT.2 b this]; exact e
    · refine ⟨?_, (ok1.1.tab P' hP').2⟩
      by_cases z : P' = P
      · rw [z]; exact hT.1
      · obtain ⟨⟨ps, e2, e3⟩, _⟩ := ok1.1.tab P' hP'
        exact ⟨ps, (hT.2 P' z).trans e2, e3⟩
end
/-! ### instances -/
def putD (f : Str) (d : D) : List (Str × D) → List (Str × D)
  | [] => [(f, d)]
  | (x, e) :: r => if x = f then (x, d) :: r else (x, e) :: putD f d r
theorem putD_rep {K : PySem.W.Frag} {g : Gx} {F : Hp} {f : Str} {d : D} {v : V} (r : Rep K g F d v) : ∀ {fs : List (Str × D)} {vs : List (Str × V)}, RepF K g F fs vs → RepF K g F (putD f d fs) (putF f v vs)
  | _, _, .nil => .cons r .nil
  | _, _, .cons (x := x) h q => by
    rw [putD, putF]
    by_cases e : x = f
    · rw [if_pos e, if_pos e]; exact .cons r q
    · rw [if_neg e, if_neg e]; exact .cons h (putD_rep r q)
theorem RepF.length {K : PySem.W.Frag} {g : Gx} {F : Hp} : ∀ {fs : List (Str × D)} {vs : List (Str × V)}, RepF K g F fs vs → fs.length = vs.length
  | _, _, .nil => rfl
  | _, _, .cons _ r => by rw [List.length_cons, List.length_cons, RepF.length r]
section
variable {K : PySem.W.Frag} {g : Gx} {κ κr : List Sl} {s0 : Sl} {B : Bs} {F H : Hp} {σ : L2.St} {ρ : Rho} {kr k : Kd} {mf : List D → Option (D × List D)} {c : Str}
/-- the instance in a slot is changed -/
theorem Ok.writeI {i : Nat} {s : Sl} {fs fs' : List (Str × D)} (h : Ok K g κ B F H σ ρ) (hi : κ[i]? = some s) (hk : s.kd = .ins c) (hr : ρ[i]? = some (some (.obj c fs))) :
    ∃ a dx vs, σ[i]? = some (some (.ref a)) ∧ H a = some (.ins (g.cl c) dx vs) ∧ RepF K g F fs vs ∧
      ∀ vs', RepF K g F fs' vs' → Ok K g κ B F (L2.upd H a (.ins (g.cl c) dx vs')) σ (ρ.set i (some (.obj c fs'))) := by
  obtain ⟨c0, S, e⟩ := h
  have hlt := (List.getElem?_eq_some_iff.mp hi).1
  obtain ⟨v, q, r⟩ := e.held i s _ hi hr
  rw [hk] at r
  obtain ⟨a, dx, vs, fs0, e1, e2, sa, fa, ha, rf⟩ := r
  cases e1
  subst e2
  have ta := notab c0.tab ha
  refine ⟨a, dx, vs, q, ha, rf, fun vs' rf' => ⟨⟨c0.ext, fun b o z => ?_, fun b o z n t => ?_, c0.fz, fun b z => c0.dom b (upd_none' z), fun P hP => ?_, c0.pin, c0.noio, c0.len⟩, S, ⟨by rw [List.length_set]; exact e.lenR, e.dis, e.mine, fun j t d' p p' => ?_⟩⟩⟩
  · have : b ≠ a := fun w => by rw [w, fa] at z; cases z
    rw [upd_ne this]; exact c0.sub b o z
  · have : b ≠ a := fun w => by
      rcases e.mine i a sa with m | m
      · exact n i (by rw [w]; exact m)
      · rw [w, m] at z; cases z
    rw [upd_ne this]; exact c0.frame b o z n t
  · obtain ⟨⟨ps, e1, w⟩, f⟩ := c0.tab P hP
    have : P ≠ a := fun w => ta (w ▸ hP)
    exact ⟨⟨ps, by rw [upd_ne this]; exact e1, w⟩, f⟩
  · by_cases h1 : j = i
    · subst h1
      rw [hi] at p; cases p
      rw [List.getElem?_set_self (by rw [e.lenR]; exact hlt)] at p'
      cases p'
      refine ⟨.ref a, q, ?_⟩
      rw [hk]
      exact ⟨a, dx, vs', fs', rfl, rfl, sa, fa, upd_same, rf'⟩
    · rw [List.getElem?_set_ne (Ne.symm h1)] at p'
      obtain ⟨w, q', r'⟩ := e.held j t d' p p'
      refine ⟨w, q', r'.keep (Ex.refl _) fun b xs sb fb lb _ => ⟨?_, fb⟩⟩
      have : b ≠ a := fun z => h1 (e.dis j i a (z ▸ sb) sa)
      rw [upd_ne this]; exact lb
/-- a new instance -/
theorem Ok.newI {x dx : Addr} (h : Ok K g κ B F H σ ρ) (hx : H x = none) (hdx : H dx = none) (ne : dx ≠ x) : OkN K g κ B F (L2.upd (L2.upd H dx (.own x)) x (.ins (g.cl c) dx [])) σ ρ (.ins c) (.obj c []) (.ref x) := by
  have keep : Ex H (L2.upd (L2.upd H dx (.own x)) x (.ins (g.cl c) dx [])) := fun b o e => by
    rw [upd_ne (ne_of_none e hx), upd_ne (ne_of_none e hdx)]; exact e
  have fx := h.fnone hx
  obtain ⟨S, e, t⟩ := h.there
  have t2 : Tabs g F (L2.upd (L2.upd H dx (.own x)) x (.ins (g.cl c) dx [])) := fun P hP => by
    obtain ⟨⟨ps, e1, q⟩, f⟩ := h.1.tab P hP
    exact ⟨⟨ps, keep _ _ e1, q⟩, f⟩
  have dom : ∀ b, L2.upd (L2.upd H dx (.own x)) x (.ins (g.cl c) dx []) b = none → H b = none := fun b e => upd_none' (upd_none' e)
  have c2 := h.1.grow (Ex.refl F) (h.1.sub.trans keep) keep.toT (fun _ _ _ => rfl) dom t2
  have e2 := e.grow h.1 (Ex.refl F) (H' := L2.upd (L2.upd H dx (.own x)) x (.ins (g.cl c) dx [])) keep.toT (fun _ _ _ => rfl)
  have np : ∀ i b, S i b → b ≠ x := fun i b z q => by
    obtain ⟨_, xs, l, _⟩ := t i b z
    rw [q, hx] at l; cases l
  refine ⟨c2, fun i b => (i ≠ κ.length ∧ S i b) ∨ (i = κ.length ∧ b = x), ⟨e2.lenR, fun i j b p q => ?_, fun i b p => ?_, fun i s d a r => ?_⟩, ⟨x, dx, [], [], rfl, rfl, .inr ⟨rfl, rfl⟩, fx, upd_same, .nil⟩, fun b z => ?_⟩
  · rcases p with p | p <;> rcases q with q | q
    · exact e.dis i j b p.2 q.2
    · exact (np i b p.2 q.2).elim
    · exact (np j b q.2 p.2).elim
    · rw [p.1, q.1]
  · rcases p with p | p
    · exact e.mine i b p.2
    · rw [p.2]; exact .inr (h.1.dom x hx)
  · have hi : i ≠ κ.length := fun z => by
      have := (List.getElem?_eq_some_iff.mp a).1
      omega
    obtain ⟨v, q, r'⟩ := e2.held i s d a r
    exact ⟨v, q, Hold.up (fun b z => .inl ⟨hi, z⟩) r'⟩
  · rcases z with z | z
    · exact (z.1 rfl).elim
    · rw [z.2]; exact h.1.dom x hx
/-- a call on a value of one's own that no slot holds -/
theorem callNew_go {d0 d0' r : D} {ds rest : List D} {v0 : V} {vs : List V} {Q : VK} {E : XK} (okn : OkN K g κ B F H σ ρ s0.kd d0 v0) (hio : s0.io = true)
    (rs : Reps K g F ds vs) (ha : argsOk κr ds = true) (hm : mf (d0 :: ds) = some (r, d0' :: rest)) (q : ∀ v F' H', OkN K g κ B F' H' σ ρ s0.kd d0' v0 → Hold K g F' H' kr r v (fun _ => False) ∨ True → (kr = .sc → toV r = some v) → Ex F F' → ExT g H H' ∨ True → Q v H') : spM K g (s0 :: κr) kr mf (v0 :: vs) H Q E := by
  obtain ⟨hl, ag⟩ := argsOk_get ha
  obtain ⟨S, e, hd0, hn0, th⟩ := okn.there
  have ok := okn.ok
  refine ⟨F, fun j b => j = 0 ∧ S κ.length b, d0 :: ds, r, d0' :: rest, by rw [List.length_cons, List.length_cons, ← rs.length, hl], ⟨⟨Ex.refl F, ok.1.sub, fun _ _ z _ _ => z, fun _ _ _ => rfl, fun _ z => z, ok.1.tab, fun _ _ _ _ => rfl, fun j t b a io z => ?_, by simp [← rs.length, hl]⟩, fun j b => j = 0 ∧ S κ.length b, ⟨by simp [hl], fun j l b x y => by rw [x.1, y.1], fun j b x => .inl x, fun j t d a b => ?_⟩⟩, hm, fun v F' H' okn' => ?_⟩
  · rw [z.1] at a
    cases a
    rw [hio] at io; cases io
  · cases j with
    | zero =>
      cases a
      cases b
      exact ⟨v0, rfl, Hold.up (fun b z => ⟨rfl, z⟩) hd0⟩
    | succ j =>
      have a : κr[j]? = some t := by simpa using a
      have b : (ds.map some)[j]? = some (some d) := by simpa using b
      rw [List.getElem?_map] at b
      obtain ⟨d', b1, b2⟩ := Option.map_eq_some_iff.mp b
      cases b2
      obtain ⟨v, h1, h2⟩ := rs.get b1
      obtain ⟨_, hkk⟩ := ag j t a
      exact ⟨v, by simp [h1], Vw.hold (okK_flat (hkk _ b1)) (vw_okK (H := H) h2 (hkk _ b1) (Ex.refl F))⟩
  · obtain ⟨c, S', e', hd', hn'⟩ := okn'
    have fr : ∀ j b, S j b → H b = none → False := fun j b z w => by
      obtain ⟨_, xs, l, _⟩ := th j b z
      rw [l] at w; cases w
    have io' : ∀ b, S' 0 b → S κ.length b ∨ H b = none := fun b z => (e'.mine 0 b z).imp (fun w => w.2) id
    refine q v F' H' ⟨⟨ok.1.ext.trans c.ext, c.sub, fun b o z n t => ?_, fun b o z => ?_, fun b z => ok.1.dom b (c.dom b z), c.tab, ok.1.pin, ok.1.noio, ok.1.len⟩, fun j b => (j ≠ κ.length ∧ S j b) ∨ (j = κ.length ∧ S' 0 b), ⟨e.lenR, fun j l b x y => ?_, fun j b x => ?_, fun j t d a b => ?_⟩, ?_, fun b z => ?_⟩ (.inr trivial) (fun hk => ?_) c.ext (.inr trivial)
    · have h1 := ok.1.frame b o z n t
      refine c.frame b o h1 (fun m w => ?_) t
      have := hn0 b w.2
      rw [this] at z; cases z
    · cases w : H b with
      | none => rw [ok.1.dom b w] at z; cases z
      | some u => exact (c.fz b u w).trans (ok.1.fz b o z)
    · rcases x with x | x <;> rcases y with y | y
      · exact e.dis j l b x.2 y.2
      · rcases io' b y.2 with m | m
        · exact (x.1 (e.dis j _ b x.2 m)).elim
        · exact (fr j b x.2 m).elim
      · rcases io' b x.2 with m | m
        · exact (y.1 (e.dis l _ b y.2 m)).elim
        · exact (fr l b y.2 m).elim
      · rw [x.1, y.1]
    · rcases x with x | x
      · exact e.mine j b x.2
      · rcases io' b x.2 with m | m
        · exact .inr (hn0 b m)
        · exact .inr (ok.1.dom b m)
    · obtain ⟨w, q1, q2⟩ := e.held j t d a b
      have hj : j ≠ κ.length := fun z => by
        have := (List.getElem?_eq_some_iff.mp a).1
        omega
      refine ⟨w, q1, Hold.up (fun b z => .inl ⟨hj, z⟩) (q2.keep c.ext fun b o sb f l m => ⟨c.frame b _ l (fun m z => hj (e.dis j _ b sb z.2)) (notab ok.1.tab l m), (c.fz b _ l).trans f⟩)⟩
    · obtain ⟨w, q1, q2⟩ := e'.held 0 s0 d0' rfl rfl
      cases q1
      exact Hold.up (fun b z => .inr ⟨rfl, z⟩) q2
    · rcases z with z | z
      · exact (z.1 rfl).elim
      · rcases io' b z.2 with m | m
        · exact hn0 b m
        · exact ok.1.dom b m
    · subst hk
      exact hd'
end
/-- C(..): the fields by __init__'s mirror -/
def eMake (c : Str) (κr : List Sl) (mf : List D → Option (D × List D)) (a : M (List D)) : M D := bnd a fun ds => lft (if argsOk κr ds then (match mf (.obj c [] :: ds) with
  | some (.non, d :: _) => some d
  | _ => none) else none)
section
variable {X : Cx} {g : Gx} {κ κr κp : List Sl} {s0 : Sl} {b b1 b2 b3 : Bool} {k k1 k2 k3 kr : Kd} {pos : Pos} {c : Str} {mf : List D → Option (D × List D)} {E : XK}
theorem nx_make {e : Expr} {es : List Expr} {a : M (List D)} (hp : ∀ {t : TA}, PA X es t → PE X e (tMake (g.cl c) (spM X.K g (⟨.ins c, true⟩ :: κr) .sc mf) [] E t)) (h : AL X g κ b es a) : NX X g κ false (.ins c) e (eMake c κr mf a) :=
  PE.weak (hp h.pa) fun σ H Q ⟨B, F, ρ, d, ρ', ok, hm, q⟩ => by
    obtain ⟨ds, ρ1, h1, h2⟩ := bnd_some hm
    obtain ⟨h3, rfl⟩ := lft_some h2
    split at h3
    · rename_i ha
      split at h3
      · rename_i d0 rest hmf
        cases h3
        refine ⟨B, F, ρ, ds, _, ok, h1, fun vs F1 H1 ok1 e1 q1 w1 x dx hx hdx ne => ?_⟩
        show spM X.K g (⟨.ins c, true⟩ :: κr) .sc mf (V.ref x :: (vs ++ [])) _ _ E
        rw [List.append_nil]
        exact callNew_go (s0 := ⟨.ins c, true⟩) (ok1.newI hx hdx ne) rfl w1 ha hmf fun v F' H' okn _ hv e2 _ => ⟨(Option.some.inj (hv rfl)).symm, q _ F' H' okn (e1.trans e2) fun z => by cases z⟩
      · cases h3
    · cases h3
/-- o.f of an instance of one's own -/
theorem ex_fldO {e : Expr} {f : Str} {m : M D} (T : Cls X.K (g.cl c)) (N : NoAttr X.K (g.cl c) f) (h : EX X g κ b (.ins c) e m) (hb : attributeBase e f X.env (eval e X.env) = eval e X.env := by rfl) : EX X g κ b .im (.Attribute e f pos) (eFld c f m) :=
  PE.weak (pe_fld h hb) fun σ H Q ⟨B, F, ρ, d, ρ', ok, hm, q⟩ => by
    obtain ⟨x, ρ1, hx, hm1⟩ := bnd_some hm
    obtain ⟨hz, rfl⟩ := lft_some hm1
    cases x <;> try (cases hz)
    rename_i c' fs
    have hz2 : (if c' = c then fs.lookup f else none) = some d := hz
    split at hz2
    · rename_i hc
      subst hc
      refine ⟨B, F, ρ, _, _, ok, hx, fun v F1 H1 ok1 e1 q1 w1 => ?_⟩
      obtain ⟨a, dx, vs, fs', e2, rfl, l, rf⟩ := w1
      cases e2
      obtain ⟨u, hu, r⟩ := rf.look hz2
      exact ⟨a, _, dx, vs, u, rfl, l, T, N, hu, q u F1 H1 ok1 e1 q1 r⟩
    · cases hz2
/-- o.f = e, o in a slot -/
def mFld (i : Nat) (c f : Str) (e : M D) : M Fl := bnd e fun d => fun ρ => match ρ[i]? with
  | some (some (.obj c' fs)) => if c' = c ∧ fs.length < 1000 then some (.nx, ρ.set i (some (.obj c (putD f d fs)))) else none
  | _ => none
theorem sx_fld {st : Stmt} {i : Nat} {s : Sl} {f : Str} {me : M D} (hp : PS X st (sFld X.K (tVar i) (tOf X.K g κ b k me) f)) (T : Cls X.K (g.cl c)) (N : NoAttr X.K (g.cl c) f) (hi : κ[i]? = some s) (hs : s.kd = .ins c) (hk : k.fl = true := by rfl) : SX X g κ kr st (mFld i c f me) :=
  PS.weak hp fun D0 σ H ⟨B, F, ρ, fl, ρ', ok, hm, q⟩ => by
    obtain ⟨d, ρ1, h1, h2⟩ := bnd_some hm
    have h2 : (match ρ1[i]? with
      | some (some (.obj c' fs)) => if c' = c ∧ fs.length < 1000 then some (Fl.nx, ρ1.set i (some (.obj c (putD f d fs)))) else none
      | _ => none) = some (fl, ρ') := h2
    split at h2
    · rename_i c' fs hr
      split at h2
      · rename_i hc
        obtain ⟨rfl, hl⟩ := hc
        cases h2
        refine ⟨B, F, ρ, d, ρ1, ok, h1, fun v F1 H1 ok1 e1 q1 w1 => ?_⟩
        obtain ⟨a, dx, vs, hσ, ha, rf, go⟩ := ok1.writeI (fs' := putD f d fs) hi hs hr
        refine ⟨_, hσ, a, _, dx, vs, rfl, ha, T, N, by rw [← rf.length]; exact hl, ?_⟩
        exact q σ F1 _ (go _ (putD_rep (w1.rep hk) rf)) e1
      · cases h2
    · cases h2
/-- o.m(..), o an instance in a slot that the method may change -/
def eMethIo (i : Nat) (c m : Str) (κr : List Sl) (mf : List D → Option (D × List D)) (a : M (List D)) : M D := fun ρ => match ρ[i]? with
  | some (some d) => if objNo c m d then eCallIo i κr mf a ρ else none
  | _ => none
theorem nx_methIo {e o : Expr} {m : Str} {es : List Expr} {a : M (List D)} {i : Nat} {s : Sl} (hp : ∀ {to : TE} {t : TA}, PE X o to → PA X es t → PE X e (tMeth (g.cl c) m (spM X.K g (⟨.ins c, true⟩ :: κr) kr mf) [] E to t)) (ho : PE X o (tVar i)) (h : AL X g κ b es a)
    (hi : κ[i]? = some s) (hk : s.kd = .ins c := by rfl) : NX X g κ false kr e (eMethIo i c m κr mf a) :=
  PE.weak (hp ho h.pa) fun σ H Q ⟨B, F, ρ, d, ρ', ok, hm, q⟩ => by
    have hm : (match ρ[i]? with
      | some (some d) => if objNo c m d then eCallIo i κr mf a ρ else none
      | _ => none) = some (d, ρ') := hm
    split at hm
    · rename_i x hr
      split at hm
      · rename_i hx
        obtain ⟨dv, ρ1, h1, h2⟩ := bnd_some hm
        obtain ⟨hr1, rfl⟩ := eVar_some h1
        obtain ⟨ds, ρ2, h3, h4⟩ := bnd_some h2
        obtain ⟨v0, hσ, w0⟩ := ok.get hi hr
        rw [hk] at w0
        obtain ⟨p, dx, vs, fs, rfl, rfl, l, rf⟩ := w0
        obtain ⟨_, hl⟩ := Bool.and_eq_true_iff.mp (show (decide (c = c) && (fs.lookup m).isNone) = true from hx)
        refine ⟨_, hσ, p, dx, vs, rfl, l, rf.lookN (by simpa using hl), B, F, _, ds, ρ2, ok, h3, fun us F1 H1 ok1 e1 q1 w1 => ?_⟩
        show spM X.K g (⟨.ins c, true⟩ :: κr) kr mf (V.ref p :: (us ++ [])) H1 Q E
        rw [List.append_nil]
        have h4 : (match ρ2[i]? with
          | some (some d0) => if argsOk κr ds then (match mf (d0 :: ds) with
            | some (r, d0' :: _) => some (r, ρ2.set i (some d0'))
            | _ => none) else none
          | _ => none) = some (d, ρ') := h4
        split at h4
        · rename_i d0 hr2
          split at h4
          · rename_i ha
            split at h4
            · rename_i r d0' rest hmf
              cases h4
              exact callIo_go (s0 := ⟨.ins c, true⟩) ok1 hi hk rfl hσ hr2 w1 ha hmf fun v F' H' okn e2 => q v F' H' okn (e1.trans e2) fun z => by cases z
            · cases h4
          · cases h4
        · cases h4
      · cases hm
    · cases hm
end
end DL

set_option maxHeartbeats 4000000
/-! DLG: all(test for sign in text), the test reading the module's names. -/
namespace DLG
open PySem PySem.Spec PyProof.Rows L2 GxR
/-- the element: a test of the sign c, in a state that holds the base -/
def EltG (prog : Program) (w : World) (base : Heap) (scope : Scope) (x : Str) (elt : Expr) (pb : Nat → Bool) : Prop :=
  ∀ (cenv : PySem.Env) (A' : Around) (E' : Value → Shared → Prop) (c : Nat) (t : Tok) (s₂ : Shared) (m₂ : Str → Option Value), cenv.scope = scope → cenv.globals = mainGlobals → s₂.heap.Ns cenv.locals m₂ → m₂ x = some (.str ⟨#[c]⟩ t) →
    (∀ b o, base.get? b = some o → s₂.heap.get? b = some o) → wpAny (model prog w) A' (eval elt cenv) (fun y s₃ => y = .bool (pb c) ∧ Keeps s₂ s₃) E' s₂
/-- sign in NAME, NAME a text of the module -/
theorem elt_in {prog : Program} {w : World} {base : Heap} {mg : Str → Option Value} {scope : Scope} {x y z : Str} {u : Tok} {p1 p2 p3 : Pos} (hk : scope.kind = .function) (hl : scope.names.lookup x = some .local) (hy : scope.names.lookup y = some .globalImplicit)
    (hns : base.Ns mainGlobals mg) (hm : mg y = some (.str z u)) (hd : (x == ("__debug__" : Str)) = false := by decide) (hd2 : (y == ("__debug__" : Str)) = false := by decide) (hb : behindInMarks .In (.Name y p2) = false := by rfl) :
    EltG prog w base scope x (.Compare (.Name x p1) [.In] [.Name y p2] p3) (fun c => decide (c ∈ z.cps.toList)) := by
  intro cenv A' E' c t s₂ m₂ hs hg hn hx hbase
  refine wpAny_Compare1 ?_ hb
  refine wpAny_Name (wpAny_loadName_local (by rw [hs]; exact hk) (show cenv.scope.names.lookup x = some .local by rw [hs]; exact hl) hn hx ?_) hd
  refine Calls.Name_function_global (by rw [hs]; exact hk) (show cenv.scope.names.lookup y = some .globalImplicit by rw [hs]; exact hy) (Calls.loadGlobal_global (by rw [hg]; exact hns.keeps hbase) hm ?_) hd2
  exact PyProof.Rows.in_str ⟨congrArg Value.bool (PySem.StrLaws.found_one z c), keeps_refl _⟩
section
variable {X : Cx} {pins : List (Addr × Obj)} {σ : L2.St} {H : Hp} {s : Shared}
theorem gen_signs {c P : Addr} {elt iter : Expr} {x : Str} {px gpos : Pos} {scope : Scope} {pb : Nat → Bool} {te : TE} {k : Nat} {Q' : Value → Shared → Prop} {R : Str → Hp → Prop}
    (hr : Room k X.A) (TB : TabB X.base X.mg c P) (hcode : X.env.code = .ref c) (S : GenS X.env scope x) (hi : PE X iter te) (hel : EltG X.prog X.w X.base scope x elt pb)
    (hs : ∀ v, genFold iter X.env v = pure v) (I : Inv X pins σ H s) (h : te σ H fun v H1 => ∃ a : Str, v = .str a ∧ TabG H1 P ∧ R a H1)
    (hQ : ∀ a H1 g s5, R a H1 → Ready X pins σ H1 P a pb g s5 → Q' (.ref g) s5) :
    wpAny (model X.prog X.w) X.A (eval (.GeneratorExp elt [⟨.Name x px, iter, [], 0⟩] scope gpos) X.env) Q' X.xe s := by
  refine wpAny_GeneratorExp_walksQ hr.hd S.co (closure_ok S.free) S.cell S.dot S.loc S.kind (by have := hr.dp; omega) ?_ hs
  refine thn (hi.run pins s σ H _ I h) fun xv s1 ⟨v, H1, I1, r1, q1⟩ => ?_
  obtain ⟨a, rfl, ⟨ps, hP, ht⟩, q1⟩ := q1
  obtain ⟨t, rfl⟩ := _root_.id r1
  refine wpAny_pyIter_str fun o St W hst => ?_
  have hPs : s1.heap.get? P = some { cls := .none, data := .fields ps } := I1.hok P _ hP
  have ltP : P < s1.heap.objs.size := Heap.lt_size hPs
  have hP2 : (s1.heap.push o).get? P = some { cls := .none, data := .fields ps } := Heap.get?_push_of_some _ hPs
  have cd : PySem.W.CodeHd (s1.heap.push o) c P := TB.code.keeps fun b u e => Heap.get?_push_of_some _ (I1.bk b u e)
  have lim2 : (s1.heap.push o).NoLimit := I1.nolimit.push o
  -- the base holds no table that grows
  have baseP : ∀ b u, X.base.get? b = some u → b ≠ P := fun b u e z => by
    have := (I1.bs b u e).2
    rw [z, hP] at this; cases this
  have cont : ∀ (code : Value) (h3 : Heap) (tk : Nat) (ps' : Array Value), Heap.ExtBut P (s1.heap.push o) h3 → (s1.heap.push o).objs.size ≤ h3.objs.size → h3.get? P = some { cls := .none, data := .fields ps' } → (∃ more, ps' = ps ++ more) → TriplesOk ps'.toList →
      wpAny (model X.prog X.w) X.A (builtinsFor X.env.globals X.env.builtins) (fun bi s₄ =>
        ∃ Ia fp wr n₀ Pf St₀ pz F, Value.ref s1.heap.objs.size = .ref Ia ∧ (∀ A' : Around, A'.handled = none → Walks X.prog X.w A' Ia fp wr n₀ Pf St₀) ∧ St₀ 0 s₄.heap ∧ (∀ b ∈ fp, b < s₄.heap.objs.size) ∧ s₄.heap.NoLimit ∧ cStatics ∉ wr ∧
          (∀ href : Heap, (∀ b o, s₄.heap.get? b = some o → href.get? b = some o) →
            QuietGen X.prog X.w (genEnv scope (cloFrom X.env.cells scope.names []) s₄.heap.objs.size code bi X.env) x [] elt (List.range s₄.heap.objs.size) wr Pf pz F href) ∧
          (∀ a h₅ tk gs, gs.bare = true → s₄.heap.objs.size < a → h₅.objs.size = a + 1 → (∀ b o, s₄.heap.get? b = some o → h₅.get? b = some o) →
            WalksS X.prog X.w X.A.in4 a (a :: s₄.heap.objs.size :: List.range s₄.heap.objs.size) (s₄.heap.objs.size :: wr) (GenOnlyQ s₄.gens.size) (passing pz n₀ 0).length
              (fun j y => ∃ i, (passing pz n₀ 0)[j]? = some i ∧ F i y) (GenAt X.prog X.w X.A.in4 a s₄.gens.size s₄.heap.objs.size (List.range s₄.heap.objs.size) wr pz n₀ F) →
            GenAt X.prog X.w X.A.in4 a s₄.gens.size s₄.heap.objs.size (List.range s₄.heap.objs.size) wr pz n₀ F 0 { s₄ with gens := s₄.gens.push gs, toks := tk, heap := h₅ } →
            Q' (.ref a) { s₄ with gens := s₄.gens.push gs, toks := tk, heap := h₅ })) X.xe { s1 with heap := h3, toks := tk } := by
    intro code h3 tk ps' hx hsz hP3 hmore ht3
    obtain ⟨bm, ob, e1, e2, e3, e4, e5, e6, e7, e8⟩ := TB.bm
    have hcP : cStatics ≠ P := fun e => by
      obtain ⟨_, hns, _⟩ := I1.nolimit
      obtain ⟨o', es, ep, ho, hd, _⟩ := hns
      rw [e, hPs] at ho
      cases ho
      cases hd
    have hcl : cStatics < s1.heap.objs.size := let ⟨_, hns, _⟩ := I1.nolimit; hns.lt
    have sz2 : (s1.heap.push o).objs.size = s1.heap.objs.size + 1 := Heap.size_push ..
    have keep3 : ∀ b u, b ≠ P → s1.heap.get? b = some u → h3.get? b = some u := fun b u hb e => hx b u hb (Heap.get?_push_of_some _ e)
    refine wpAny_builtinsFor (m := X.mg) (by rw [I1.ok.glob]; exact ((I1.mod.glob.keeps I1.bk).push o).extBut hx TB.gP) e1 e2 (keep3 _ _ e4 (I1.bk _ _ e5)) e6 e7 e8 ?_
    refine ⟨s1.heap.objs.size, [s1.heap.objs.size], [s1.heap.objs.size], a.cps.size, SignAt a, St, (fun _ => true), (fun i y => ∃ cc, a.cps[i]? = some cc ∧ y = .bool (pb cc)), rfl, W, ?_, ?_, lim2.extBut hx hcP, ?_, ?_, ?_⟩
    · refine (W X.A hr.hd).frame _ _ _ hst fun b hb u e => hx b u (fun z => ?_) e
      have hb' : b = s1.heap.objs.size := by simpa using hb
      exact Nat.ne_of_lt ltP (z.symm.trans hb')
    · intro b hb
      have hb' : b = s1.heap.objs.size := by simpa using hb
      rw [hb']
      show s1.heap.objs.size < h3.objs.size
      omega
    · intro z
      have hb' : cStatics = s1.heap.objs.size := by simpa using z
      exact Nat.ne_of_lt hcl hb'
    · intro href hhref
      refine ⟨fun A' E' i v s₂ m₂ hA hPv hn hm hk => ?_, fun A' E' i v s₂ m₂ hA hPv hp hn hm hk => ?_⟩
      · simp only [List.forIn_nil]
        exact wpAny_pure ⟨rfl, keeps_refl _⟩
      · obtain ⟨cc, u, hcc, rfl⟩ := hPv
        refine wpAny_mono (hel _ A' E' cc u s₂ m₂ rfl I1.ok.glob hn hm fun b ob eb => ?_) (fun y s3 r => ⟨⟨cc, hcc, r.1⟩, r.2⟩) fun _ _ e => e
        have h1 := I1.bk b ob eb
        have hb3 : h3.get? b = some ob := keep3 b ob (baseP b ob eb) h1
        refine hk b (List.mem_range.mpr (Heap.lt_size hb3)) (fun z => ?_) ob (hhref b ob hb3)
        have hb' : b = s1.heap.objs.size := by simpa using z
        exact Nat.ne_of_lt (Heap.lt_size h1) hb'
    · intro g h5 tk5 gs hgb hag hsz5 hk5 W5 hat
      simp only [GxR.passing_true, List.length_range] at W5
      refine hQ a H1 g _ q1 ⟨_, _, _, _, _, W5.in4_1, hat, ?_, fun s' hm => ?_⟩
      · intro j y sj Qj Ej hy hQj
        obtain ⟨i, hij, cc, hcc, rfl⟩ := hy
        obtain ⟨hj, ej⟩ := List.getElem?_eq_some_iff.mp hij
        rw [List.getElem_range] at ej
        subst ej
        have e9 : a.cps.toList[j]? = some cc := by rw [Array.getElem?_toList]; exact hcc
        have hQ2 : Qj (trF pb a.cps.toList j) sj := hQj
        rw [trF_some e9] at hQ2
        exact wpAny_truthy_bool hQ2
      · obtain ⟨more, em⟩ := hmore
        have nwr : ∀ b u, s1.heap.get? b = some u → b ∉ h3.objs.size :: [s1.heap.objs.size] := fun b u e hb => by
          have hl := Heap.lt_size e
          simp only [List.mem_cons, List.not_mem_nil, or_false] at hb
          rcases hb with z | z
          · have h9 : b < s1.heap.objs.size := hl
            rw [z] at h9
            have h8 : (h3.objs.size : Nat) < s1.heap.objs.size := h9
            omega
          · exact Nat.ne_of_lt hl z
        have J := inv_tab (more := more) (h' := s'.heap) (g' := s'.gens) (d' := s'.drawn) (t' := s'.toks) I1 hP (fun b u hb e => hm.heap b u (nwr b u e) (hk5 b u (keep3 b u hb e)))
          (by rw [← em]; exact hm.heap P _ (nwr P _ hPs) (hk5 P _ hP3)) (AllBare.movedS (I1.bare.push hgb) hm)
        rw [sh_eta s1 s' hm.os] at J
        exact ⟨upd H1 P (.tbl (ps ++ more)), ⟨⟨ps ++ more, upd_same, by rw [← em]; exact ht3⟩, fun b hb => upd_ne hb⟩, J⟩
  refine ⟨lim2, ?_⟩
  cases hf : codeAmong gpos ps.toList with
  | none =>
    refine wpAny_genexprCodeX hcode (cd.code hP2 ht) (cd.tab hP2) hf fun c' h' tk hx hge hlt hco' _ htab' _ => ?_
    obtain ⟨o1, vs, f1, tf, fl, tg, inF, tx, tt, op, _, _, _, _, _, _, _, _, _, htr, _⟩ := hco'
    exact cont _ h' tk _ hx (Nat.le_trans hge (Nat.le_of_lt hlt)) htab'.2 ⟨_, rfl⟩ htr
  | some cv =>
    refine wpAny_genexprCode_hit hcode (cd.code hP2 ht) hf ?_
    exact cont cv (s1.heap.push o) s1.toks ps (Heap.ExtBut.refl _ _) (Nat.le_refl _) hP2 ⟨#[], by simp⟩ ht
/-- all(test for x in e), e a text -/
theorem pe_allG {c P : Addr} {elt iter : Expr} {x : Str} {px p pos gpos : Pos} {scope : Scope} {pb : Nat → Bool} {te : TE} {k : Nat}
    (hr : Room k X.A) (hg : Gl X "all") (hm : X.mg "all" = none) (hb : bootBuiltins "all" = some (.builtin "all")) (TB : TabB X.base X.mg c P) (hcode : X.env.code = .ref c) (S : GenS X.env scope x) (hi : PE X iter te) (hel : EltG X.prog X.w X.base scope x elt pb)
    (hs : ∀ v, genFold iter X.env v = pure v)
    (he : starEach [.GeneratorExp elt [⟨.Name x px, iter, [], 0⟩] scope gpos] X.env = (false, eval (.GeneratorExp elt [⟨.Name x px, iter, [], 0⟩] scope gpos) X.env) :: starEach [] X.env := by rfl) :
    PE X (.Call (.Name "all" p) [.GeneratorExp elt [⟨.Name x px, iter, [], 0⟩] scope gpos] [] pos) (tAllS P pb te) := by
  refine ⟨fun pins s σ H Q I h => ?_⟩
  refine wpAny_Call_Name_kw (ld_blt I hg hm hb ?_)
  refine PyProof.Rows.callWith_builtin1 ?_ he (by rfl)
  rw [he]
  show wpAny _ _ (spliced ((false, eval (.GeneratorExp elt [⟨.Name x px, iter, [], 0⟩] scope gpos) X.env) :: backTo pos (starEach [] X.env))) _ _ s
  refine Calls.spliced_cons (gen_signs (R := fun a H1 => ∀ H2, Tabbed P H1 H2 → Q (.bl (a.cps.toList.all pb)) H2) hr TB hcode S hi hel hs I h fun a H1 g s5 hR hG => ?_)
  obtain ⟨fp, wr, G, F, St, W, hst, htr, hI⟩ := hG
  refine Calls.spliced_nil ?_
  refine call_all_walkS (W.self 0 _ _ _ hst ⟨g, fp, wr, G, _, F, St, _, rfl, W, hst, htr, fun s' hmv => ?_⟩)
  obtain ⟨H2, hT, J⟩ := hI s' hmv
  refine ⟨.bl _, H2, J, rfl, ?_⟩
  rw [all_signs a pb]
  exact hR H2 hT
end
end DLG

set_option maxHeartbeats 4000000
/-! DL13: defs by name; calls whose arguments are only looked at. -/
namespace DL
open PySem PySem.Spec PyProof.Rows L2
abbrev DF := List D → Option (D × List D)
def Le (m' m : DF) : Prop := ∀ ds r, m' ds = some r → m ds = some r
theorem Le.refl (m : DF) : Le m m := fun _ _ h => h
theorem spM_weak {K : PySem.W.Frag} {g : Gx} {κp : List Sl} {kr : Kd} {m m' : DF} (h : Le m' m) (vs : List V) (H : Hp) (Q : VK) (E : XK) (q : spM K g κp kr m' vs H Q E) : spM K g κp kr m vs H Q E := by
  obtain ⟨F, io, ds, r, ds', hl, ok, hm, z⟩ := q
  exact ⟨F, io, ds, r, ds', hl, ok, h _ _ hm, z⟩
/-- a def under its name -/
structure Cal (P : Program) (w : World) (K : PySem.W.Frag) (mg : Str → Option Value) (base : Heap) (k : Nat) (x : Str) (sp : Sp) : Prop where
  ex : ∃ (f : Addr) (fd : FuncData) (ps : List Str), FnOk P w K mg base CX0 k f fd ps sp ∧ mg x = some (.ref f) ∧ PySem.W.keepIn K (.ref f) = true ∧ Binds K fd ps []
/-- a method of the class at C -/
structure Met (P : Program) (w : World) (K : PySem.W.Frag) (mg : Str → Option Value) (base : Heap) (k : Nat) (C : Addr) (m : Str) (sp : Sp) : Prop where
  ex : ∃ (f : Addr) (fd : FuncData) (ps : List Str), L2.Cls K C ∧ Meth K C m f ∧ FnOk P w K mg base CX0 k f fd ps sp ∧ Binds K fd ps []
/-- a class under its name; sp: its __init__ -/
structure Mak (P : Program) (w : World) (K : PySem.W.Frag) (mg : Str → Option Value) (base : Heap) (k : Nat) (x : Str) (C : Addr) (sp : Sp) : Prop where
  ex : ∃ (f : Addr) (fd : FuncData) (ps : List Str), Mk K C f ∧ FnOk P w K mg base CX0 k f fd ps sp ∧ mg x = some (.ref C) ∧ Binds K fd ps []
section
variable {P : Program} {w : World} {K : PySem.W.Frag} {mg : Str → Option Value} {base : Heap} {g : Gx} {κp κl : List Sl} {kr : Kd} {k j : Nat} {x : Str} {C : Addr} {m m' : DF}
theorem Cal.weak (c : Cal P w K mg base k x (spM K g κp kr m)) (h : Le m' m) : Cal P w K mg base k x (spM K g κp kr m') := by
  obtain ⟨f, fd, ps, F, a, b, d⟩ := c.ex
  exact ⟨f, fd, ps, F.imp fun vs H Q E q => spM_weak h vs H Q E q, a, b, d⟩
theorem Cal.up (c : Cal P w K mg base k x (spM K g κp kr m)) (h : k ≤ j) : Cal P w K mg base j x (spM K g κp kr m) := by
  obtain ⟨f, fd, ps, F, a, b, d⟩ := c.ex
  exact ⟨f, fd, ps, F.mono h, a, b, d⟩
theorem Met.weak (c : Met P w K mg base k C x (spM K g κp kr m)) (h : Le m' m) : Met P w K mg base k C x (spM K g κp kr m') := by
  obtain ⟨f, fd, ps, a, b, F, d⟩ := c.ex
  exact ⟨f, fd, ps, a, b, F.imp fun vs H Q E q => spM_weak h vs H Q E q, d⟩
theorem Mak.weak (c : Mak P w K mg base k x C (spM K g κp kr m)) (h : Le m' m) : Mak P w K mg base k x C (spM K g κp kr m') := by
  obtain ⟨f, fd, ps, a, F, b, d⟩ := c.ex
  exact ⟨f, fd, ps, a, F.imp fun vs H Q E q => spM_weak h vs H Q E q, b, d⟩
def dfNone : DF := fun _ => none
/-- what promises nothing -/
theorem Cal.none {f : Addr} {fd : FuncData} {ps : List Str} (hm : mg x = some (.ref f)) (kp : PySem.W.keepIn K (.ref f) = true) (b : Binds K fd ps []) : Cal P w K mg base k x (spM K g κp kr dfNone) :=
  ⟨f, fd, ps, ⟨fun vs H Q E q => (by obtain ⟨_, _, _, _, _, _, _, hm, _⟩ := q; cases hm), fun A outer s H args us vs Q E _ _ _ _ q => (by obtain ⟨_, _, _, _, _, _, _, hm, _⟩ := q; cases hm)⟩, hm, kp, b⟩
/-- a def's body, its code known -/
theorem fn_okT {q qual : Str} {params : Arguments} {body : List Stmt} {scope : Scope} {f : Addr} {fd : FuncData} {N ps : List Str} {mb : M Fl}
    (Fn : FunD K q qual params body scope [] [] f fd) (S : FnScope N ps scope) (hN : N.length = κp.length + κl.length) (hps : ps.length = κp.length) (hfl : κp.all (fun s => s.io || s.kd.fl) = true) (hkl : κl.all (fun s => !s.io) = true)
    (hb : ∀ (cdv : Value) (A : Around) (outer : List PySem.Env) (s : Shared) (H : Hp) (E : XK), (∃ c, cdv = .ref c ∧ ∀ p, f = He.fAd K p → He.codeOf K p = c) → Room k (A.deeper (envOfC qual scope s.heap.objs.size f cdv)) → BX (cxOf CX0 P w K mg base N qual scope f cdv A outer s H E).nox g (κp ++ κl) kr body mb) :
    FnOk P w K mg base CX0 (k + 1) f fd ps (spM K g κp kr (runD κp κl.length kr mb)) := by
  obtain ⟨oc, od, dV, kV, doc, pm, an, cdv, ct, osl, rfl, lk, hcd, hD, hK⟩ := Fn.ex
  have hc : ∃ c, cdv = .ref c ∧ ∀ p, f = He.fAd K p → He.codeOf K p = c := by
    obtain ⟨c, rfl⟩ := He.codeIn_ref hcd
    exact ⟨c, rfl, fun p e => He.codeOf_eq (by rw [← e]; exact lk) rfl⟩
  refine fn_of lk hcd S (fun vs H Q E h => ?_) fun A outer s H vs Q E hr h => ⟨sOf K g (κp ++ κl) kr mb, PSs.nox (hb cdv A outer s H E hc hr), ?_⟩
  · obtain ⟨F, io, ds, r, ds', hl, _⟩ := h
    rw [hl, hps]
  · obtain ⟨F, io, ds, r, ds', hl, ok, hm, q⟩ := h
    unfold runD at hm
    have ok2 := ok.enter (κl := κl) hl hN hkl
    cases hb : mb (ds.map some ++ List.replicate κl.length Option.none) with
    | none => rw [hb] at hm; cases hm
    | some p =>
      obtain ⟨fl, ρ'⟩ := p
      rw [hb] at hm
      refine ⟨_, F, _, fl, ρ', ok2, hb, ?_⟩
      cases fl with
      | nx =>
        have hm : (if kr.fl = true then (outs κp ds ρ').map fun o => (D.non, o) else Option.none) = some (r, ds') := hm
        split at hm
        · rename_i hk
          obtain ⟨o, ho, e⟩ := Option.map_eq_some_iff.mp hm
          cases e
          refine fun σ' F' H' ok' _ => q .non F' H' (OkN.leave ok hl hfl (ok'.flat hk ?_) ho)
          cases kr with
          | sc => rfl
          | im => exact Rep.sc rfl
          | lst k => cases hk
          | ins c => cases hk
        · cases hm
      | bk => cases hm
      | ct => cases hm
      | rt d =>
        obtain ⟨o, ho, e⟩ := Option.map_eq_some_iff.mp hm
        cases e
        exact fun v σ' F' H' okn _ => q v F' H' (OkN.leave ok hl hfl okn ho)
end

/-! ### arguments that are looked at -/
section
variable {K : PySem.W.Frag} {g : Gx} {F F' : Hp}
mutual
theorem Rep.move (e : ∀ b o, F b = some o → (∀ ps, o ≠ .tbl ps) → F' b = some o) : ∀ {d v}, Rep K g F d v → Rep K g F' d v
  | _, _, .sc h => .sc h
  | _, _, .lst h r => .lst (e _ _ h fun _ z => nomatch z) (Reps.move e r)
  | _, _, .scr h => .scr (by
    rcases h with (h | ⟨o, h⟩) | h
    · exact .inl (.inl (e _ _ h fun _ z => nomatch z))
    · exact .inl (.inr ⟨o, e _ _ h fun _ z => nomatch z⟩)
    · exact .inr h)
  | _, _, .tup h r => .tup (by
    rcases h with (h | ⟨o, h⟩) | h
    · exact .inl (.inl (e _ _ h fun _ z => nomatch z))
    · exact .inl (.inr ⟨o, e _ _ h fun _ z => nomatch z⟩)
    · exact .inr h) (Reps.move e r)
  | _, _, .obj h r => .obj (e _ _ h fun _ z => nomatch z) (RepF.move e r)
theorem Reps.move (e : ∀ b o, F b = some o → (∀ ps, o ≠ .tbl ps) → F' b = some o) : ∀ {ds vs}, Reps K g F ds vs → Reps K g F' ds vs
  | _, _, .nil => .nil
  | _, _, .cons h r => .cons (Rep.move e h) (Reps.move e r)
theorem RepF.move (e : ∀ b o, F b = some o → (∀ ps, o ≠ .tbl ps) → F' b = some o) : ∀ {ds vs}, RepF K g F ds vs → RepF K g F' ds vs
  | _, _, .nil => .nil
  | _, _, .cons h r => .cons (Rep.move e h) (RepF.move e r)
end
theorem ExT.move {F H H' : Hp} (t : Tabs g F H) (e : ExT g H H') : ∀ b o, H b = some o → (∀ ps, o ≠ .tbl ps) → H' b = some o := fun b o h n => e b o h fun z => by
  obtain ⟨⟨ps, q, _⟩, _⟩ := t b z
  rw [h] at q; cases q; exact n ps rfl
end
/-- the heap but for the tables -/
noncomputable def noTab (g : Gx) (H : Hp) : Hp := fun b => by
  classical
  exact if g.tab b then none else H b
theorem noTab_in {g : Gx} {H : Hp} {b : Addr} (h : ¬ g.tab b) : noTab g H b = H b := by unfold noTab; exact if_neg h
theorem noTab_out {g : Gx} {H : Hp} {b : Addr} (h : g.tab b) : noTab g H b = none := by unfold noTab; exact if_pos h
theorem noTab_sub {g : Gx} {H : Hp} : Ex (noTab g H) H := fun b o e => by
  by_cases h : g.tab b
  · rw [noTab_out h] at e; cases e
  · rw [noTab_in h] at e; exact e
theorem noTab_move {g : Gx} {F H : Hp} (t : Tabs g F H) : ∀ b o, H b = some o → (∀ ps, o ≠ .tbl ps) → noTab g H b = some o := fun b o h n => by
  rw [noTab_in fun z => ?_]
  · exact h
  · obtain ⟨⟨ps, q, _⟩, _⟩ := t b z
    rw [h] at q; cases q; exact n ps rfl
/-- kinds of results that lean on nothing frozen -/
def Kd.own : Kd → Bool
  | .sc => true
  | .lst k => k.own
  | _ => false
theorem Hold.thaw {K : PySem.W.Frag} {g : Gx} {F F' H : Hp} : ∀ {k : Kd} {d : D} {v : V} {S : Addr → Prop}, k.own = true → (∀ b, S b → F b = none) → Hold K g F' H k d v S → Hold K g F H k d v S
  | .sc, _, _, _, _, _, h => h
  | .im, _, _, _, hk, _, _ => by cases hk
  | .ins _, _, _, _, hk, _, _ => by cases hk
  | .lst k, _, _, S, hk, hf, h => by
    obtain ⟨a, vs, ds, e1, e2, s, f, h1, h2, T, t1, t2, h3⟩ := h
    exact ⟨a, vs, ds, e1, e2, s, hf a s, h1, h2, T, t1, t2, fun i x y a b => Hold.thaw hk (fun c z => hf c (t2 i c z).1) (h3 i x y a b)⟩
section
variable {X : Cx} {g : Gx} {κ κp : List Sl} {b b1 b2 b3 : Bool} {k k1 k2 k3 kr : Kd} {pos : Pos}
def avOf (K : PySem.W.Frag) (g : Gx) (κ : List Sl) (b : Bool) (m : M (List D)) : TA := fun σ H Q => ∃ B F ρ ds ρ', Ok K g κ B F H σ ρ ∧ m ρ = some (ds, ρ') ∧
  ∀ vs F' H', Ok K g κ B F' H' σ ρ' → Ex F F' → (b = true → ExT g H H') → Reps K g H' ds vs → Q vs H'
abbrev VX (X : Cx) (g : Gx) (κ : List Sl) (b : Bool) (es : List Expr) (m : M (List D)) : Prop := PA X es (avOf X.K g κ b m)
theorem vx_nil : VX X g κ true [] aNil := PA.weak pa_nil fun σ H Q ⟨B, F, ρ, ds, ρ', ok, hm, q⟩ => by
  obtain ⟨rfl, rfl⟩ := ret_some hm
  exact q [] F H ok (Ex.refl F) (fun _ => ExT.refl g H) .nil
theorem vx_cons {e : Expr} {es : List Expr} {m : M D} {r : M (List D)} (h : EX X g κ b1 k e m) (hr : VX X g κ true es r) (hs : starEach (e :: es) X.env = (false, eval e X.env) :: starEach es X.env := by rfl) : VX X g κ b1 (e :: es) (aCons m r) :=
  PA.weak (pa_cons h hr hs) fun σ H Q ⟨B, F, ρ, ds, ρ', ok, hm, q⟩ => by
    obtain ⟨x, ρ1, hx, hm1⟩ := bnd_some hm
    obtain ⟨xs, ρ2, hxs, hm2⟩ := bnd_some hm1
    obtain ⟨rfl, rfl⟩ := ret_some hm2
    refine ⟨B, F, ρ, x, ρ1, ok, hx, fun v F1 H1 ok1 e1 q1 w1 => ⟨B, F1, ρ1, xs, _, ok1, hxs, fun vs F2 H2 ok2 e2 q2 w2 => q (v :: vs) F2 H2 ok2 (e1.trans e2) (fun hb => (q1 hb).trans (q2 rfl)) (.cons ?_ w2)⟩⟩
    exact (w1.inH ok1.1.sub fun _ _ z _ => z).move ((q2 rfl).move ok1.1.tab)
theorem callV_go {K : PySem.W.Frag} {B : Bs} {F H : Hp} {σ : L2.St} {ρ : Rho} {mf : DF} {ds ds' : List D} {vs : List V} {r : D} {Q : VK} {E : XK} (ok : Ok K g κ B F H σ ρ) (rs : Reps K g H ds vs) (ha : argsOk κp ds = true) (hm : mf ds = some (r, ds')) (hk : kr.own = true)
    (q : ∀ v H', OkN K g κ B F H' σ ρ kr r v → ExT g H H' → Q v H') : spM K g κp kr mf vs H Q E := by
  obtain ⟨hl, ag⟩ := argsOk_get ha
  have rs' := rs.move (noTab_move ok.1.tab)
  refine ⟨noTab g H, fun _ _ => False, ds, r, ds', by rw [← rs.length, hl], ⟨⟨Ex.refl _, noTab_sub, fun _ _ z _ _ => z, fun _ _ _ => rfl, fun _ z => z, fun P hP => ⟨(ok.1.tab P hP).1, noTab_out hP⟩, fun _ _ _ _ => rfl, fun _ _ _ _ _ z => z, by rw [List.length_map, ← rs.length, hl]⟩, fun _ _ => False, ⟨by simp [hl], fun _ _ _ z => z.elim, fun _ _ z => z.elim, fun i s d a b => ?_⟩⟩, hm, fun v F' H' okn => ?_⟩
  · rw [List.getElem?_map] at b
    obtain ⟨d', b1, b2⟩ := Option.map_eq_some_iff.mp b
    cases b2
    obtain ⟨v, h1, h2⟩ := rs'.get b1
    obtain ⟨_, hk⟩ := ag i s a
    exact ⟨v, by rw [List.getElem?_map, h1]; rfl, Vw.hold (okK_flat (hk _ b1)) (vw_okK (H := H) h2 (hk _ b1) (Ex.refl _))⟩
  · obtain ⟨c, S, e, hd, hn⟩ := okn
    have x1 : ExT g H H' := fun b o z t => c.frame b o z (fun _ w => w) t
    have fsub : Ex F H' := fun b o z => x1 b o (ok.1.sub b o z) fun t => by rw [(ok.1.tab b t).2] at z; cases z
    have okg : Ok K g κ B F H' σ ρ := ok.grow (Ex.refl F) fsub x1 (fun _ _ _ => rfl) c.dom fun P hP => ⟨(c.tab P hP).1, (ok.1.tab P hP).2⟩
    refine q v H' ?_ x1
    obtain ⟨S2, e2, th⟩ := ok.there
    have e3 := e2.grow ok.1 (F' := F) (H' := H') (Ex.refl F) x1 (fun _ _ _ => rfl)
    have hn : ∀ b, S κp.length b → H b = none := hn
    refine ⟨okg.1, fun i b => (i ≠ κ.length ∧ S2 i b) ∨ (i = κ.length ∧ S κp.length b), ⟨e3.lenR, fun i j b x y => ?_, fun i b x => ?_, fun i s d a b => ?_⟩, Hold.up (fun b z => .inr ⟨rfl, z⟩) (Hold.thaw hk (fun b z => ok.fnone (hn b z)) hd), fun b z => ?_⟩
    · rcases x with x | x <;> rcases y with y | y
      · exact e3.dis i j b x.2 y.2
      · obtain ⟨_, xs, l, _⟩ := th i b x.2
        have := hn b y.2
        rw [l] at this; cases this
      · obtain ⟨_, xs, l, _⟩ := th j b y.2
        have := hn b x.2
        rw [l] at this; cases this
      · rw [x.1, y.1]
    · rcases x with x | x
      · exact e3.mine i b x.2
      · exact .inr (ok.1.dom b (hn b x.2))
    · obtain ⟨w, q1, q2⟩ := e3.held i s d a b
      have hi : i ≠ κ.length := fun z => by
        have := (List.getElem?_eq_some_iff.mp a).1
        omega
      exact ⟨w, q1, Hold.up (fun b z => .inl ⟨hi, z⟩) q2⟩
    · rcases z with z | z
      · exact (z.1 rfl).elim
      · exact ok.1.dom b (hn b z.2)
end
section
variable {X : Cx} {g : Gx} {κ κp κr : List Sl} {b b1 b2 b3 : Bool} {k k1 k2 k3 kr : Kd} {pos p apos : Pos} {j l : Nat} {x m c : Str} {mf : DF} {e o : Expr} {es : List Expr} {a : M (List D)} {mo : M D}
/-! ### the rules by name -/
theorem nx_c (h : AL X g κ b (e :: es) a) (C : Cal X.prog X.w X.K X.mg X.base l x (spM X.K g κp kr mf)) (hr : Room j X.A) (hk : l ≤ j) (hg : Gl X x := by rfl)
    (hdb : (x == ("__debug__" : Str)) = false := by decide) (he : starEach (e :: es) X.env = (false, eval e X.env) :: starEach es X.env := by rfl) (hpl : (backTo pos (starEach es X.env)).any (·.1) = false := by rfl) :
    NX X g κ b kr (.Call (.Name x p) (e :: es) [] pos) (eCall κp mf a) := by
  obtain ⟨f, fd, ps, F, hm, kp, bd⟩ := C.ex
  exact nx_call (fun ha => pe_call F (hr.mono hk) hg hm kp bd .nil pass0 ha hdb he hpl) h
theorem nx_cV (h : VX X g κ b (e :: es) a) (C : Cal X.prog X.w X.K X.mg X.base l x (spM X.K g κp kr mf)) (hr : Room j X.A) (hk : l ≤ j) (ho : kr.own = true := by rfl) (hg : Gl X x := by rfl)
    (hdb : (x == ("__debug__" : Str)) = false := by decide) (he : starEach (e :: es) X.env = (false, eval e X.env) :: starEach es X.env := by rfl) (hpl : (backTo pos (starEach es X.env)).any (·.1) = false := by rfl) :
    NX X g κ b kr (.Call (.Name x p) (e :: es) [] pos) (eCall κp mf a) := by
  obtain ⟨f, fd, ps, F, hm, kp, bd⟩ := C.ex
  refine PE.weak (pe_call (E := E0) F (hr.mono hk) hg hm kp bd .nil pass0 h hdb he hpl) fun σ H Q ⟨B, F, ρ, d, ρ', ok, hm, q⟩ => ?_
  obtain ⟨ds, ρ1, h1, h2⟩ := bnd_some hm
  obtain ⟨h3, rfl⟩ := lft_some h2
  obtain ⟨ha, ds', h4⟩ := callR_some h3
  refine ⟨B, F, ρ, ds, _, ok, h1, fun vs F1 H1 ok1 e1 q1 w1 => ?_⟩
  show spM X.K g κp kr mf (vs ++ []) H1 Q E0
  rw [List.append_nil]
  exact callV_go ok1 w1 ha h4 ho fun v H' okn x2 => q v F1 H' okn e1 fun hb => (q1 hb).trans x2
theorem nx_cIo {s0 s : Sl} {e0 : Expr} {i : Nat} (h0 : PE X e0 (tVar i)) (h : AL X g κ b es a) (C : Cal X.prog X.w X.K X.mg X.base l x (spM X.K g (s0 :: κr) kr mf)) (hr : Room j X.A) (hkj : l ≤ j)
    (hi : κ[i]? = some s) (hk : s.kd = s0.kd := by rfl) (hio : s0.io = true := by rfl) (hg : Gl X x := by rfl) (hdb : (x == ("__debug__" : Str)) = false := by decide)
    (he : starEach (e0 :: es) X.env = (false, eval e0 X.env) :: starEach es X.env := by rfl) (hpl : (backTo pos (starEach es X.env)).any (·.1) = false := by rfl) :
    NX X g κ false kr (.Call (.Name x p) (e0 :: es) [] pos) (eCallIo i κr mf a) := by
  obtain ⟨f, fd, ps, F, hm, kp, bd⟩ := C.ex
  exact nx_callIo (fun ha => pe_call (E := E0) F (hr.mono hkj) hg hm kp bd .nil pass0 ha hdb he hpl) h0 h hi hk hio he
theorem nx_m (ho : EX X g κ b1 k o mo) (h : AL X g κ b2 (e :: es) a) (C : Met X.prog X.w X.K X.mg X.base l (g.cl c) m (spM X.K g κp kr mf)) (hr : Room j X.A) (hkj : l ≤ j) (hk : k.fl = true := by rfl)
    (hst : starEach (e :: es) X.env = (false, eval e X.env) :: starEach es X.env := by rfl) (hpl : (backTo pos (starEach es X.env)).any (·.1) = false := by rfl)
    (ht : eval (.Call (.Attribute o m apos) (e :: es) [] pos) X.env = (do
      let ov ← eval o X.env
      standAt apos.atName
      let (f, first) ← holding [ov] (getMethod ov m (plainOf o X.env))
      callWith pos f first (backTo pos (starEach (e :: es) X.env)) (backToKw pos (keywordEach [] X.env))) := by rfl) :
    NX X g κ (b1 && b2) kr (.Call (.Attribute o m apos) (e :: es) [] pos) (eMeth c m κp mf mo a) := by
  obtain ⟨f, fd, ps, hc, hm, F, bd⟩ := C.ex
  exact nx_meth (fun ho ha => pe_meth (E := E0) ho hc hm F (hr.mono hkj) bd .nil pass0 ha hst hpl ht) ho h hk
theorem nx_m0 (ho : EX X g κ b1 k o mo) (C : Met X.prog X.w X.K X.mg X.base l (g.cl c) m (spM X.K g κp kr mf)) (hr : Room j X.A) (hkj : l ≤ j) (hk : k.fl = true := by rfl)
    (ht : eval (.Call (.Attribute o m apos) [] [] pos) X.env = (do
      let ov ← eval o X.env
      standAt apos.atName
      let (f, first) ← holding [ov] (getMethod ov m (plainOf o X.env))
      callWith pos f first (backTo pos (starEach [] X.env)) (backToKw pos (keywordEach [] X.env))) := by rfl) :
    NX X g κ b1 kr (.Call (.Attribute o m apos) [] [] pos) (eMeth c m κp mf mo aNil) := by
  obtain ⟨f, fd, ps, hc, hm, F, bd⟩ := C.ex
  exact nx_meth0 (fun ho => pe_meth0 (E := E0) ho hc hm F (hr.mono hkj) bd .nil pass0 ht) ho hk
theorem nx_mk (h : AL X g κ b (e :: es) a) (C : Mak X.prog X.w X.K X.mg X.base l x (g.cl c) (spM X.K g (⟨.ins c, true⟩ :: κr) .sc mf)) (hr : Room j X.A) (hkj : l + 1 ≤ j) (hg : Gl X x := by rfl)
    (hdb : (x == ("__debug__" : Str)) = false := by decide) (he : starEach (e :: es) X.env = (false, eval e X.env) :: starEach es X.env := by rfl) (hpl : (backTo pos (starEach es X.env)).any (·.1) = false := by rfl) :
    NX X g κ false (.ins c) (.Call (.Name x p) (e :: es) [] pos) (eMake c κr mf a) := by
  obtain ⟨f, fd, ps, M, F, hm, bd⟩ := C.ex
  exact nx_make (fun ha => pe_make (E := E0) M F (hr.mono hkj) hg hm bd .nil pass0 ha hdb he hpl) h
end
end DL

set_option maxHeartbeats 4000000
/-! DL14: small rules that the printed texts use. -/
namespace DL
open PySem PySem.Spec PyProof.Rows L2
section
variable {X : Cx} {g : Gx} {κ : List Sl} {x : Str} {p : Pos}
/-- a module's number or text -/
theorem ex_gl {d : D} {v : V} (hm : ∃ u, X.mg x = some u ∧ RelV v u) (hd : toV d = some v := by rfl) (hg : Gl X x := by rfl) (h : (x == ("__debug__" : Str)) = false := by decide) : EX X g κ true .sc (.Name x p) (eC d) := by
  obtain ⟨u, h1, h2⟩ := hm
  exact ex_c (pe_glob hg h1 h2 h) hd
/-- a built-in type -/
theorem pe_ty {T : String} (hm : X.mg (Str.ofString T) = none) (hv : bootBuiltins (Str.ofString T) = some (.type T) := by rfl) (hg : Gl X (Str.ofString T) := by rfl) (hn : Str.ofString T ≠ "__name__" := by decide) (hd : (Str.ofString T == ("__debug__" : Str)) = false := by decide) : PE X (.Name (Str.ofString T) p) (tC (.ty T)) :=
  pe_bltn hg hm hv rfl hn hd
end
/-! ### chains of three -/
def tChain3 (r r' r2 : R2) (ta tb tc td : TE) : TE := fun σ H Q => ta σ H fun x H1 => tb σ H1 fun y H2 => r x y H2 fun z H3 => ∃ k, z = .bl k ∧
  (if k = true then tc σ H3 fun w H4 => r' y w H4 fun z H5 => ∃ k, z = .bl k ∧ (if k = true then td σ H5 fun u H6 => r2 w u H6 Q else Q (.bl false) H5) else Q (.bl false) H3)
section
variable {X : Cx} {a b c d : Expr} {ta tb tc td : TE} {pos : Pos}
theorem pe_chain3 {op op' op2 : CmpOp} {r r' r2 : R2} (ho : OpR X (compareOp op) r) (ho' : OpR X (compareOp op') r') (ho2 : OpR X (compareOp op2) r2) (ha : PE X a ta) (hb : PE X b tb) (hc : PE X c tc) (hd : PE X d td)
    (hm : lastMarks [op, op', op2] [b, c, d] = false := by with_unfolding_all rfl) : PE X (.Compare a [op, op', op2] [b, c, d] pos) (tChain3 r r' r2 ta tb tc td) := by
  refine ⟨fun pins s σ H Q I h => ?_⟩
  refine Compare_chain (thn (ha.run pins s σ H _ I h) fun v s1 ⟨x, H1, I1, r1, q1⟩ => chain_link (thn (hb.run pins s1 σ H1 _ I1 q1) fun u s2 ⟨y, H2, I2, r2, q2⟩ =>
    thn (ho pins s2 σ H2 x y v u _ I2 r1 r2 q2) fun d s3 ⟨z, H3, I3, r3, k, e, q3⟩ => ?_)) hm
  subst e
  cases r3
  refine wpAny_truthy_bool ?_
  cases k with
  | false => exact ite_ff ⟨.bl false, H3, I3, rfl, q3⟩
  | true =>
    refine ite_tt (chain_link (thn (hc.run pins s3 σ H3 _ I3 q3) fun w' s4 ⟨z', H4, I4, r4, q4⟩ => thn (ho' pins s4 σ H4 y z' u w' _ I4 r2 r4 q4) fun d s5 ⟨z, H5, I5, r5, k, e, q5⟩ => ?_))
    subst e
    cases r5
    refine wpAny_truthy_bool ?_
    cases k with
    | false => exact ite_ff ⟨.bl false, H5, I5, rfl, q5⟩
    | true => exact ite_tt (chain_last (thn (hd.run pins s5 σ H5 _ I5 q5) fun w2 s6 ⟨z2, H6, I6, r6, q6⟩ => ho2 pins s6 σ H6 z' z2 w' w2 Q I6 r4 r6 q6))
variable {g : Gx} {κ : List Sl} {b1 b2 b3 b4 : Bool} {k1 k2 k3 k4 : Kd} {op op' op2 : CmpOp} {r r' r2 : R2} {f f' f2 : D → D → Option D} {ma mb mc md : M D}
def eChain3 (f f' f2 : D → D → Option D) (a c e h : M D) : M D := bnd a fun x => bnd c fun y => bnd (lft ((f x y).bind asB)) fun t => if t then bnd e fun z => bnd (lft ((f' y z).bind asB)) fun t => (if t then bnd h fun w => lft (f2 z w) else ret (.bl false)) else ret (.bl false)
theorem ex_chain3 (o : CO X g op r f) (o' : CO X g op' r' f') (o2 : CO X g op2 r2 f2) (ha : EX X g κ b1 k1 a ma) (hb : EX X g κ b2 k2 b mb) (hc : EX X g κ b3 k3 c mc) (hd : EX X g κ b4 k4 d md) (hm : lastMarks [op, op', op2] [b, c, d] = false := by with_unfolding_all rfl)
    (h1 : k1.fl = true := by rfl) (h2 : k2.fl = true := by rfl) (h3 : k3.fl = true := by rfl) (h4 : k4.fl = true := by rfl) :
    EX X g κ (b1 && b2 && b3 && b4) .sc (.Compare a [op, op', op2] [b, c, d] pos) (eChain3 f f' f2 ma mb mc md) := PE.weak (pe_chain3 o.op o'.op o2.op ha hb hc hd hm) fun σ H Q h => by
  obtain ⟨B, F, ρ, d, ρ', ok, hm0, q⟩ := h
  obtain ⟨x, ρ1, hx, hm1⟩ := bnd_some hm0
  obtain ⟨y, ρ2, hy, hm2⟩ := bnd_some hm1
  obtain ⟨t, ρ3, ht0, hm⟩ := bnd_some hm2
  obtain ⟨ht, rfl⟩ := lft_some ht0
  obtain ⟨z, hz, hzt⟩ := Option.bind_eq_some_iff.mp ht
  have := asB_some hzt
  subst this
  refine ⟨B, F, ρ, x, ρ1, ok, hx, fun v F1 H1 ok1 e1 q1 w1 => ⟨B, F1, ρ1, y, _, ok1, hy, fun w F2 H2 ok2 e2 q2 w2 => ?_⟩⟩
  refine o.sc F2 H2 x y _ v w _ ((w1.rep h1).mono e2) (w2.rep h2) ok2.1.sub hz fun u hu => ?_
  cases hu
  refine ⟨t, rfl, ?_⟩
  cases t with
  | false =>
    rw [if_neg Bool.false_ne_true]
    obtain ⟨e, rfl⟩ := ret_some hm
    subst e
    exact q _ F2 H2 ok2 (e1.trans e2) (fun hb => by
      simp only [Bool.and_eq_true] at hb
      exact (q1 hb.1.1.1).trans (q2 hb.1.1.2)) rfl
  | true =>
    rw [if_pos rfl]
    obtain ⟨z, ρ4, hz', hm3⟩ := bnd_some hm
    obtain ⟨t, ρ5, ht0, hm4⟩ := bnd_some hm3
    obtain ⟨ht, rfl⟩ := lft_some ht0
    obtain ⟨z', hz2, hzt⟩ := Option.bind_eq_some_iff.mp ht
    have := asB_some hzt
    subst this
    refine ⟨B, F2, _, z, _, ok2, hz', fun u F3 H3 ok3 e3 q3 w3 => ?_⟩
    refine o'.sc F3 H3 y z _ w u _ ((w2.rep h2).mono e3) (w3.rep h3) ok3.1.sub hz2 fun u' hu => ?_
    cases hu
    refine ⟨t, rfl, ?_⟩
    cases t with
    | false =>
      rw [if_neg Bool.false_ne_true]
      obtain ⟨e, rfl⟩ := ret_some hm4
      subst e
      exact q _ F3 H3 ok3 ((e1.trans e2).trans e3) (fun hb => by
        simp only [Bool.and_eq_true] at hb
        exact ((q1 hb.1.1.1).trans (q2 hb.1.1.2)).trans (q3 hb.1.2)) rfl
    | true =>
      rw [if_pos rfl]
      obtain ⟨z2, ρ6, hz3, hm5⟩ := bnd_some hm4
      obtain ⟨hm6, rfl⟩ := lft_some hm5
      refine ⟨B, F3, _, z2, _, ok3, hz3, fun u2 F4 H4 ok4 e4 q4 w4 => ?_⟩
      exact o2.sc F4 H4 z z2 _ u u2 _ ((w3.rep h3).mono e4) (w4.rep h4) ok4.1.sub hm6 fun t ht => q t F4 H4 ok4 (((e1.trans e2).trans e3).trans e4) (fun hb => by
        simp only [Bool.and_eq_true] at hb
        exact (((q1 hb.1.1.1).trans (q2 hb.1.1.2)).trans (q3 hb.1.2)).trans (q4 hb.2)) ht
end
section
variable {X : Cx} {g : Gx} {κ : List Sl} {b : Bool} {k : Kd}
/-- tuple(xs) of an owned list -/
def eTupleO (m : M D) : M D := bnd m fun d => lft (match d with | .lst ds => some (.tup ds) | _ => none)
theorem ex_tupleO {e ea : Expr} {m : M D} (hp : ∀ {t : TA}, PA X [ea] t → PE X e (tCB (fun xs H Q => ∃ p ys, xs = [V.ref p] ∧ ((SqL X.K H p ys ∧ ∀ l, H l = none → Q (.ref l) (upd H l (.tup ys))) ∨ (SqT X.K H p ys ∧ Q (.ref p) H))) t)) (h : EX X g κ b (.lst k) ea m) (hk : k.fl = true := by rfl)
    (hs : starEach [ea] X.env = (false, eval ea X.env) :: starEach [] X.env := by rfl) : EX X g κ b .im e (eTupleO m) :=
  PE.weak (hp (pa_cons h pa_nil hs)) fun σ H Q ⟨B, F, ρ, d, ρ', ok, hm, q⟩ => by
    obtain ⟨x, ρ1, hx, hm1⟩ := bnd_some hm
    obtain ⟨hz, rfl⟩ := lft_some hm1
    cases x <;> try (cases hz)
    rename_i ds
    refine ⟨B, F, ρ, _, _, ok, hx, fun v F1 H1 ok1 e1 q1 w1 => ?_⟩
    obtain ⟨p, vs, rfl, l, hl, it⟩ := Vw.itemsL w1 rfl
    refine ⟨p, vs, rfl, .inl ⟨SqL.of l, fun l' hl' => ?_⟩⟩
    have fp := ok1.fnone hl'
    have rs : Reps X.K g F1 ds vs := reps_of hl fun i x y a b => (it i x y a b).rep hk
    exact q _ _ _ (ok1.newF (o := .tup vs) hl') (e1.trans (.new fp)) (fun hb => (q1 hb).trans (Ex.toT (.new hl'))) (.tup (.inl (.inl upd_same)) (rs.mono (.new fp)))
end
end DL

set_option maxHeartbeats 4000000
/-! DLW: what a mirror comes to: a calculus of wishes. -/
namespace DL
open PySem PySem.Spec PyProof.Rows L2
def W {α : Type} (m : M α) (ρ : Rho) (P : α → Rho → Prop) : Prop := ∃ r ρ', m ρ = some (r, ρ') ∧ P r ρ'
theorem W.imp {α : Type} {m : M α} {ρ : Rho} {P P' : α → Rho → Prop} (h : W m ρ P) (w : ∀ a ρ', P a ρ' → P' a ρ') : W m ρ P' := by
  obtain ⟨r, ρ', e, p⟩ := h
  exact ⟨r, ρ', e, w _ _ p⟩
theorem W.of {α : Type} {m : M α} {ρ ρ' : Rho} {P : α → Rho → Prop} {r : α} (h : m ρ = some (r, ρ')) : W m ρ P ↔ P r ρ' := ⟨fun ⟨r2, ρ2, e, p⟩ => by rw [h] at e; cases e; exact p, fun p => ⟨r, ρ', h, p⟩⟩
section
variable {α β : Type} {ρ : Rho}
@[simp] theorem W_bnd {m : M α} {f : α → M β} {P : β → Rho → Prop} : W (bnd m f) ρ P ↔ W m ρ fun a ρ1 => W (f a) ρ1 P := by
  constructor
  · rintro ⟨r, ρ', e, p⟩
    obtain ⟨a, ρ1, h1, h2⟩ := bnd_some e
    exact ⟨a, ρ1, h1, r, ρ', h2, p⟩
  · rintro ⟨a, ρ1, h1, r, ρ', h2, p⟩
    exact ⟨r, ρ', bnd_of h1 h2, p⟩
@[simp] theorem W_ret {a : α} {P : α → Rho → Prop} : W (ret a) ρ P ↔ P a ρ := W.of rfl
@[simp] theorem W_lft {o : Option α} {P : α → Rho → Prop} : W (lft o) ρ P ↔ ∃ a, o = some a ∧ P a ρ := by
  constructor
  · rintro ⟨r, ρ', e, p⟩
    obtain ⟨e2, rfl⟩ := lft_some e
    exact ⟨r, e2, p⟩
  · rintro ⟨a, rfl, p⟩
    exact ⟨a, ρ, rfl, p⟩
@[simp] theorem W_nil {P : α → Rho → Prop} : W (fun _ => none) ρ P ↔ False := ⟨fun ⟨_, _, e, _⟩ => (by cases e), False.elim⟩
@[simp] theorem W_eVar {i : Nat} {P : D → Rho → Prop} : W (eVar i) ρ P ↔ ∃ d, ρ[i]? = some (some d) ∧ P d ρ := by
  constructor
  · rintro ⟨r, ρ', e, p⟩
    obtain ⟨e, rfl⟩ := eVar_some e
    exact ⟨r, e, p⟩
  · rintro ⟨d, e, p⟩
    refine ⟨d, ρ, ?_, p⟩
    unfold eVar
    rw [e]
@[simp] theorem W_eC {d : D} {P : D → Rho → Prop} : W (eC d) ρ P ↔ P d ρ := W.of rfl
@[simp] theorem W_eTake {i : Nat} {P : D → Rho → Prop} : W (eTake i) ρ P ↔ ∃ d, ρ[i]? = some (some d) ∧ P d (ρ.set i none) := by
  constructor
  · rintro ⟨r, ρ', e, p⟩
    unfold eTake at e
    split at e
    · rename_i x h
      cases e
      exact ⟨_, h, p⟩
    · cases e
  · rintro ⟨d, e, p⟩
    refine ⟨d, _, ?_, p⟩
    unfold eTake
    rw [e]
@[simp] theorem W_setV {i : Nat} {k : Kd} {d : D} {P : Unit → Rho → Prop} : W (setV i k d) ρ P ↔ okK k d = true ∧ P () (ρ.set i (some d)) := by
  constructor
  · rintro ⟨r, ρ', e, p⟩
    obtain ⟨h, rfl⟩ := setV_some e
    exact ⟨h, p⟩
  · rintro ⟨h, p⟩
    refine ⟨(), _, ?_, p⟩
    unfold setV
    rw [if_pos h]
@[simp] theorem W_mAsgN {i : Nat} {e : M D} {P : Fl → Rho → Prop} : W (mAsgN i e) ρ P ↔ W e ρ fun d ρ1 => P .nx (ρ1.set i (some d)) := by
  unfold mAsgN
  rw [W_bnd]
  exact ⟨fun h => h.imp fun d ρ1 q => (W.of rfl).mp q, fun h => h.imp fun d ρ1 q => (W.of rfl).mpr q⟩
@[simp] theorem W_mApp {j : Nat} {k : Kd} {e : M D} {P : Fl → Rho → Prop} : W (mApp j k e) ρ P ↔ (∃ v, ρ[j]? = some (some v)) ∧ W e ρ fun d ρ1 => ∃ ds, ρ1[j]? = some (some (.lst ds)) ∧ okK k d = true ∧ ds.length < 100000 ∧ P .nx (ρ1.set j (some (.lst (ds ++ [d])))) := by
  unfold mApp
  rw [W_bnd, W_eVar]
  constructor
  · rintro ⟨v, hv, h⟩
    refine ⟨⟨v, hv⟩, ?_⟩
    rw [W_bnd] at h
    refine h.imp fun d ρ1 q => ?_
    obtain ⟨r, ρ', e, p⟩ := q
    dsimp only at e
    split at e
    · rename_i ds hr
      split at e
      · rename_i hc
        cases e
        exact ⟨ds, hr, hc.1, hc.2, p⟩
      · cases e
    · cases e
  · rintro ⟨⟨v, hv⟩, h⟩
    refine ⟨v, hv, ?_⟩
    rw [W_bnd]
    refine h.imp fun d ρ1 ⟨ds, hr, h1, h2, p⟩ => ⟨_, _, ?_, p⟩
    show (match ρ1[j]? with | some (some (.lst ds)) => _ | _ => _) = _
    rw [hr]
    exact if_pos ⟨h1, h2⟩
@[simp] theorem W_mAug {i : Nat} {k : Kd} {f : Int → Int → Int} {e : M D} {P : Fl → Rho → Prop} : W (mAug i k f e) ρ P ↔ ∃ u, ρ[i]? = some (some u) ∧ W e ρ fun y ρ1 => ∃ a b, u = .int a ∧ y = .int b ∧ okK k (.int (f a b)) = true ∧ P .nx (ρ1.set i (some (.int (f a b)))) := by
  unfold mAug
  rw [W_bnd, W_eVar]
  constructor
  · rintro ⟨u, hu, h⟩
    refine ⟨u, hu, ?_⟩
    rw [W_bnd] at h
    refine h.imp fun y ρ1 q => ?_
    cases u <;> cases y <;> simp at q
    exact ⟨_, _, rfl, rfl, q.1, q.2⟩
  · rintro ⟨u, hu, h⟩
    refine ⟨u, hu, ?_⟩
    rw [W_bnd]
    refine h.imp fun y ρ1 ⟨a, b, e1, e2, q1, q2⟩ => ?_
    subst e1 e2
    simp [q1, q2]
theorem W_putIx {j : Nat} {k : Kd} {d di : D} {P : Fl → Rho → Prop} : W (putIx j k d di) ρ P ↔ ∃ ds n, ρ[j]? = some (some (.lst ds)) ∧ ixD ds.length di = some n ∧ okK k d = true ∧ P .nx (ρ.set j (some (.lst (ds.set n d)))) := by
  constructor
  · rintro ⟨r, ρ', e, p⟩
    obtain ⟨ds, n, h1, h2, h3, rfl, rfl⟩ := putIx_some e
    exact ⟨ds, n, h1, h2, h3, p⟩
  · rintro ⟨ds, n, h1, h2, h3, p⟩
    refine ⟨.nx, _, ?_, p⟩
    simp [putIx, h1, h2, h3]
@[simp] theorem W_mSetIx {j : Nat} {k : Kd} {e i : M D} {P : Fl → Rho → Prop} : W (mSetIx j k e i) ρ P ↔ W e ρ fun d ρ1 => (∃ v, ρ1[j]? = some (some v)) ∧ W i ρ1 fun di ρ2 => ∃ ds n, ρ2[j]? = some (some (.lst ds)) ∧ ixD ds.length di = some n ∧ okK k d = true ∧ P .nx (ρ2.set j (some (.lst (ds.set n d)))) := by
  unfold mSetIx
  simp only [W_bnd, W_eVar, W_putIx]
  constructor
  · intro h
    exact h.imp fun d ρ1 ⟨v, hv, q⟩ => ⟨⟨v, hv⟩, q⟩
  · intro h
    exact h.imp fun d ρ1 ⟨⟨v, hv⟩, q⟩ => ⟨v, hv, q⟩
/-- a raw reading of the slots -/
theorem W_raw {o : Option (α × Rho)} {m : M α} {P : α → Rho → Prop} (h : m ρ = o) : W m ρ P ↔ ∃ r ρ', o = some (r, ρ') ∧ P r ρ' := by rw [← h]; exact Iff.rfl
@[simp] theorem W_mAugIx {j : Nat} {k : Kd} {f : Int → Int → Int} {i e : M D} {P : Fl → Rho → Prop} : W (mAugIx j k f i e) ρ P ↔ (∃ v, ρ[j]? = some (some v)) ∧ W i ρ fun di ρ1 => ∃ ds x, ρ1[j]? = some (some (.lst ds)) ∧ dIxO (.lst ds) di = some (.int x) ∧
    W e ρ1 fun y ρ2 => ∃ z ds2 n, y = .int z ∧ ρ2[j]? = some (some (.lst ds2)) ∧ ixD ds2.length di = some n ∧ okK k (.int (f x z)) = true ∧ P .nx (ρ2.set j (some (.lst (ds2.set n (.int (f x z)))))) := by
  unfold mAugIx
  rw [W_bnd, W_eVar]
  constructor
  · rintro ⟨v, hv, h⟩
    refine ⟨⟨v, hv⟩, ?_⟩
    rw [W_bnd] at h
    refine h.imp fun di ρ1 q => ?_
    obtain ⟨r, ρ', e1, p⟩ := q
    dsimp only at e1
    split at e1
    · rename_i ds hr
      split at e1
      · rename_i x hx
        refine ⟨ds, x, hr, hx, ?_⟩
        obtain ⟨y, ρ2, hy, h2⟩ := bnd_some e1
        refine ⟨y, ρ2, hy, ?_⟩
        cases y <;> try (cases h2)
        rename_i z
        obtain ⟨ds2, n, h3, h4, h5, rfl, rfl⟩ := putIx_some h2
        exact ⟨z, ds2, n, rfl, h3, h4, h5, p⟩
      · cases e1
    · cases e1
  · rintro ⟨⟨v, hv⟩, h⟩
    refine ⟨v, hv, ?_⟩
    rw [W_bnd]
    refine h.imp fun di ρ1 ⟨ds, x, hr, hx, q⟩ => ?_
    obtain ⟨y, ρ2, hy, z, ds2, n, rfl, h3, h4, h5, p⟩ := q
    refine ⟨.nx, _, ?_, p⟩
    dsimp only
    rw [hr]
    dsimp only
    rw [hx]
    dsimp only
    refine bnd_of hy ?_
    simp [putIx, h3, h4, h5]
/-- a call's result -/
def CR1 (o : Option (D × List D)) (Q : D → Prop) : Prop := ∃ r rest, o = some (r, rest) ∧ Q r
@[simp] theorem CR1_some {r : D} {rest : List D} {Q : D → Prop} : CR1 (some (r, rest)) Q ↔ Q r := ⟨fun ⟨_, _, e, q⟩ => by cases e; exact q, fun q => ⟨r, rest, rfl, q⟩⟩
@[simp] theorem W_eCall {κp : List Sl} {mf : DF} {a : M (List D)} {P : D → Rho → Prop} : W (eCall κp mf a) ρ P ↔ W a ρ fun ds ρ1 => argsOk κp ds = true ∧ CR1 (mf ds) fun r => P r ρ1 := by
  unfold eCall
  rw [W_bnd]
  constructor
  · intro h
    refine h.imp fun ds ρ1 q => ?_
    obtain ⟨r, e, p⟩ := W_lft.mp q
    obtain ⟨h1, ds', h2⟩ := callR_some e
    exact ⟨h1, r, ds', h2, p⟩
  · intro h
    refine h.imp fun ds ρ1 ⟨h1, r, ds', h2, p⟩ => W_lft.mpr ⟨r, ?_, p⟩
    unfold callR
    rw [if_pos h1, h2]
    rfl
/-- a call's result, its first argument as it is behind it -/
def CIo (o : Option (D × List D)) (Q : D → D → Prop) : Prop := ∃ r d rest, o = some (r, d :: rest) ∧ Q r d
@[simp] theorem CIo_some {r d : D} {rest : List D} {Q : D → D → Prop} : CIo (some (r, d :: rest)) Q ↔ Q r d := ⟨fun ⟨_, _, _, e, q⟩ => by cases e; exact q, fun q => ⟨r, d, rest, rfl, q⟩⟩
@[simp] theorem W_eCallIo {i : Nat} {κr : List Sl} {mf : DF} {a : M (List D)} {P : D → Rho → Prop} : W (eCallIo i κr mf a) ρ P ↔ (∃ v, ρ[i]? = some (some v)) ∧ W a ρ fun ds ρ1 => ∃ d0, ρ1[i]? = some (some d0) ∧ argsOk κr ds = true ∧ CIo (mf (d0 :: ds)) fun r d0' => P r (ρ1.set i (some d0')) := by
  unfold eCallIo
  rw [W_bnd, W_eVar]
  constructor
  · rintro ⟨v, hv, h⟩
    refine ⟨⟨v, hv⟩, ?_⟩
    rw [W_bnd] at h
    refine h.imp fun ds ρ1 q => ?_
    obtain ⟨r, ρ', e, p⟩ := q
    dsimp only at e
    split at e
    · rename_i d0 hr
      split at e
      · rename_i ha
        split at e
        · rename_i r' d0' rest hmf
          cases e
          exact ⟨d0, hr, ha, r, d0', rest, hmf, p⟩
        · cases e
      · cases e
    · cases e
  · rintro ⟨⟨v, hv⟩, h⟩
    refine ⟨v, hv, ?_⟩
    rw [W_bnd]
    refine h.imp fun ds ρ1 ⟨d0, hr, ha, r, d0', rest, hmf, p⟩ => ⟨r, _, ?_, p⟩
    dsimp only
    rw [hr]
    dsimp only
    rw [if_pos ha, hmf]
@[simp] theorem W_eMeth {c m : Str} {κp : List Sl} {mf : DF} {o : M D} {a : M (List D)} {P : D → Rho → Prop} : W (eMeth c m κp mf o a) ρ P ↔ W o ρ fun d ρ1 => objNo c m d = true ∧ W a ρ1 fun ds ρ2 => argsOk κp (d :: ds) = true ∧ CR1 (mf (d :: ds)) fun r => P r ρ2 := by
  unfold eMeth
  rw [W_bnd]
  constructor
  · intro h
    refine h.imp fun d ρ1 q => ?_
    by_cases ho : objNo c m d = true
    · rw [if_pos ho, W_bnd] at q
      refine ⟨ho, q.imp fun ds ρ2 q => ?_⟩
      obtain ⟨r, e, p⟩ := W_lft.mp q
      obtain ⟨h1, ds', h2⟩ := callR_some e
      exact ⟨h1, r, ds', h2, p⟩
    · rw [if_neg ho, W_bnd, W_nil] at q
      exact q.elim
  · intro h
    refine h.imp fun d ρ1 ⟨ho, q⟩ => ?_
    rw [if_pos ho, W_bnd]
    refine q.imp fun ds ρ2 ⟨h1, r, ds', h2, p⟩ => W_lft.mpr ⟨r, ?_, p⟩
    unfold callR
    rw [if_pos h1, h2]
    rfl
@[simp] theorem W_eMake {c : Str} {κr : List Sl} {mf : DF} {a : M (List D)} {P : D → Rho → Prop} : W (eMake c κr mf a) ρ P ↔ W a ρ fun ds ρ1 => argsOk κr ds = true ∧ CIo (mf (.obj c [] :: ds)) fun r d => r = .non ∧ P d ρ1 := by
  unfold eMake
  rw [W_bnd]
  constructor
  · intro h
    refine h.imp fun ds ρ1 q => ?_
    obtain ⟨r, e, p⟩ := W_lft.mp q
    split at e
    · rename_i ha
      split at e
      · rename_i d rest hmf
        cases e
        exact ⟨ha, _, _, _, hmf, rfl, p⟩
      · cases e
    · cases e
  · intro h
    refine h.imp fun ds ρ1 ⟨ha, r, d, rest, hmf, hr, p⟩ => W_lft.mpr ⟨d, ?_, p⟩
    subst hr
    rw [if_pos ha, hmf]
@[simp] theorem W_mFld {i : Nat} {c f : Str} {e : M D} {P : Fl → Rho → Prop} : W (mFld i c f e) ρ P ↔ W e ρ fun d ρ1 => ∃ fs, ρ1[i]? = some (some (.obj c fs)) ∧ fs.length < 1000 ∧ P .nx (ρ1.set i (some (.obj c (putD f d fs)))) := by
  unfold mFld
  rw [W_bnd]
  constructor
  · intro h
    refine h.imp fun d ρ1 ⟨r, ρ', e, p⟩ => ?_
    dsimp only at e
    split at e
    · rename_i c' fs hr
      split at e
      · rename_i hc
        obtain ⟨rfl, hl⟩ := hc
        cases e
        exact ⟨fs, hr, hl, p⟩
      · cases e
    · cases e
  · intro h
    refine h.imp fun d ρ1 ⟨fs, hr, hl, p⟩ => ⟨_, _, ?_, p⟩
    dsimp only
    rw [hr]
    dsimp only
    rw [if_pos ⟨rfl, hl⟩]
@[simp] theorem W_eFld {c f : Str} {m : M D} {P : D → Rho → Prop} : W (eFld c f m) ρ P ↔ W m ρ fun d ρ1 => ∃ fs x, d = .obj c fs ∧ fs.lookup f = some x ∧ P x ρ1 := by
  unfold eFld
  rw [W_bnd]
  constructor
  · intro h
    refine h.imp fun d ρ1 q => ?_
    obtain ⟨x, e, p⟩ := W_lft.mp q
    split at e
    · rename_i c' fs
      split at e
      · rename_i hc
        subst hc
        exact ⟨fs, x, rfl, e, p⟩
      · cases e
    · cases e
  · intro h
    refine h.imp fun d ρ1 ⟨fs, x, e, hx, p⟩ => W_lft.mpr ⟨x, ?_, p⟩
    subst e
    dsimp only
    rw [if_pos rfl]
    exact hx
@[simp] theorem W_mgTup {n : Nat} {m : List D → M Unit} {d : D} {P : Unit → Rho → Prop} : W (mgTup n m d) ρ P ↔ ∃ ds, d = .tup ds ∧ ds.length = n ∧ W (m ds) ρ P := by
  unfold mgTup
  cases d <;> simp
  rename_i ds
  by_cases h : ds.length = n
  · rw [if_pos h]
    exact ⟨fun q => ⟨h, q⟩, fun q => q.2⟩
  · rw [if_neg h, W_nil]
    exact ⟨False.elim, fun q => h q.1⟩
@[simp] theorem W_mgCons {a : D → M Unit} {r : List D → M Unit} {d : D} {ds : List D} {P : Unit → Rho → Prop} : W (mgCons a r (d :: ds)) ρ P ↔ W (a d) ρ fun _ ρ1 => W (r ds) ρ1 P := by
  unfold mgCons
  rw [W_bnd]
@[simp] theorem W_mgNil {P : Unit → Rho → Prop} : W (mgNil []) ρ P ↔ P () ρ := by
  unfold mgNil
  rw [W_ret]
/-! ### loops -/
theorem W_for {t : D → M Unit} {body : M Fl} {P : Fl → Rho → Prop} {xs : List D} (I : Nat → Rho → Prop) (h0 : I 0 ρ)
    (hs : ∀ i x ρ, xs[i]? = some x → I i ρ → W (t x) ρ fun _ ρ1 => W body ρ1 fun f ρ2 => match f with
      | .nx => I (i + 1) ρ2
      | .ct => I (i + 1) ρ2
      | .bk => P .nx ρ2
      | .rt d => P (.rt d) ρ2) (hd : ∀ ρ, I xs.length ρ → P .nx ρ) : W (forM t body xs) ρ P := by
  have go : ∀ (m i : Nat) (ρ : Rho), m = xs.length - i → i ≤ xs.length → I i ρ → W (forM t body (xs.drop i)) ρ P := by
    intro m
    induction m with
    | zero =>
      intro i ρ e hi h
      have : i = xs.length := by omega
      subst this
      rw [List.drop_length]
      exact W_ret.mpr (hd ρ h)
    | succ m ih =>
      intro i ρ e hi h
      have hlt : i < xs.length := by omega
      rw [List.drop_eq_getElem_cons hlt]
      show W (bnd (t xs[i]) fun _ => bnd body _) ρ P
      rw [W_bnd]
      refine (hs i xs[i] ρ (by simp [hlt]) h).imp fun _ ρ1 q => ?_
      rw [W_bnd]
      refine q.imp fun f ρ2 q => ?_
      cases f with
      | nx => exact ih (i + 1) ρ2 (by omega) hlt q
      | ct => exact ih (i + 1) ρ2 (by omega) hlt q
      | bk => exact W_ret.mpr q
      | rt d => exact W_ret.mpr q
  have := go xs.length 0 ρ (by simp) (Nat.zero_le _) h0
  rwa [List.drop_zero] at this
theorem W_while {c : M Bool} {body : M Fl} {P : Fl → Rho → Prop} (I : Nat → Rho → Prop) {n : Nat} (h0 : I n ρ)
    (hs : ∀ n ρ, I n ρ → W c ρ fun b ρ1 => if b = true then W body ρ1 (fun f ρ2 => match f with
      | .nx => ∃ m, m < n ∧ I m ρ2
      | .ct => ∃ m, m < n ∧ I m ρ2
      | .bk => P .nx ρ2
      | .rt d => P (.rt d) ρ2) else P .nx ρ1) : W (mWhile c body) ρ P := by
  induction n using Nat.strongRecOn generalizing ρ with
  | ind n ih =>
    obtain ⟨b, ρ1, hc, q⟩ := hs n ρ h0
    cases b with
    | false => exact ⟨_, _, mWhile_end hc, by simpa using q⟩
    | true =>
      rw [if_pos rfl] at q
      obtain ⟨f, ρ2, hb, q⟩ := q
      cases f with
      | nx =>
        obtain ⟨m, hm, q⟩ := q
        obtain ⟨r, ρ3, e, p⟩ := ih m hm q
        exact ⟨r, ρ3, mWhile_turn hc hb e, p⟩
      | ct =>
        obtain ⟨m, hm, q⟩ := q
        obtain ⟨r, ρ3, e, p⟩ := ih m hm q
        obtain ⟨k, hk⟩ := mWhile_some e
        refine ⟨r, ρ3, mWhile_of (n := k + 1) ?_, p⟩
        rw [whileN]
        refine bnd_of hc ?_
        rw [if_pos rfl]
        exact bnd_of hb hk
      | bk => exact ⟨_, _, mWhile_out hc hb (.inl rfl), q⟩
      | rt d => exact ⟨_, _, mWhile_out hc hb (.inr ⟨d, rfl⟩), q⟩
theorem W_comp {k : Kd} {vs : List Nat} {t : D → M Unit} {tst : M Bool} {elt : M D} {P : List D → Rho → Prop} {xs : List D} (I : Nat → List D → Rho → Prop) (h0 : I 0 [] ρ)
    (hs : ∀ i x acc ρ, xs[i]? = some x → I i acc ρ → W (compT k t tst elt x) (wipeR ρ vs) fun o ρ2 => I (i + 1) (acc ++ optL o) (restore ρ ρ2 vs)) (hd : ∀ acc ρ, I xs.length acc ρ → P acc ρ) : W (compM k vs t tst elt xs) ρ P := by
  have go : ∀ (m i : Nat) (acc : List D) (ρ : Rho), m = xs.length - i → i ≤ xs.length → I i acc ρ → W (compM k vs t tst elt (xs.drop i)) ρ fun ds ρ' => P (acc ++ ds) ρ' := by
    intro m
    induction m with
    | zero =>
      intro i acc ρ e hi h
      have : i = xs.length := by omega
      subst this
      rw [List.drop_length, compM, W_ret, List.append_nil]
      exact hd acc ρ h
    | succ m ih =>
      intro i acc ρ e hi h
      have hlt : i < xs.length := by omega
      rw [List.drop_eq_getElem_cons hlt, compM]
      obtain ⟨o, ρ2, h1, h2⟩ := hs i xs[i] acc ρ (by simp [hlt]) h
      obtain ⟨ds, ρ3, h3, h4⟩ := ih (i + 1) _ _ (by omega) hlt h2
      refine ⟨optL o ++ ds, ρ3, ?_, by dsimp only; rw [← List.append_assoc]; exact h4⟩
      dsimp only
      rw [h1]
      exact bnd_of h3 rfl
  have := go xs.length 0 [] ρ (by simp) (Nat.zero_le _) h0
  rw [List.drop_zero] at this
  simpa using this
/-- elements that leave the slots as they are -/
theorem W_compF {k : Kd} {vs : List Nat} {t : D → M Unit} {tst : M Bool} {elt : M D} {P : List D → Rho → Prop} {xs : List D} (f : D → Option D) (hs : ∀ x ∈ xs, W (compT k t tst elt x) (wipeR ρ vs) fun o ρ2 => o = f x ∧ restore ρ ρ2 vs = ρ) (hd : P (xs.filterMap f) ρ) :
    W (compM k vs t tst elt xs) ρ P := by
  induction xs generalizing P with
  | nil => exact W_ret.mpr hd
  | cons x xs ih =>
    obtain ⟨o, ρ2, h1, rfl, h2⟩ := hs x List.mem_cons_self
    have := ih (P := fun ds ρ' => P (optL (f x) ++ ds) ρ') (fun y hy => hs y (List.mem_cons_of_mem _ hy)) (by
      rw [List.filterMap_cons] at hd
      cases q : f x with
      | none => rw [q] at hd; exact hd
      | some d => rw [q] at hd; exact hd)
    obtain ⟨ds, ρ3, h3, h4⟩ := this
    refine ⟨optL (f x) ++ ds, ρ3, ?_, h4⟩
    rw [compM]
    dsimp only
    rw [h1]
    dsimp only
    rw [h2]
    exact bnd_of h3 rfl
@[simp] theorem W_eLc {k : Kd} {vs : List Nat} {it : M (List D)} {t : D → M Unit} {tst : M Bool} {elt : M D} {P : D → Rho → Prop} : W (eLc k vs it t tst elt) ρ P ↔ W it ρ fun xs ρ1 => xs.length ≤ 100000 ∧ W (compM k vs t tst elt xs) ρ1 fun ds ρ2 => P (.lst ds) ρ2 := by
  unfold eLc
  rw [W_bnd]
  have : ∀ xs ρ1, W (bnd (if xs.length ≤ 100000 then compM k vs t tst elt xs else fun _ => none) fun ds => ret (.lst ds)) ρ1 P ↔ xs.length ≤ 100000 ∧ W (compM k vs t tst elt xs) ρ1 fun ds ρ2 => P (.lst ds) ρ2 := fun xs ρ1 => by
    rw [W_bnd]
    by_cases h : xs.length ≤ 100000
    · rw [if_pos h]; simp [h]
    · rw [if_neg h]; simp [h]
  exact ⟨fun h => h.imp fun xs ρ1 q => (this xs ρ1).mp q, fun h => h.imp fun xs ρ1 q => (this xs ρ1).mpr q⟩
/-! ### a def -/
theorem W_run {κp : List Sl} {nl : Nat} {kr : Kd} {body : M Fl} {ds : List D} {P : D → List D → Prop} (h : W body (ds.map some ++ List.replicate nl none) fun f ρ' => match f with
    | .rt r => ∃ o, outs κp ds ρ' = some o ∧ P r o
    | .nx => kr.fl = true ∧ ∃ o, outs κp ds ρ' = some o ∧ P .non o
    | _ => False) : ∃ r o, runD κp nl kr body ds = some (r, o) ∧ P r o := by
  obtain ⟨f, ρ', e, q⟩ := h
  unfold runD
  rw [e]
  cases f with
  | rt r =>
    obtain ⟨o, h1, h2⟩ := q
    exact ⟨r, o, by dsimp only; rw [h1]; rfl, h2⟩
  | nx =>
    obtain ⟨hk, o, h1, h2⟩ := q
    exact ⟨.non, o, by dsimp only; rw [if_pos hk, h1]; rfl, h2⟩
  | bk => exact q.elim
  | ct => exact q.elim
theorem W_runE {κp : List Sl} {nl : Nat} {kr : Kd} {body : M Fl} {ds : List D} {r : D} {o : List D} (h : W body (ds.map some ++ List.replicate nl none) fun f ρ' => match f with
    | .rt r' => outs κp ds ρ' = some o ∧ r' = r
    | .nx => kr.fl = true ∧ outs κp ds ρ' = some o ∧ r = .non
    | _ => False) : runD κp nl kr body ds = some (r, o) := by
  obtain ⟨r', o', h1, rfl, rfl⟩ := W_run (P := fun r' o' => r' = r ∧ o' = o) (h.imp fun f ρ' q => by
    cases f with
    | rt r' => exact ⟨o, q.1, q.2, rfl⟩
    | nx => exact ⟨q.1, o, q.2.1, q.2.2.symm, rfl⟩
    | bk => exact q
    | ct => exact q)
  exact h1
end
end DL

set_option maxHeartbeats 4000000
/-! DLV: wishes, construct by construct; operators at written data. -/
namespace DL
open PySem PySem.Spec PyProof.Rows L2
section
variable {ρ : Rho} {P : D → Rho → Prop} {Pb : Bool → Rho → Prop} {Pl : List D → Rho → Prop} {Pf : Fl → Rho → Prop} {Po : Option Int → Rho → Prop} {a c e : M D} {ta tc : M Bool} {la lc : M (List D)} {k : Kd}
@[simp] theorem W_eOp1 {f : D → Option D} : W (eOp1 f a) ρ P ↔ W a ρ fun x ρ1 => ∃ z, f x = some z ∧ P z ρ1 := by simp [eOp1]
@[simp] theorem W_eOp2 {f : D → D → Option D} : W (eOp2 f a c) ρ P ↔ W a ρ fun x ρ1 => W c ρ1 fun y ρ2 => ∃ z, f x y = some z ∧ P z ρ2 := by simp [eOp2]
@[simp] theorem W_eSc : W (eSc a) ρ P ↔ W a ρ fun x ρ1 => (toV x).isSome = true ∧ P x ρ1 := by
  simp only [eSc, W_bnd, W_lft]
  constructor
  · intro h; refine h.imp fun d ρ1 ⟨x, e, p⟩ => ?_
    split at e
    · rename_i q; cases e; exact ⟨q, p⟩
    · cases e
  · intro h; exact h.imp fun d ρ1 ⟨q, p⟩ => ⟨d, if_pos q, p⟩
@[simp] theorem W_aNil : W aNil ρ Pl ↔ Pl [] ρ := by simp [aNil]
@[simp] theorem W_aCons : W (aCons a la) ρ Pl ↔ W a ρ fun x ρ1 => W la ρ1 fun xs ρ2 => Pl (x :: xs) ρ2 := by simp [aCons]
@[simp] theorem W_eTup : W (eTup la) ρ P ↔ W la ρ fun xs ρ1 => P (.tup xs) ρ1 := by simp [eTup]
@[simp] theorem mkL_iff {ds : List D} {d : D} : mkL k ds = some d ↔ ds.all (okK k) = true ∧ d = .lst ds := by
  unfold mkL
  split
  · rename_i h; simp [h, eq_comm]
  · rename_i h; simp [h]
@[simp] theorem W_eLst : W (eLst k la) ρ P ↔ W la ρ fun xs ρ1 => xs.all (okK k) = true ∧ P (.lst xs) ρ1 := by simp [eLst, -List.all_eq_true, and_assoc]
@[simp] theorem W_eCb {f : List D → Option D} : W (eCb f la) ρ P ↔ W la ρ fun xs ρ1 => ∃ z, f xs = some z ∧ P z ρ1 := by simp [eCb]
@[simp] theorem W_eCb1 {f : D → Option D} : W (eCb1 f a) ρ P ↔ W a ρ fun x ρ1 => ∃ z, f x = some z ∧ P z ρ1 := by simp [eCb1]
theorem W_ite {α : Type} {b : Bool} {m n : M α} {Q : α → Rho → Prop} : W (if b = true then m else n) ρ Q ↔ if b = true then W m ρ Q else W n ρ Q := by cases b <;> simp
@[simp] theorem W_eIfM : W (eIfM ta a c) ρ P ↔ W ta ρ fun b ρ1 => if b = true then W a ρ1 P else W c ρ1 P := by simp only [eIfM, W_bnd, W_ite]
@[simp] theorem W_tB1 : W (tB1 a) ρ Pb ↔ W a ρ fun d ρ1 => ∃ b, d = .bl b ∧ Pb b ρ1 := by
  simp only [tB1, W_bnd, W_lft]
  exact ⟨fun h => h.imp fun d ρ1 ⟨b, e, p⟩ => ⟨b, asB_some e, p⟩, fun h => h.imp fun d ρ1 ⟨b, e, p⟩ => ⟨b, by rw [e]; rfl, p⟩⟩
@[simp] theorem W_tTru : W (tTru a) ρ Pb ↔ W a ρ fun d ρ1 => ∃ b, truD d = some b ∧ Pb b ρ1 := by simp [tTru]
@[simp] theorem W_tAndM : W (tAndM ta tc) ρ Pb ↔ W ta ρ fun b ρ1 => if b = true then W tc ρ1 Pb else Pb false ρ1 := by simp only [tAndM, W_bnd, W_ite, W_ret]
@[simp] theorem W_tOrM : W (tOrM ta tc) ρ Pb ↔ W ta ρ fun b ρ1 => if b = true then Pb true ρ1 else W tc ρ1 Pb := by simp only [tOrM, W_bnd, W_ite, W_ret]
@[simp] theorem W_tNotM : W (tNotM ta) ρ Pb ↔ W ta ρ fun b ρ1 => Pb (!b) ρ1 := by simp [tNotM]
@[simp] theorem W_eAndM : W (eAndM a c) ρ P ↔ W a ρ fun d ρ1 => ∃ b, d = .bl b ∧ if b = true then W c ρ1 P else P (.bl false) ρ1 := by simp only [eAndM, W_bnd, W_ite, W_ret, W_tB1]
@[simp] theorem W_eOrM : W (eOrM a c) ρ P ↔ W a ρ fun d ρ1 => ∃ b, d = .bl b ∧ if b = true then P (.bl true) ρ1 else W c ρ1 P := by simp only [eOrM, W_bnd, W_ite, W_ret, W_tB1]
@[simp] theorem W_eNotM : W (eNotM a) ρ P ↔ W a ρ fun d ρ1 => ∃ b, d = .bl b ∧ P (.bl (!b)) ρ1 := by simp only [eNotM, W_bnd, W_ret, W_tB1]
@[simp] theorem asB_bl {b : Bool} : asB (.bl b) = some b := rfl
@[simp] theorem asB_iff {d : D} {b : Bool} : asB d = some b ↔ d = .bl b := ⟨asB_some, fun e => by rw [e]; rfl⟩
@[simp] theorem W_eChain {f f' : D → D → Option D} : W (eChain f f' a c e) ρ P ↔ W a ρ fun x ρ1 => W c ρ1 fun y ρ2 => ∃ b, f x y = some (.bl b) ∧ if b = true then W e ρ2 fun z ρ3 => ∃ w, f' y z = some w ∧ P w ρ3 else P (.bl false) ρ2 := by
  simp only [eChain, W_bnd, W_ite, W_ret, W_lft, Option.bind_eq_some_iff, asB_iff]
  constructor
  · intro h; exact h.imp fun x ρ1 q => q.imp fun y ρ2 ⟨b, ⟨d, h1, h2⟩, p⟩ => ⟨b, by rw [h1, h2], p⟩
  · intro h; exact h.imp fun x ρ1 q => q.imp fun y ρ2 ⟨b, h1, p⟩ => ⟨b, ⟨_, h1, rfl⟩, p⟩
@[simp] theorem W_eChain3 {f f' f2 : D → D → Option D} {h : M D} : W (eChain3 f f' f2 a c e h) ρ P ↔ W a ρ fun x ρ1 => W c ρ1 fun y ρ2 => ∃ b, f x y = some (.bl b) ∧ if b = true then W e ρ2 fun z ρ3 => ∃ b, f' y z = some (.bl b) ∧ (if b = true then W h ρ3 fun u ρ4 => ∃ w, f2 z u = some w ∧ P w ρ4 else P (.bl false) ρ3) else P (.bl false) ρ2 := by
  simp only [eChain3, W_bnd, W_ite, W_ret, W_lft, Option.bind_eq_some_iff, asB_iff]
  have key : ∀ {o : Option D} {Q : Bool → Prop}, (∃ b, (∃ d, o = some d ∧ d = .bl b) ∧ Q b) ↔ ∃ b, o = some (.bl b) ∧ Q b := fun {o Q} => ⟨fun ⟨b, ⟨d, h1, h2⟩, p⟩ => ⟨b, by rw [h1, h2], p⟩, fun ⟨b, h1, p⟩ => ⟨b, ⟨_, h1, rfl⟩, p⟩⟩
  simp only [key]
@[simp] theorem W_mSeq {m n : M Fl} : W (mSeq m n) ρ Pf ↔ W m ρ fun f ρ1 => match f with
    | .nx => W n ρ1 Pf
    | .bk => Pf .bk ρ1
    | .ct => Pf .ct ρ1
    | .rt d => Pf (.rt d) ρ1 := by
  simp only [mSeq, W_bnd]
  have : ∀ (f : Fl) ρ1, W (match f with | .nx => n | .bk => ret .bk | .ct => ret .ct | .rt d => ret (.rt d)) ρ1 Pf ↔ (match f with | .nx => W n ρ1 Pf | .bk => Pf .bk ρ1 | .ct => Pf .ct ρ1 | .rt d => Pf (.rt d) ρ1) := fun f ρ1 => by cases f <;> simp
  exact ⟨fun h => h.imp fun f ρ1 q => (this f ρ1).mp q, fun h => h.imp fun f ρ1 q => (this f ρ1).mpr q⟩
@[simp] theorem W_mAsg {t : D → M Unit} : W (mAsg a t) ρ Pf ↔ W a ρ fun d ρ1 => W (t d) ρ1 fun _ ρ2 => Pf .nx ρ2 := by simp [mAsg]
@[simp] theorem W_mRet : W (mRet a) ρ Pf ↔ W a ρ fun d ρ1 => Pf (.rt d) ρ1 := by simp [mRet]
@[simp] theorem W_mDrop : W (mDrop a) ρ Pf ↔ W a ρ fun _ ρ1 => Pf .nx ρ1 := by simp [mDrop]
@[simp] theorem W_mIf {m n : M Fl} : W (mIf ta m n) ρ Pf ↔ W ta ρ fun b ρ1 => if b = true then W m ρ1 Pf else W n ρ1 Pf := by simp only [mIf, W_bnd, W_ite]
@[simp] theorem W_mFor {t : D → M Unit} {m : M Fl} : W (mFor la t m) ρ Pf ↔ W la ρ fun xs ρ1 => W (forM t m xs) ρ1 Pf := by simp [mFor]
@[simp] theorem W_iR1 : W (iR1 la) ρ Pl ↔ W la ρ fun ds ρ1 => ∃ n : Int, ds = [.int n] ∧ -(2 ^ 62) ≤ n ∧ n < 2 ^ 62 ∧ Pl (rangeD 0 n.toNat) ρ1 := by
  simp only [iR1, W_bnd, W_lft]
  constructor
  · intro h; refine h.imp fun ds ρ1 ⟨xs, e, p⟩ => ?_
    split at e
    · split at e
      · rename_i hc; cases e; exact ⟨_, rfl, hc.1, hc.2, p⟩
      · cases e
    · cases e
  · intro h; refine h.imp fun ds ρ1 ⟨n, e, h1, h2, p⟩ => ⟨_, ?_, p⟩
    subst e; dsimp only; rw [if_pos ⟨h1, h2⟩]
@[simp] theorem W_iR2 : W (iR2 la) ρ Pl ↔ W la ρ fun ds ρ1 => ∃ lo n : Int, ds = [.int lo, .int n] ∧ -(2 ^ 62) ≤ lo ∧ lo < 2 ^ 62 ∧ -(2 ^ 62) ≤ n ∧ n < 2 ^ 62 ∧ Pl (rangeD lo (n - lo).toNat) ρ1 := by
  simp only [iR2, W_bnd, W_lft]
  constructor
  · intro h; refine h.imp fun ds ρ1 ⟨xs, e, p⟩ => ?_
    split at e
    · split at e
      · rename_i hc; cases e; exact ⟨_, _, rfl, hc.1, hc.2.1, hc.2.2.1, hc.2.2.2, p⟩
      · cases e
    · cases e
  · intro h; refine h.imp fun ds ρ1 ⟨lo, n, e, h1, h2, h3, h4, p⟩ => ⟨_, ?_, p⟩
    subst e; dsimp only; rw [if_pos ⟨h1, h2, h3, h4⟩]
@[simp] theorem W_iSeq : W (iSeq a) ρ Pl ↔ W a ρ fun d ρ1 => ∃ xs, itemsD d = some xs ∧ Pl xs ρ1 := by simp [iSeq]
@[simp] theorem W_iEnumM : W (iEnumM a) ρ Pl ↔ W a ρ fun d ρ1 => ∃ xs, d = .lst xs ∧ Pl (enumD 0 xs) ρ1 := by
  simp only [iEnumM, W_bnd, W_lft]
  constructor
  · intro h; refine h.imp fun d ρ1 ⟨xs, e, p⟩ => ?_
    cases d <;> simp [listD] at e
    exact ⟨_, rfl, by rw [e]; exact p⟩
  · intro h; refine h.imp fun d ρ1 ⟨xs, e, p⟩ => ⟨_, ?_, p⟩
    rw [e]; rfl
@[simp] theorem W_iZip : W (iZip' la) ρ Pl ↔ W la ρ fun ds ρ1 => ∃ xs, zipA ds = some xs ∧ Pl xs ρ1 := by simp [iZip']
@[simp] theorem zipA_ll {x y : List D} : zipA [.lst x, .lst y] = some (zipD x y) := rfl
@[simp] theorem zipA_lt {x y : List D} : zipA [.lst x, .tup y] = some (zipD x y) := rfl
@[simp] theorem zipA_tt {x y : List D} : zipA [.tup x, .tup y] = some (zipD x y) := rfl
@[simp] theorem W_eList : W (eList k a) ρ P ↔ W a ρ fun d ρ1 => ∃ xs, itemsD d = some xs ∧ xs.all (okK k) = true ∧ P (.lst xs) ρ1 := by
  simp only [eList, W_bnd, W_lft, Option.bind_eq_some_iff, mkL_iff]
  constructor
  · intro h; exact h.imp fun d ρ1 ⟨x, ⟨xs, h1, h2, h3⟩, p⟩ => ⟨xs, h1, h2, by rw [← h3]; exact p⟩
  · intro h; exact h.imp fun d ρ1 ⟨xs, h1, h2, p⟩ => ⟨_, ⟨xs, h1, h2, rfl⟩, p⟩
@[simp] theorem W_eListO : W (eListO a) ρ P ↔ W a ρ fun d ρ1 => ∃ xs, d = .lst xs ∧ P (.lst xs) ρ1 := by
  simp only [eListO, W_bnd, W_lft]
  constructor
  · intro h; refine h.imp fun d ρ1 ⟨x, e, p⟩ => ?_
    cases d <;> simp at e
    exact ⟨_, rfl, by rw [e]; exact p⟩
  · intro h; refine h.imp fun d ρ1 ⟨xs, e, p⟩ => ⟨_, ?_, p⟩
    rw [e]
@[simp] theorem W_eTuple : W (eTuple a) ρ P ↔ W a ρ fun d ρ1 => ∃ xs, itemsD d = some xs ∧ P (.tup xs) ρ1 := by
  simp only [eTuple, W_bnd, W_lft, Option.map_eq_some_iff]
  constructor
  · intro h; exact h.imp fun d ρ1 ⟨x, ⟨xs, h1, h3⟩, p⟩ => ⟨xs, h1, by rw [h3]; exact p⟩
  · intro h; exact h.imp fun d ρ1 ⟨xs, h1, p⟩ => ⟨_, ⟨xs, h1, rfl⟩, p⟩
@[simp] theorem W_eTupleO : W (eTupleO a) ρ P ↔ W a ρ fun d ρ1 => ∃ xs, d = .lst xs ∧ P (.tup xs) ρ1 := by
  simp only [eTupleO, W_bnd, W_lft]
  constructor
  · intro h; refine h.imp fun d ρ1 ⟨x, e, p⟩ => ?_
    cases d <;> simp at e
    exact ⟨_, rfl, by rw [e]; exact p⟩
  · intro h; refine h.imp fun d ρ1 ⟨xs, e, p⟩ => ⟨_, ?_, p⟩
    rw [e]
@[simp] theorem W_oNone : W oNone ρ Po ↔ Po none ρ := by simp [oNone]
@[simp] theorem W_oSome : W (oSome a) ρ Po ↔ W a ρ fun d ρ1 => ∃ i, d = .int i ∧ Po (some i) ρ1 := by
  simp only [oSome, W_bnd, W_lft, Option.map_eq_some_iff]
  constructor
  · intro h; refine h.imp fun d ρ1 ⟨x, ⟨i, e, e2⟩, p⟩ => ?_
    cases d <;> simp [asI] at e
    subst e; exact ⟨_, rfl, by rw [e2]; exact p⟩
  · intro h; refine h.imp fun d ρ1 ⟨i, e, p⟩ => ⟨_, ⟨i, ?_, rfl⟩, p⟩
    rw [e]; rfl
@[simp] theorem W_eSl {lo hi : M (Option Int)} : W (eSl k a lo hi) ρ P ↔ W a ρ fun d ρ1 => W lo ρ1 fun l ρ2 => W hi ρ2 fun h ρ3 => ∃ xs, d = .lst xs ∧ (cutD xs l h).all (okK k) = true ∧ P (.lst (cutD xs l h)) ρ3 := by
  simp only [eSl, W_bnd, W_lft, Option.bind_eq_some_iff, mkL_iff]
  have key : ∀ d l h ρ3, (∃ x, (∃ xs, listD d = some xs ∧ (cutD xs l h).all (okK k) = true ∧ x = .lst (cutD xs l h)) ∧ P x ρ3) ↔ ∃ xs, d = .lst xs ∧ (cutD xs l h).all (okK k) = true ∧ P (.lst (cutD xs l h)) ρ3 := fun d l h ρ3 => by
    constructor
    · rintro ⟨x, ⟨xs, e, h1, rfl⟩, p⟩
      cases d <;> simp [listD] at e
      subst e; exact ⟨_, rfl, h1, p⟩
    · rintro ⟨xs, rfl, h1, p⟩
      exact ⟨_, ⟨xs, rfl, h1, rfl⟩, p⟩
  simp only [key]
@[simp] theorem W_eSlO {lo hi : M (Option Int)} : W (eSlO a lo hi) ρ P ↔ W a ρ fun d ρ1 => W lo ρ1 fun l ρ2 => W hi ρ2 fun h ρ3 => ∃ xs, d = .lst xs ∧ P (.lst (cutD xs l h)) ρ3 := by
  simp only [eSlO, W_bnd, W_lft, Option.map_eq_some_iff]
  have key : ∀ d l h ρ3, (∃ x, (∃ xs, listD d = some xs ∧ D.lst (cutD xs l h) = x) ∧ P x ρ3) ↔ ∃ xs, d = .lst xs ∧ P (.lst (cutD xs l h)) ρ3 := fun d l h ρ3 => by
    constructor
    · rintro ⟨x, ⟨xs, e, rfl⟩, p⟩
      cases d <;> simp [listD] at e
      subst e; exact ⟨_, rfl, p⟩
    · rintro ⟨xs, rfl, p⟩
      exact ⟨_, ⟨xs, rfl, rfl⟩, p⟩
  simp only [key]
@[simp] theorem W_eIs {T : String} : W (eIs T a) ρ P ↔ W a ρ fun d ρ1 => ∃ t, tyD d = some t ∧ P (.bl (isTy t T)) ρ1 := by
  simp only [eIs, W_bnd, W_lft, Option.map_eq_some_iff]
  exact ⟨fun h => h.imp fun d ρ1 ⟨x, ⟨t, h1, h2⟩, p⟩ => ⟨t, h1, by rw [h2]; exact p⟩, fun h => h.imp fun d ρ1 ⟨t, h1, p⟩ => ⟨_, ⟨t, h1, rfl⟩, p⟩⟩
@[simp] theorem W_eIs2 {T U : String} : W (eIs2 T U a) ρ P ↔ W a ρ fun d ρ1 => ∃ t, tyD d = some t ∧ P (.bl (isTy t T || isTy t U)) ρ1 := by
  simp only [eIs2, W_bnd, W_lft, Option.map_eq_some_iff]
  exact ⟨fun h => h.imp fun d ρ1 ⟨x, ⟨t, h1, h2⟩, p⟩ => ⟨t, h1, by rw [h2]; exact p⟩, fun h => h.imp fun d ρ1 ⟨t, h1, p⟩ => ⟨_, ⟨t, h1, rfl⟩, p⟩⟩
@[simp] theorem W_compT {t : D → M Unit} {x : D} {Q : Option D → Rho → Prop} : W (compT k t ta a x) ρ Q ↔ W (t x) ρ fun _ ρ1 => W ta ρ1 fun b ρ2 => if b = true then W a ρ2 fun d ρ3 => okK k d = true ∧ Q (some d) ρ3 else Q none ρ2 := by
  have : ∀ d ρ3, (if okK k d = true then Q (some d) ρ3 else W (fun _ => none) ρ3 Q) ↔ okK k d = true ∧ Q (some d) ρ3 := fun d ρ3 => by
    by_cases h : okK k d = true
    · rw [if_pos h]; simp [h]
    · rw [if_neg h]; simp [h]
  unfold compT
  simp only [W_bnd, W_ite, W_ret]
  refine ⟨fun h => h.imp fun _ ρ1 q => q.imp fun b ρ2 q => ?_, fun h => h.imp fun _ ρ1 q => q.imp fun b ρ2 q => ?_⟩
  · cases b with
    | false => simpa using q
    | true => rw [if_pos rfl] at q ⊢; exact q.imp fun d ρ3 q => (this d ρ3).mp q
  · cases b with
    | false => simpa using q
    | true => rw [if_pos rfl] at q ⊢; exact q.imp fun d ρ3 q => (this d ρ3).mpr q
end
theorem W_seq {ρ : Rho} {Pf : Fl → Rho → Prop} {m n : M Fl} (I : Rho → Prop) (h : W m ρ fun f ρ1 => f = .nx ∧ I ρ1) (h2 : ∀ ρ1, I ρ1 → W n ρ1 Pf) : W (mSeq m n) ρ Pf := W_mSeq.mpr (h.imp fun f ρ1 ⟨e, i⟩ => by subst e; exact h2 ρ1 i)
theorem W_mForI {ρ R : Rho} {Pf : Fl → Rho → Prop} {la : M (List D)} {t : D → M Unit} {m : M Fl} {xs : List D} (h : W la ρ fun ys ρ1 => ys = xs ∧ ρ1 = R) (h2 : W (forM t m xs) R Pf) : W (mFor la t m) ρ Pf := W_mFor.mpr (h.imp fun ys ρ1 ⟨e1, e2⟩ => by subst e1 e2; exact h2)
/-! ### operators at data -/
section
variable {i j : Int}
@[simp] theorem dAdd_int : dAdd (.int i) (.int j) = some (.int (i + j)) := rfl
@[simp] theorem dSub_int : dSub (.int i) (.int j) = some (.int (i - j)) := rfl
@[simp] theorem dNeg_int : dNeg (.int i) = some (.int (-i)) := rfl
@[simp] theorem dLt_int : dLt (.int i) (.int j) = some (.bl (decide (i < j))) := rfl
@[simp] theorem dLe_int : dLe (.int i) (.int j) = some (.bl (decide (i ≤ j))) := rfl
@[simp] theorem dGt_int : dGt (.int i) (.int j) = some (.bl (decide (j < i))) := rfl
@[simp] theorem dGe_int : dGe (.int i) (.int j) = some (.bl (decide (j ≤ i))) := rfl
@[simp] theorem dMod_int {z : D} : dMod (.int i) (.int j) = some z ↔ 0 < j ∧ z = .int (i % j) := by
  show (if 0 < j then some (D.int (i % j)) else none) = some z ↔ _
  split <;> simp [*, eq_comm]
@[simp] theorem dDiv_int {z : D} : dDiv (.int i) (.int j) = some z ↔ (0 < j ∧ j < 1073741824) ∧ z = .int (i / j) := by
  show (if 0 < j ∧ j < 1073741824 then some (D.int (i / j)) else none) = some z ↔ _
  split
  · rename_i h; simp [h, eq_comm]
  · rename_i h; simp [h]
theorem dMul_int {z : D} : dMul (.int i) (.int j) = some z ↔ ((-(2 ^ 64) < i ∧ i < 2 ^ 64) ∨ (-(2 ^ 64) < j ∧ j < 2 ^ 64)) ∧ z = .int (i * j) := by
  show (if (-(2 ^ 64) < i ∧ i < 2 ^ 64) ∨ (-(2 ^ 64) < j ∧ j < 2 ^ 64) then some (D.int (i * j)) else none) = some z ↔ _
  split
  · rename_i h; exact ⟨fun e => ⟨h, (by cases e; rfl)⟩, fun e => (by rw [e.2])⟩
  · rename_i h; exact ⟨fun e => (by cases e), fun e => (h e.1).elim⟩
theorem dMul_r (h : -(2 ^ 64) < j ∧ j < 2 ^ 64) : dMul (.int i) (.int j) = some (.int (i * j)) := dMul_int.mpr ⟨.inr h, rfl⟩
@[simp] theorem dEq_int : dEq (.int i) (.int j) = some (.bl (decide (i = j))) := rfl
@[simp] theorem dNe_int : dNe (.int i) (.int j) = some (.bl (!decide (i = j))) := rfl
@[simp] theorem dIsN_non {d : D} : dIsN d .non = some (.bl (isNon d)) := rfl
@[simp] theorem dNotN_non {d : D} : dNotN d .non = some (.bl (!isNon d)) := rfl
@[simp] theorem isNon_non : isNon .non = true := rfl
@[simp] theorem isNon_int : isNon (.int i) = false := rfl
@[simp] theorem cLen_lst {ds : List D} : cLen (.lst ds) = some (.int ds.length) := rfl
@[simp] theorem cLen_tup {ds : List D} : cLen (.tup ds) = some (.int ds.length) := rfl
@[simp] theorem cLen_scr {ns : List Int} : cLen (.scr ns) = some (.int ns.length) := by simp [cLen, itemsD]
@[simp] theorem cInt_int : cInt (.int i) = some (.int i) := rfl
@[simp] theorem cMin2_int : cMin2 [.int i, .int j] = some (.int (if j < i then j else i)) := rfl
@[simp] theorem cMax2_int : cMax2 [.int i, .int j] = some (.int (if j > i then j else i)) := rfl
@[simp] theorem truD_bl {b : Bool} : truD (.bl b) = some b := rfl
@[simp] theorem truD_scr {ns : List Int} : truD (.scr ns) = some (!ns.isEmpty) := rfl
@[simp] theorem truD_lst {ns : List D} : truD (.lst ns) = some (!ns.isEmpty) := rfl
@[simp] theorem truD_int : truD (.int i) = some (i != 0) := rfl
@[simp] theorem dIx_lst {ds : List D} : dIx (.lst ds) (.int i) = atI ds i := rfl
@[simp] theorem dIx_tup {ds : List D} : dIx (.tup ds) (.int i) = atI ds i := rfl
@[simp] theorem dIxO_lst {ds : List D} : dIxO (.lst ds) (.int i) = atI ds i := rfl
@[simp] theorem dIx_scr {ns : List Int} : dIx (.scr ns) (.int i) = (atI ns i).map .int := rfl
@[simp] theorem ixD_int {n : Nat} : ixD n (.int i) = ixN n i := rfl
@[simp] theorem itemsD_lst {ds : List D} : itemsD (.lst ds) = some ds := rfl
@[simp] theorem itemsD_tup {ds : List D} : itemsD (.tup ds) = some ds := rfl
@[simp] theorem itemsD_scr {ns : List Int} : itemsD (.scr ns) = some (ns.map .int) := rfl
@[simp] theorem okK_im {d : D} : okK .im d = true := rfl
@[simp] theorem okK_int : okK .sc (.int i) = true := rfl
@[simp] theorem okK_bl {b : Bool} : okK .sc (.bl b) = true := rfl
@[simp] theorem okK_non : okK .sc .non = true := rfl
@[simp] theorem okK_str {s : Str} : okK .sc (.str s) = true := rfl
@[simp] theorem toV_int : (toV (.int i)).isSome = true := rfl
@[simp] theorem toV_bl {b : Bool} : (toV (.bl b)).isSome = true := rfl
@[simp] theorem toV_non : (toV .non).isSome = true := rfl
@[simp] theorem argsOk_nil : argsOk [] [] = true := rfl
@[simp] theorem argsOk_cons {s : Sl} {κ : List Sl} {d : D} {ds : List D} : argsOk (s :: κ) (d :: ds) = (!s.io && okK s.kd d && argsOk κ ds) := rfl
@[simp] theorem objNo_obj {c m : Str} {fs : List (Str × D)} : objNo c m (.obj c fs) = (fs.lookup m).isNone := by simp [objNo]
@[simp] theorem tyD_lst {ds : List D} : tyD (.lst ds) = some "list" := rfl
@[simp] theorem tyD_tup {ds : List D} : tyD (.tup ds) = some "tuple" := rfl
@[simp] theorem tyD_non : tyD .non = some "NoneType" := rfl
@[simp] theorem isNon_str {s : Str} : isNon (.str s) = false := rfl
@[simp] theorem isNon_lst {ds : List D} : isNon (.lst ds) = false := rfl
@[simp] theorem isNon_tup {ds : List D} : isNon (.tup ds) = false := rfl
@[simp] theorem isNon_bl {b : Bool} : isNon (.bl b) = false := rfl
@[simp] theorem tyD_int : tyD (.int i) = some "int" := rfl
@[simp] theorem tyD_str {s : Str} : tyD (.str s) = some "str" := rfl
@[simp] theorem tyD_bl {b : Bool} : tyD (.bl b) = some "bool" := rfl
theorem atI_nat {α : Type} {xs : List α} {n : Nat} {x : α} (h : xs[n]? = some x) : atI xs (n : Int) = some x := by
  have hl := (List.getElem?_eq_some_iff.mp h).1
  have : ixN xs.length (n : Int) = some n := by
    unfold ixN
    simp [hl]
  unfold atI
  rw [this]
  exact h
theorem atI_of {α : Type} {xs : List α} {i : Int} {x : α} (h0 : 0 ≤ i) (h : xs[i.toNat]? = some x) : atI xs i = some x := by
  have := atI_nat h
  rwa [Int.toNat_of_nonneg h0] at this
theorem ixN_nat {n m : Nat} (h : m < n) : ixN n (m : Int) = some m := by
  unfold ixN
  simp [h]
end
end DL

set_option maxHeartbeats 4000000
/-! DLU: data operators at lists of numbers. -/
namespace DL
open PySem PySem.Spec PyProof.Rows L2
@[simp] theorem dEq_bl {a b : Bool} : dEq (.bl a) (.bl b) = some (.bl (a == b)) := by cases a <;> cases b <;> rfl
@[simp] theorem dNe_bl {a b : Bool} : dNe (.bl a) (.bl b) = some (.bl (!(a == b))) := by cases a <;> cases b <;> rfl
theorem dEq_str {a b : Str} (ha : PyData.strOk a = true) (hb : PyData.strOk b = true) : dEq (.str a) (.str b) = some (.bl (a == b)) := by
  have h1 : SeqAt.shaped (.str a) = true := by simp [SeqAt.shaped, PyData.canLay0, PyData.depth, ha]
  have h2 : SeqAt.shaped (.str b) = true := by simp [SeqAt.shaped, PyData.canLay0, PyData.depth, hb]
  unfold dEq dEqB
  rw [toP, toP]
  show Option.map D.bl (if (SeqAt.shaped (.str a) && SeqAt.shaped (.str b)) = true then some (PyData.eqv (.str a) (.str b)) else none) = _
  rw [h1, h2, PyData.eqv]
  rfl
@[simp] theorem dEq_non : dEq .non .non = some (.bl true) := rfl
theorem intsD_map : ∀ ns : List Int, intsD (ns.map .int) = some ns
  | [] => rfl
  | n :: ns => by rw [List.map_cons, intsD, intsD_map]; rfl
@[simp] theorem cSum_ints {ns : List Int} : cSum (.lst (ns.map .int)) = some (.int ns.sum) := by
  show (intsD (ns.map .int)).map (fun ns => D.int ns.sum) = _
  rw [intsD_map]; rfl
theorem boolsD_map : ∀ ns : List Bool, bools (ns.map .bl) = some ns
  | [] => rfl
  | n :: ns => by rw [List.map_cons, bools, boolsD_map]; rfl
@[simp] theorem cAll_bools {ns : List Bool} : cAll (.lst (ns.map .bl)) = some (.bl (ns.all id)) := by
  show (bools (ns.map .bl)).map (fun ns => D.bl (ns.all id)) = _
  rw [boolsD_map]; rfl
theorem cMin_ints {ns : List Int} {m : Int} (h : leastI ns = some m) : cMin (.lst (ns.map .int)) = some (.int m) := by
  show (intsD (ns.map .int)).bind (fun ns => (leastI ns).map D.int) = _
  rw [intsD_map]
  show (leastI ns).map D.int = _
  rw [h]; rfl
theorem leastI_ex {ns : List Int} (h : ns ≠ []) : ∃ m, leastI ns = some m ∧ m ∈ ns ∧ ∀ n ∈ ns, m ≤ n := by
  cases ns with
  | nil => exact absurd rfl h
  | cons a ns =>
    have e : leastI (a :: ns) = some ((a :: ns).foldl min a) := rfl
    exact ⟨_, e, (leastI_spec e).2⟩
theorem toPs_ints : ∀ ns : List Int, toPs (ns.map .int) = some (ns.map PyData.int)
  | [] => by rw [List.map_nil, toPs]; rfl
  | n :: ns => by rw [List.map_cons, toPs, toP, toPs_ints]; rfl
theorem eqvAll_ints : ∀ xs ys : List Int, PyData.eqvAll (xs.map PyData.int) (ys.map PyData.int) = decide (xs = ys)
  | [], [] => by simp [PyData.eqvAll]
  | [], _ :: _ => by simp [PyData.eqvAll]
  | _ :: _, [] => by simp [PyData.eqvAll]
  | x :: xs, y :: ys => by
    rw [List.map_cons, List.map_cons, PyData.eqvAll, eqvAll_ints, PyData.eqv]
    by_cases h : x = y <;> by_cases h2 : xs = ys <;> simp [h, h2]
theorem lay_ints : ∀ ns : List Int, PyData.canLayAll0 (ns.map PyData.int) = true ∧ PyData.depthAll (ns.map PyData.int) = 0
  | [] => by simp [PyData.canLayAll0, PyData.depthAll]
  | n :: ns => by
    obtain ⟨h1, h2⟩ := lay_ints ns
    rw [List.map_cons, PyData.canLayAll0, PyData.depthAll, h1, h2]
    simp [PyData.canLay0, PyData.depth]
theorem shaped_ints (ns : List Int) : SeqAt.shaped (.list (ns.map PyData.int)) = true := by
  obtain ⟨h1, h2⟩ := lay_ints ns
  unfold SeqAt.shaped
  rw [PyData.canLay0, PyData.depth, h1, h2]
  rfl
theorem dEqB_ints {xs ys : List Int} : dEqB (.lst (xs.map .int)) (.lst (ys.map .int)) = some (decide (xs = ys)) := by
  unfold dEqB
  rw [toP, toP, toPs_ints, toPs_ints]
  show (if (SeqAt.shaped (.list (xs.map PyData.int)) && SeqAt.shaped (.list (ys.map PyData.int))) = true then some (PyData.eqv (.list (xs.map PyData.int)) (.list (ys.map PyData.int))) else none) = _
  rw [shaped_ints, shaped_ints, PyData.eqv, eqvAll_ints]
  rfl
@[simp] theorem dEq_ints {xs ys : List Int} : dEq (.lst (xs.map .int)) (.lst (ys.map .int)) = some (.bl (decide (xs = ys))) := by unfold dEq; rw [dEqB_ints]; rfl
@[simp] theorem dNe_ints {xs ys : List Int} : dNe (.lst (xs.map .int)) (.lst (ys.map .int)) = some (.bl (!decide (xs = ys))) := by unfold dNe; rw [dEqB_ints]; rfl
theorem cutD_to {α : Type} (xs : List α) (i : Nat) (h : i ≤ xs.length) : cutD xs none (some (i : Int)) = xs.take i := by
  unfold cutD
  rw [HT.sIx_none, HT.sIx_nat, Nat.min_eq_left h]
  simp
@[simp] theorem W_eAllS {ρ : Rho} {P : D → Rho → Prop} {pb : Nat → Bool} {m : M D} : W (eAllS pb m) ρ P ↔ W m ρ fun d ρ1 => ∃ s : Str, d = .str s ∧ P (.bl (s.cps.toList.all pb)) ρ1 := by
  simp only [eAllS, W_bnd, W_lft]
  constructor
  · intro h; refine h.imp fun d ρ1 ⟨x, e, p⟩ => ?_
    cases d <;> try (cases e)
    exact ⟨_, rfl, p⟩
  · intro h; refine h.imp fun d ρ1 ⟨xs, e, p⟩ => ⟨_, ?_, p⟩
    rw [e]
theorem getElem_range (n i : Nat) (f : Nat → D) (h : i < n) : ((List.range n).map f)[i]? = some (f i) := by simp [h]
end DL

set_option maxHeartbeats 4000000
/-! DL15: from a mirror to a law. -/
namespace DL
open PySem PySem.Spec PyProof.Rows L2
/-- a law's promise by its mirror -/
theorem law_sp {K : PySem.W.Frag} {g : Gx} {m : DF} {ns : List Int} {H : Hp} {a : Addr} {cs : List (Addr × Addr)} (htab : ∀ P, g.tab P → ∃ p ∈ cs, P = p.2) (hH : ∀ p ∈ cs, H p.2 = some (.tbl #[])) (hS : SqL K H a (ns.map V.int))
    (hm : ∃ o, m [.scr ns] = some (.bl true, o)) : spM K g [⟨.im, false⟩] .sc m [.ref a] H (fun v _ => v = .bl true) (fun _ _ _ => False) := by
  obtain ⟨o, hm⟩ := hm
  have t0 : Tabs g (noTab g H) H := fun P hP => by
    obtain ⟨p, hp, rfl⟩ := htab P hP
    exact ⟨⟨#[], hH p hp, by simp [TriplesOk]⟩, noTab_out hP⟩
  refine ⟨noTab g H, fun _ _ => False, [.scr ns], .bl true, o, rfl, ⟨⟨Ex.refl _, noTab_sub, fun _ _ z _ _ => z, fun _ _ _ => rfl, fun _ z => z, t0, fun _ _ _ _ => rfl, fun _ _ _ _ _ z => z, rfl⟩, fun _ _ => False, ⟨rfl, fun _ _ _ z => z.elim, fun _ _ z => z.elim, fun i s d x y => ?_⟩⟩, hm, fun v F' H' okn => ?_⟩
  · cases i with
    | zero =>
      cases x
      cases y
      refine ⟨_, rfl, ?_⟩
      exact Rep.move (noTab_move t0) (.scr hS)
    | succ i => simp at x
  · obtain ⟨_, _, _, hd, _⟩ := okn
    exact (Option.some.inj hd).symm
/-- a def under its name, by its body -/
theorem cal_mk {P : Program} {w : World} {K : PySem.W.Frag} {mg : Str → Option Value} {base : Heap} {g : Gx} {x : Str} {params : Arguments} {body : List Stmt} {scope : Scope} {f : Addr} {fd : FuncData} {N ps : List Str} {k : Nat} {κp κl : List Sl} {kr : Kd} {m : M Fl}
    (Fn : FunD K x x params body scope [] [] f fd) (hm : mg x = some (.ref f)) (S : FnScope N ps scope)
    (hb : ∀ (cdv : Value) (A : Around) (outer : List PySem.Env) (s : Shared) (H : Hp) (E : XK), Room k (A.deeper (envOfC x scope s.heap.objs.size f cdv)) → BX (cxOf CX0 P w K mg base N x scope f cdv A outer s H E).nox g (κp ++ κl) kr body m)
    (h : ∀ (kV doc pm : Value) (an : Option Addr) (cdv ct : Value) (us : List Value), us.length = ps.length → bindArgs (PySem.W.fnOf x x params body scope .none kV doc pm an cdv ct) ⟨us, []⟩ = pure (ps.zip us))
    (hN : N.length = κp.length + κl.length := by rfl) (hps : ps.length = κp.length := by rfl) (hfl : κp.all (fun s => s.io || s.kd.fl) = true := by rfl) (hkl : κl.all (fun s => !s.io) = true := by rfl) :
    Cal P w K mg base (k + 1) x (spM K g κp kr (runD κp κl.length kr m)) := ⟨f, fd, ps, fn_okM Fn S hN hps hfl hkl hb, hm, Fn.kp, Fn.bindsN h⟩
theorem met_mk {P : Program} {w : World} {K : PySem.W.Frag} {mg : Str → Option Value} {base : Heap} {g : Gx} {x q : Str} {params : Arguments} {body : List Stmt} {scope : Scope} {f C : Addr} {fd : FuncData} {N ps : List Str} {k : Nat} {κp κl : List Sl} {kr : Kd} {m : M Fl}
    (Fn : FunD K x q params body scope [] [] f fd) (hc : L2.Cls K C) (hm : Meth K C x f) (S : FnScope N ps scope)
    (hb : ∀ (cdv : Value) (A : Around) (outer : List PySem.Env) (s : Shared) (H : Hp) (E : XK), Room k (A.deeper (envOfC q scope s.heap.objs.size f cdv)) → BX (cxOf CX0 P w K mg base N q scope f cdv A outer s H E).nox g (κp ++ κl) kr body m)
    (h : ∀ (kV doc pm : Value) (an : Option Addr) (cdv ct : Value) (us : List Value), us.length = ps.length → bindArgs (PySem.W.fnOf x q params body scope .none kV doc pm an cdv ct) ⟨us, []⟩ = pure (ps.zip us))
    (hN : N.length = κp.length + κl.length := by rfl) (hps : ps.length = κp.length := by rfl) (hfl : κp.all (fun s => s.io || s.kd.fl) = true := by rfl) (hkl : κl.all (fun s => !s.io) = true := by rfl) :
    Met P w K mg base (k + 1) C x (spM K g κp kr (runD κp κl.length kr m)) := ⟨f, fd, ps, hc, hm, fn_okM Fn S hN hps hfl hkl hb, Fn.bindsN h⟩
theorem mak_mk {P : Program} {w : World} {K : PySem.W.Frag} {mg : Str → Option Value} {base : Heap} {g : Gx} {x q : Str} {params : Arguments} {body : List Stmt} {scope : Scope} {f C : Addr} {fd : FuncData} {N ps : List Str} {k : Nat} {κp κl : List Sl} {kr : Kd} {m : M Fl}
    (Fn : FunD K "__init__" q params body scope [] [] f fd) (M : Mk K C f) (hm : mg x = some (.ref C)) (S : FnScope N ps scope)
    (hb : ∀ (cdv : Value) (A : Around) (outer : List PySem.Env) (s : Shared) (H : Hp) (E : XK), Room k (A.deeper (envOfC q scope s.heap.objs.size f cdv)) → BX (cxOf CX0 P w K mg base N q scope f cdv A outer s H E).nox g (κp ++ κl) kr body m)
    (h : ∀ (kV doc pm : Value) (an : Option Addr) (cdv ct : Value) (us : List Value), us.length = ps.length → bindArgs (PySem.W.fnOf "__init__" q params body scope .none kV doc pm an cdv ct) ⟨us, []⟩ = pure (ps.zip us))
    (hN : N.length = κp.length + κl.length := by rfl) (hps : ps.length = κp.length := by rfl) (hfl : κp.all (fun s => s.io || s.kd.fl) = true := by rfl) (hkl : κl.all (fun s => !s.io) = true := by rfl) :
    Mak P w K mg base (k + 1) x C (spM K g κp kr (runD κp κl.length kr m)) := ⟨f, fd, ps, M, fn_okM Fn S hN hps hfl hkl hb, hm, Fn.bindsN h⟩
/-- .. with a code table -/
theorem cal_mkT {P : Program} {w : World} {K : PySem.W.Frag} {mg : Str → Option Value} {base : Heap} {g : Gx} {x : Str} {params : Arguments} {body : List Stmt} {scope : Scope} {fd : FuncData} {N ps : List Str} {k : Nat} {κp κl : List Sl} {kr : Kd} {m : M Fl} {p : Str × Option Str}
    (Fn : FunD K x x params body scope [] [] (He.fAd K p) fd) (hm : mg x = some (.ref (He.fAd K p))) (S : FnScope N ps scope)
    (hb : ∀ (cdv : Value) (A : Around) (outer : List PySem.Env) (s : Shared) (H : Hp) (E : XK), cdv = .ref (He.cT K p).1 → Room k (A.deeper (envOfC x scope s.heap.objs.size (He.fAd K p) cdv)) → BX (cxOf CX0 P w K mg base N x scope (He.fAd K p) cdv A outer s H E).nox g (κp ++ κl) kr body m)
    (h : ∀ (kV doc pm : Value) (an : Option Addr) (cdv ct : Value) (us : List Value), us.length = ps.length → bindArgs (PySem.W.fnOf x x params body scope .none kV doc pm an cdv ct) ⟨us, []⟩ = pure (ps.zip us))
    (hN : N.length = κp.length + κl.length := by rfl) (hps : ps.length = κp.length := by rfl) (hfl : κp.all (fun s => s.io || s.kd.fl) = true := by rfl) (hkl : κl.all (fun s => !s.io) = true := by rfl) :
    Cal P w K mg base (k + 1) x (spM K g κp kr (runD κp κl.length kr m)) := ⟨He.fAd K p, fd, ps, fn_okT Fn S hN hps hfl hkl fun cdv A outer s H E ⟨c, e1, e2⟩ hr => hb cdv A outer s H E (by rw [e1]; exact congrArg Value.ref (e2 p rfl).symm) hr, hm, Fn.kp, Fn.bindsN h⟩
end DL

set_option maxHeartbeats 0
namespace HT
open PySem PySem.Spec PyProof.Rows L2 DL
def top (i : Nat) : Stmt := PySem.Challenge.pw_pledgedwatts_k71_limits_and_loads.main.body.getD i (.Pass ⟨0, 0, 0, 0⟩)
def gx (K : PySem.W.Frag) : Gx := ⟨fun c => He.ga K c, fun P => P = (He.cT K ("is_name", none)).2⟩
structure Tx (K : PySem.W.Frag) (mg : Str → Option Value) : Prop where
  b_len : mg "len" = none
  b_range : mg "range" = none
  b_min : mg "min" = none
  b_max : mg "max" = none
  b_sum : mg "sum" = none
  b_all : mg "all" = none
  b_isinstance : mg "isinstance" = none
  b_int : mg "int" = none
  b_str : mg "str" = none
  b_bool : mg "bool" = none
  b_list : mg "list" = none
  b_tuple : mg "tuple" = none
  b_enumerate : mg "enumerate" = none
  b_zip : mg "zip" = none
  g_LAST_TICK : ∃ u, mg "LAST_TICK" = some u ∧ RelV (.int 96) u
  g_LETTERS : ∃ u, mg "LETTERS" = some u ∧ RelV (.str "abcdefghijklmnopqrstuvwxyz") u
  g_MOST_LIMIT : ∃ u, mg "MOST_LIMIT" = some u ∧ RelV (.int 999) u
  g_MOST_NODES : ∃ u, mg "MOST_NODES" = some u ∧ RelV (.int 24) u
  g_MOST_ORDERS : ∃ u, mg "MOST_ORDERS" = some u ∧ RelV (.int 12) u
  g_MOST_PLUGS : ∃ u, mg "MOST_PLUGS" = some u ∧ RelV (.int 16) u
  g_MOST_POWER : ∃ u, mg "MOST_POWER" = some u ∧ RelV (.int 99) u
  n_Site_nodes : NoAttr K ((gx K).cl "Site") "nodes"
  n_Site_orders : NoAttr K ((gx K).cl "Site") "orders"
  n_Site_plugs : NoAttr K ((gx K).cl "Site") "plugs"
  k_Site : L2.Cls K ((gx K).cl "Site")
def κp_require : List Sl := [⟨.im, false⟩, ⟨.im, false⟩, ⟨.im, false⟩, ⟨.im, false⟩]
def κr_require : List Sl := [⟨.im, false⟩, ⟨.im, false⟩, ⟨.im, false⟩]
def κl_require : List Sl := []
abbrev N_require : List Str := ["holds", "part", "rule", "index"]
def κp_is_name : List Sl := [⟨.im, false⟩]
def κr_is_name : List Sl := []
def κl_is_name : List Sl := []
abbrev N_is_name : List Str := ["text"]
def κp_check_nodes : List Sl := [⟨.im, false⟩]
def κr_check_nodes : List Sl := []
def κl_check_nodes : List Sl := [⟨.im, false⟩, ⟨.im, false⟩, ⟨.im, false⟩, ⟨.im, false⟩, ⟨.im, false⟩, ⟨.im, false⟩]
abbrev N_check_nodes : List Str := ["nodes", "names", "index", "name", "parent", "limit", "_"]
def κp_check_plugs : List Sl := [⟨.im, false⟩, ⟨.im, false⟩]
def κr_check_plugs : List Sl := [⟨.im, false⟩]
def κl_check_plugs : List Sl := [⟨.im, false⟩, ⟨.im, false⟩, ⟨.im, false⟩, ⟨.im, false⟩, ⟨.im, false⟩, ⟨.im, false⟩]
abbrev N_check_plugs : List Str := ["nodes", "plugs", "names", "index", "name", "node", "power", "_"]
def κp_check_orders : List Sl := [⟨.im, false⟩, ⟨.im, false⟩]
def κr_check_orders : List Sl := [⟨.im, false⟩]
def κl_check_orders : List Sl := [⟨.im, false⟩, ⟨.im, false⟩, ⟨.im, false⟩, ⟨.im, false⟩, ⟨.im, false⟩]
abbrev N_check_orders : List Str := ["nodes", "orders", "index", "node", "first", "last", "limit"]
def κp_check_site : List Sl := [⟨.im, false⟩, ⟨.im, false⟩, ⟨.im, false⟩]
def κr_check_site : List Sl := [⟨.im, false⟩, ⟨.im, false⟩]
def κl_check_site : List Sl := []
abbrev N_check_site : List Str := ["nodes", "plugs", "orders"]
def κp_Site_init : List Sl := [⟨(.ins "Site"), true⟩, ⟨.im, false⟩, ⟨.im, false⟩, ⟨.im, false⟩]
def κr_Site_init : List Sl := [⟨.im, false⟩, ⟨.im, false⟩, ⟨.im, false⟩]
def κl_Site_init : List Sl := []
abbrev N_Site_init : List Str := ["self", "nodes", "plugs", "orders"]
def κp_Site_parts : List Sl := [⟨.im, false⟩]
def κr_Site_parts : List Sl := []
def κl_Site_parts : List Sl := []
abbrev N_Site_parts : List Str := ["self"]
def κp_Site_limit : List Sl := [⟨.im, false⟩, ⟨.im, false⟩, ⟨.im, false⟩]
def κr_Site_limit : List Sl := [⟨.im, false⟩, ⟨.im, false⟩]
def κl_Site_limit : List Sl := [⟨.im, false⟩, ⟨.im, false⟩, ⟨.im, false⟩, ⟨.im, false⟩, ⟨.im, false⟩]
abbrev N_Site_limit : List Str := ["self", "node", "tick", "told", "place", "first", "last", "limit"]
def κp_Site_above : List Sl := [⟨.im, false⟩, ⟨.im, false⟩]
def κr_Site_above : List Sl := [⟨.im, false⟩]
def κl_Site_above : List Sl := [⟨(.lst .sc), false⟩]
abbrev N_Site_above : List Str := ["self", "node", "found"]
def κp_Site_loads : List Sl := [⟨.im, false⟩, ⟨.im, false⟩]
def κr_Site_loads : List Sl := [⟨.im, false⟩]
def κl_Site_loads : List Sl := [⟨(.lst .sc), false⟩, ⟨.im, false⟩, ⟨.im, false⟩, ⟨.im, false⟩, ⟨.im, false⟩]
abbrev N_Site_loads : List Str := ["self", "draws", "loads", "draw", "_", "place", "node"]
def κp_Site_excess : List Sl := [⟨.im, false⟩, ⟨.im, false⟩, ⟨.im, false⟩]
def κr_Site_excess : List Sl := [⟨.im, false⟩, ⟨.im, false⟩]
def κl_Site_excess : List Sl := [⟨.im, false⟩, ⟨.im, false⟩]
abbrev N_Site_excess : List Str := ["self", "tick", "draws", "node", "load"]
def κp_law_refill : List Sl := [⟨.im, false⟩, ⟨.im, false⟩]
def κr_law_refill : List Sl := [⟨.im, false⟩]
def κl_law_refill : List Sl := [⟨.im, false⟩]
abbrev N_law_refill : List Str := ["script", "k", "cell"]
def κp_law_draw : List Sl := [⟨(.lst .sc), true⟩, ⟨.im, false⟩, ⟨.im, false⟩]
def κr_law_draw : List Sl := [⟨.im, false⟩, ⟨.im, false⟩]
def κl_law_draw : List Sl := [⟨.im, false⟩]
abbrev N_law_draw : List Str := ["state", "script", "size", "digit"]
def κp_law_exact : List Sl := [⟨.im, false⟩, ⟨.im, false⟩]
def κr_law_exact : List Sl := [⟨.im, false⟩]
def κl_law_exact : List Sl := [⟨.im, false⟩, ⟨.im, false⟩]
abbrev N_law_exact : List Str := ["first", "second", "alike", "k"]
def κp_law_nodes : List Sl := [⟨(.lst .sc), true⟩, ⟨.im, false⟩]
def κr_law_nodes : List Sl := [⟨.im, false⟩]
def κl_law_nodes : List Sl := [⟨.im, false⟩, ⟨(.lst .im), false⟩, ⟨.im, false⟩, ⟨.im, false⟩]
abbrev N_law_nodes : List Str := ["state", "script", "count", "nodes", "k", "parent"]
def κp_law_orders : List Sl := [⟨(.lst .sc), true⟩, ⟨.im, false⟩, ⟨.im, false⟩]
def κr_law_orders : List Sl := [⟨.im, false⟩, ⟨.im, false⟩]
def κl_law_orders : List Sl := [⟨(.lst .im), false⟩, ⟨.im, false⟩, ⟨.im, false⟩, ⟨.im, false⟩, ⟨.im, false⟩, ⟨.im, false⟩]
abbrev N_law_orders : List Str := ["state", "script", "count", "orders", "favourite", "k", "first", "last", "node"]
def κp_law_load : List Sl := [⟨.im, false⟩, ⟨.im, false⟩, ⟨.im, false⟩, ⟨.im, false⟩]
def κr_law_load : List Sl := [⟨.im, false⟩, ⟨.im, false⟩, ⟨.im, false⟩]
def κl_law_load : List Sl := [⟨.im, false⟩, ⟨.im, false⟩]
abbrev N_law_load : List Str := ["nodes", "plugs", "draws", "node", "load", "k"]
def κp_law_limit : List Sl := [⟨.im, false⟩, ⟨.im, false⟩, ⟨.im, false⟩, ⟨.im, false⟩]
def κr_law_limit : List Sl := [⟨.im, false⟩, ⟨.im, false⟩, ⟨.im, false⟩]
def κl_law_limit : List Sl := [⟨.im, false⟩, ⟨.im, false⟩]
abbrev N_law_limit : List Str := ["nodes", "orders", "node", "tick", "k", "one"]
def κp_law_way : List Sl := [⟨.im, false⟩, ⟨.im, false⟩]
def κr_law_way : List Sl := [⟨.im, false⟩]
def κl_law_way : List Sl := []
abbrev N_law_way : List Str := ["nodes", "node"]
def κp_law : List Sl := [⟨.im, false⟩]
def κr_law : List Sl := []
def κl_law : List Sl := [⟨(.lst .sc), false⟩, ⟨.im, false⟩, ⟨.im, false⟩, ⟨(.lst .im), false⟩, ⟨.im, false⟩, ⟨.im, false⟩, ⟨.im, false⟩, ⟨.im, false⟩, ⟨.im, false⟩, ⟨.im, false⟩, ⟨(.lst .sc), false⟩, ⟨.im, false⟩, ⟨.im, false⟩, ⟨.im, false⟩, ⟨.im, false⟩, ⟨.im, false⟩, ⟨(.lst .sc), false⟩, ⟨.im, false⟩]
abbrev N_law : List Str := ["script", "state", "nodes", "orders", "plugs", "k", "draws", "site", "ticks", "loads", "given", "told", "tick", "node", "limits", "over", "least", "way", "one"]

noncomputable def mb_require  : M Fl :=
  (mIf (tNotM (tTru (eVar 0))) (fun _ => none) (ret .nx))
theorem sc_require : FnScope N_require ["holds", "part", "rule", "index"] (defScope (top 13)) := ⟨rfl, rfl, rfl, by decide +kernel, rfl, by decide +kernel, by decide +kernel⟩
theorem bx_require {P : Program} {w : World} {K : PySem.W.Frag} {mg : Str → Option Value} {base : Heap} {f : Addr} {fd : FuncData} {n : Nat}  (T : Tx K mg) (cdv : Value) (A : Around) (outer : List PySem.Env) (s : Shared) (H : Hp) (E : XK) (hr : Room (0) (A.deeper (envOfC "require" (defScope (top 13)) s.heap.objs.size f cdv))) : BX (cxOf CX0 P w K mg base N_require "require" (defScope (top 13)) f cdv A outer s H E).nox (gx K) (κp_require ++ κl_require) .sc (defBody (top 13)) (mb_require ) := by
  have nd := sc_require.nd
  have hu := hr.units
  exact (bx_one (sx_if (tx_not (tx_truth (ex_var (s := ⟨.im, false⟩) (pv 0) rfl))) (bx_one sx_never) bx_nil))
noncomputable def mb_is_name  : M Fl :=
  (mRet (eAndM (eChain dLe dLe (eC (.int 1)) (eCb1 cLen (eVar 0)) (eC (.int 8))) (eAndM (eOp2 dInS (eOp2 dIx (eVar 0) (eC (.int 0))) (eC (.str "abcdefghijklmnopqrstuvwxyz"))) (eAllS (fun c => decide (c ∈ ("abcdefghijklmnopqrstuvwxyz0123456789" : Str).cps.toList)) (eVar 0)))))
theorem sc_is_name : FnScope N_is_name ["text"] (defScope (top 14)) := ⟨rfl, rfl, rfl, by decide +kernel, rfl, by decide +kernel, by decide +kernel⟩
theorem bx_is_name {P : Program} {w : World} {K : PySem.W.Frag} {mg : Str → Option Value} {base : Heap} {f : Addr} {fd : FuncData} {n : Nat}  (T : Tx K mg) (TB : GxR.TabB base mg (He.cT K ("is_name", none)).1 (He.cT K ("is_name", none)).2) (hns : base.Ns mainGlobals mg) {tS : Tok} (hS : mg "SIGNS" = some (.str "abcdefghijklmnopqrstuvwxyz0123456789" tS)) (cdv : Value) (A : Around) (outer : List PySem.Env) (s : Shared) (H : Hp) (E : XK) (hcd : cdv = .ref (He.cT K ("is_name", none)).1) (hr : Room (0) (A.deeper (envOfC "is_name" (defScope (top 14)) s.heap.objs.size f cdv))) : BX (cxOf CX0 P w K mg base N_is_name "is_name" (defScope (top 14)) f cdv A outer s H E).nox (gx K) (κp_is_name ++ κl_is_name) .sc (defBody (top 14)) (mb_is_name ) := by
  have nd := sc_is_name.nd
  have hu := hr.units
  exact (bx_one (sx_ret (n_of_ex (ex_and (ex_chain co_le co_le ex_int (ex_cb1 (fun h => pe_callB call_len rfl T.b_len rfl h) sc_len (ex_var (s := ⟨.im, false⟩) (pv 0) rfl)) ex_int) (ex_and (ex_cmpC co_inS (ex_ix (ex_var (s := ⟨.im, false⟩) (pv 0) rfl) ex_int) (ex_gl T.g_LETTERS) (by with_unfolding_all rfl)) (ex_one (ex_allS (DLG.pe_allG hr rfl T.b_all rfl TB hcd ⟨rfl, rfl, by decide +kernel, rfl, rfl, fun y hy h => absurd h ((by decide +kernel : ∀ y ∈ (Scope.names _), y.2 ≠ NameKind.free) y hy)⟩ (ex_var (κ := κp_is_name ++ κl_is_name) (s := ⟨.im, false⟩) (pv 0) rfl) (DLG.elt_in rfl rfl rfl hns hS) (fun _ => rfl)) rfl rfl)))) rfl)))
noncomputable def mb_check_nodes (c_require : DF) (c_is_name : DF) : M Fl :=
  (mSeq (mDrop (eCall κp_require c_require (aCons (eChain dLe dLe (eC (.int 1)) (eCb1 cLen (eVar 0)) (eC (.int 24))) (aCons (eC (.str "node")) (aCons (eC (.str "count")) (aCons (eCb1 cLen (eVar 0)) aNil))))))
  (mSeq (mAsgN 1 (eLc .im [3, 6] (iSeq (eVar 0)) (mgTup 3 (mgCons (setV 3 .im) (mgCons (setV 6 .im) (mgCons (setV 6 .im) mgNil)))) (ret true) (eVar 3)))
  (mFor (iEnumM (eVar 0)) (mgTup 2 (mgCons (setV 2 .im) (mgCons (mgTup 3 (mgCons (setV 3 .im) (mgCons (setV 4 .im) (mgCons (setV 5 .im) mgNil)))) mgNil))) (mSeq (mDrop (eCall κp_require c_require (aCons (eCall κp_is_name c_is_name (aCons (eVar 3) aNil)) (aCons (eC (.str "node")) (aCons (eC (.str "name")) (aCons (eVar 2) aNil))))))
  (mSeq (mDrop (eCall κp_require c_require (aCons (eOp2 dNotIn (eVar 3) (eSl .im (eVar 1) oNone (oSome (eVar 2)))) (aCons (eC (.str "node")) (aCons (eC (.str "twice")) (aCons (eVar 2) aNil))))))
  (mSeq (mDrop (eCall κp_require c_require (aCons (eIfM (tB1 (eOp2 dEq (eVar 2) (eC (.int 0)))) (eOp2 dEq (eVar 4) (eOp1 dNeg (eC (.int 1)))) (eChain dLe dLt (eC (.int 0)) (eVar 4) (eVar 2))) (aCons (eC (.str "node")) (aCons (eC (.str "parent")) (aCons (eVar 2) aNil))))))
  (mDrop (eCall κp_require c_require (aCons (eChain dLe dLe (eC (.int 0)) (eVar 5) (eC (.int 999))) (aCons (eC (.str "node")) (aCons (eC (.str "limit")) (aCons (eVar 2) aNil))))))))))))
theorem sc_check_nodes : FnScope N_check_nodes ["nodes"] (defScope (top 15)) := ⟨rfl, rfl, rfl, by decide +kernel, rfl, by decide +kernel, by decide +kernel⟩
theorem bx_check_nodes {P : Program} {w : World} {K : PySem.W.Frag} {mg : Str → Option Value} {base : Heap} {f : Addr} {fd : FuncData} {n : Nat} {c_require : DF} {c_is_name : DF} (T : Tx K mg) (C_require : Cal P w K mg base 1 "require" (spM K (gx K) κp_require .sc c_require)) (C_is_name : Cal P w K mg base 1 "is_name" (spM K (gx K) κp_is_name .sc c_is_name)) (cdv : Value) (A : Around) (outer : List PySem.Env) (s : Shared) (H : Hp) (E : XK) (hr : Room (1) (A.deeper (envOfC "check_nodes" (defScope (top 15)) s.heap.objs.size f cdv))) : BX (cxOf CX0 P w K mg base N_check_nodes "check_nodes" (defScope (top 15)) f cdv A outer s H E).nox (gx K) (κp_check_nodes ++ κl_check_nodes) .sc (defBody (top 15)) (mb_check_nodes c_require c_is_name) := by
  have nd := sc_check_nodes.nd
  have hu := hr.units
  exact (bx_cons (sx_expr (ex_of_n (nx_c (ax_cons (ex_chain co_le co_le ex_int (ex_cb1 (fun h => pe_callB call_len rfl T.b_len rfl h) sc_len (ex_var (s := ⟨.im, false⟩) (pv 0) rfl)) (ex_gl T.g_MOST_NODES)) (ax_cons ex_str (ax_cons ex_str (ax_cons (ex_cb1 (fun h => pe_callB call_len rfl T.b_len rfl h) sc_len (ex_var (s := ⟨.im, false⟩) (pv 0) rfl)) ax_nil)))) C_require hr (by omega))))
  (bx_cons (sx_setLc (s := ⟨.im, false⟩) (ps_setLc (i := 1) (own := [("name", 3), ("_", 6)]) rfl nd rfl rfl (sw_true rfl rfl rfl (by kernel_rfl)) (ix_seq' (ex_var (s := ⟨.im, false⟩) (pv 0) rfl)) (blkOk_by (by kernel_rfl)) (fun _ _ _ _ _ => (gx_tup (pg_tup rfl (gs_cons (pgs_cons (gx_name (s := ⟨.im, false⟩) (pg_name (i := 3) nd rfl (by first | exact Or.inl rfl | exact Or.inr rfl)) rfl rfl) (gs_cons (pgs_cons (gx_name (s := ⟨.im, false⟩) (pg_name (i := 6) nd rfl (by first | exact Or.inl rfl | exact Or.inr rfl)) rfl rfl) (gs_cons (pgs_cons (gx_name (s := ⟨.im, false⟩) (pg_name (i := 6) nd rfl (by first | exact Or.inl rfl | exact Or.inr rfl)) rfl rfl) gs_nil))))))))) (fun _ _ _ _ _ => px_nil) (fun _ _ _ _ _ => (ex_var (s := ⟨.im, false⟩) (pv 3) rfl))) rfl rfl rfl)
  (bx_one (sx_for (ps_for PassesOwn.never rfl (ix_enum (ex_var (s := ⟨.im, false⟩) (pv 0) rfl) T.b_enumerate) (gx_tup (pg_tup rfl (gs_cons (pgs_cons (gx_name (s := ⟨.im, false⟩) (pg_name (i := 2) nd rfl (by first | exact Or.inl rfl | exact Or.inr rfl)) rfl rfl) (gs_cons (pgs_cons (gx_tup (pg_tup rfl (gs_cons (pgs_cons (gx_name (s := ⟨.im, false⟩) (pg_name (i := 3) nd rfl (by first | exact Or.inl rfl | exact Or.inr rfl)) rfl rfl) (gs_cons (pgs_cons (gx_name (s := ⟨.im, false⟩) (pg_name (i := 4) nd rfl (by first | exact Or.inl rfl | exact Or.inr rfl)) rfl rfl) (gs_cons (pgs_cons (gx_name (s := ⟨.im, false⟩) (pg_name (i := 5) nd rfl (by first | exact Or.inl rfl | exact Or.inr rfl)) rfl rfl) gs_nil)))))))) gs_nil)))))) (bx_cons (sx_expr (ex_of_n (nx_c (ax_cons (ex_of_n (nx_c (ax_cons (ex_var (s := ⟨.im, false⟩) (pv 3) rfl) ax_nil) C_is_name hr (by omega))) (ax_cons ex_str (ax_cons ex_str (ax_cons (ex_var (s := ⟨.im, false⟩) (pv 2) rfl) ax_nil)))) C_require hr (by omega))))
  (bx_cons (sx_expr (ex_of_n (nx_c (ax_cons (ex_cmpC co_nin (ex_var (s := ⟨.im, false⟩) (pv 3) rfl) (ex_of_n (nx_sl .im (ex_var (s := ⟨.im, false⟩) (pv 1) rfl) ox_none (ox_some (ex_var (s := ⟨.im, false⟩) (pv 2) rfl)))) (by with_unfolding_all rfl)) (ax_cons ex_str (ax_cons ex_str (ax_cons (ex_var (s := ⟨.im, false⟩) (pv 2) rfl) ax_nil)))) C_require hr (by omega))))
  (bx_cons (sx_expr (ex_of_n (nx_c (ax_cons (ex_if (tx_cmpC (co_eq hu) (ex_var (s := ⟨.im, false⟩) (pv 2) rfl) ex_int) (ex_im (ex_cmpC (co_eq hu) (ex_var (s := ⟨.im, false⟩) (pv 4) rfl) (ex_neg ex_int)) rfl) (ex_im (ex_chain co_le co_lt ex_int (ex_var (s := ⟨.im, false⟩) (pv 4) rfl) (ex_var (s := ⟨.im, false⟩) (pv 2) rfl)) rfl)) (ax_cons ex_str (ax_cons ex_str (ax_cons (ex_var (s := ⟨.im, false⟩) (pv 2) rfl) ax_nil)))) C_require hr (by omega))))
  (bx_one (sx_expr (ex_of_n (nx_c (ax_cons (ex_chain co_le co_le ex_int (ex_var (s := ⟨.im, false⟩) (pv 5) rfl) (ex_gl T.g_MOST_LIMIT)) (ax_cons ex_str (ax_cons ex_str (ax_cons (ex_var (s := ⟨.im, false⟩) (pv 2) rfl) ax_nil)))) C_require hr (by omega)))))))))))))
noncomputable def mb_check_plugs (c_require : DF) (c_is_name : DF) : M Fl :=
  (mSeq (mDrop (eCall κp_require c_require (aCons (eChain dLe dLe (eC (.int 1)) (eCb1 cLen (eVar 1)) (eC (.int 16))) (aCons (eC (.str "plug")) (aCons (eC (.str "count")) (aCons (eCb1 cLen (eVar 1)) aNil))))))
  (mSeq (mAsgN 2 (eLc .im [4, 7] (iSeq (eVar 1)) (mgTup 3 (mgCons (setV 4 .im) (mgCons (setV 7 .im) (mgCons (setV 7 .im) mgNil)))) (ret true) (eVar 4)))
  (mFor (iEnumM (eVar 1)) (mgTup 2 (mgCons (setV 3 .im) (mgCons (mgTup 3 (mgCons (setV 4 .im) (mgCons (setV 5 .im) (mgCons (setV 6 .im) mgNil)))) mgNil))) (mSeq (mDrop (eCall κp_require c_require (aCons (eCall κp_is_name c_is_name (aCons (eVar 4) aNil)) (aCons (eC (.str "plug")) (aCons (eC (.str "name")) (aCons (eVar 3) aNil))))))
  (mSeq (mDrop (eCall κp_require c_require (aCons (eOp2 dNotIn (eVar 4) (eSl .im (eVar 2) oNone (oSome (eVar 3)))) (aCons (eC (.str "plug")) (aCons (eC (.str "twice")) (aCons (eVar 3) aNil))))))
  (mSeq (mDrop (eCall κp_require c_require (aCons (eChain dLe dLt (eC (.int 0)) (eVar 5) (eCb1 cLen (eVar 0))) (aCons (eC (.str "plug")) (aCons (eC (.str "node")) (aCons (eVar 3) aNil))))))
  (mDrop (eCall κp_require c_require (aCons (eChain dLe dLe (eC (.int 1)) (eVar 6) (eC (.int 99))) (aCons (eC (.str "plug")) (aCons (eC (.str "power")) (aCons (eVar 3) aNil))))))))))))
theorem sc_check_plugs : FnScope N_check_plugs ["nodes", "plugs"] (defScope (top 16)) := ⟨rfl, rfl, rfl, by decide +kernel, rfl, by decide +kernel, by decide +kernel⟩
theorem bx_check_plugs {P : Program} {w : World} {K : PySem.W.Frag} {mg : Str → Option Value} {base : Heap} {f : Addr} {fd : FuncData} {n : Nat} {c_require : DF} {c_is_name : DF} (T : Tx K mg) (C_require : Cal P w K mg base 1 "require" (spM K (gx K) κp_require .sc c_require)) (C_is_name : Cal P w K mg base 1 "is_name" (spM K (gx K) κp_is_name .sc c_is_name)) (cdv : Value) (A : Around) (outer : List PySem.Env) (s : Shared) (H : Hp) (E : XK) (hr : Room (1) (A.deeper (envOfC "check_plugs" (defScope (top 16)) s.heap.objs.size f cdv))) : BX (cxOf CX0 P w K mg base N_check_plugs "check_plugs" (defScope (top 16)) f cdv A outer s H E).nox (gx K) (κp_check_plugs ++ κl_check_plugs) .sc (defBody (top 16)) (mb_check_plugs c_require c_is_name) := by
  have nd := sc_check_plugs.nd
  have hu := hr.units
  exact (bx_cons (sx_expr (ex_of_n (nx_c (ax_cons (ex_chain co_le co_le ex_int (ex_cb1 (fun h => pe_callB call_len rfl T.b_len rfl h) sc_len (ex_var (s := ⟨.im, false⟩) (pv 1) rfl)) (ex_gl T.g_MOST_PLUGS)) (ax_cons ex_str (ax_cons ex_str (ax_cons (ex_cb1 (fun h => pe_callB call_len rfl T.b_len rfl h) sc_len (ex_var (s := ⟨.im, false⟩) (pv 1) rfl)) ax_nil)))) C_require hr (by omega))))
  (bx_cons (sx_setLc (s := ⟨.im, false⟩) (ps_setLc (i := 2) (own := [("name", 4), ("_", 7)]) rfl nd rfl rfl (sw_true rfl rfl rfl (by kernel_rfl)) (ix_seq' (ex_var (s := ⟨.im, false⟩) (pv 1) rfl)) (blkOk_by (by kernel_rfl)) (fun _ _ _ _ _ => (gx_tup (pg_tup rfl (gs_cons (pgs_cons (gx_name (s := ⟨.im, false⟩) (pg_name (i := 4) nd rfl (by first | exact Or.inl rfl | exact Or.inr rfl)) rfl rfl) (gs_cons (pgs_cons (gx_name (s := ⟨.im, false⟩) (pg_name (i := 7) nd rfl (by first | exact Or.inl rfl | exact Or.inr rfl)) rfl rfl) (gs_cons (pgs_cons (gx_name (s := ⟨.im, false⟩) (pg_name (i := 7) nd rfl (by first | exact Or.inl rfl | exact Or.inr rfl)) rfl rfl) gs_nil))))))))) (fun _ _ _ _ _ => px_nil) (fun _ _ _ _ _ => (ex_var (s := ⟨.im, false⟩) (pv 4) rfl))) rfl rfl rfl)
  (bx_one (sx_for (ps_for PassesOwn.never rfl (ix_enum (ex_var (s := ⟨.im, false⟩) (pv 1) rfl) T.b_enumerate) (gx_tup (pg_tup rfl (gs_cons (pgs_cons (gx_name (s := ⟨.im, false⟩) (pg_name (i := 3) nd rfl (by first | exact Or.inl rfl | exact Or.inr rfl)) rfl rfl) (gs_cons (pgs_cons (gx_tup (pg_tup rfl (gs_cons (pgs_cons (gx_name (s := ⟨.im, false⟩) (pg_name (i := 4) nd rfl (by first | exact Or.inl rfl | exact Or.inr rfl)) rfl rfl) (gs_cons (pgs_cons (gx_name (s := ⟨.im, false⟩) (pg_name (i := 5) nd rfl (by first | exact Or.inl rfl | exact Or.inr rfl)) rfl rfl) (gs_cons (pgs_cons (gx_name (s := ⟨.im, false⟩) (pg_name (i := 6) nd rfl (by first | exact Or.inl rfl | exact Or.inr rfl)) rfl rfl) gs_nil)))))))) gs_nil)))))) (bx_cons (sx_expr (ex_of_n (nx_c (ax_cons (ex_of_n (nx_c (ax_cons (ex_var (s := ⟨.im, false⟩) (pv 4) rfl) ax_nil) C_is_name hr (by omega))) (ax_cons ex_str (ax_cons ex_str (ax_cons (ex_var (s := ⟨.im, false⟩) (pv 3) rfl) ax_nil)))) C_require hr (by omega))))
  (bx_cons (sx_expr (ex_of_n (nx_c (ax_cons (ex_cmpC co_nin (ex_var (s := ⟨.im, false⟩) (pv 4) rfl) (ex_of_n (nx_sl .im (ex_var (s := ⟨.im, false⟩) (pv 2) rfl) ox_none (ox_some (ex_var (s := ⟨.im, false⟩) (pv 3) rfl)))) (by with_unfolding_all rfl)) (ax_cons ex_str (ax_cons ex_str (ax_cons (ex_var (s := ⟨.im, false⟩) (pv 3) rfl) ax_nil)))) C_require hr (by omega))))
  (bx_cons (sx_expr (ex_of_n (nx_c (ax_cons (ex_chain co_le co_lt ex_int (ex_var (s := ⟨.im, false⟩) (pv 5) rfl) (ex_cb1 (fun h => pe_callB call_len rfl T.b_len rfl h) sc_len (ex_var (s := ⟨.im, false⟩) (pv 0) rfl))) (ax_cons ex_str (ax_cons ex_str (ax_cons (ex_var (s := ⟨.im, false⟩) (pv 3) rfl) ax_nil)))) C_require hr (by omega))))
  (bx_one (sx_expr (ex_of_n (nx_c (ax_cons (ex_chain co_le co_le ex_int (ex_var (s := ⟨.im, false⟩) (pv 6) rfl) (ex_gl T.g_MOST_POWER)) (ax_cons ex_str (ax_cons ex_str (ax_cons (ex_var (s := ⟨.im, false⟩) (pv 3) rfl) ax_nil)))) C_require hr (by omega)))))))))))))
noncomputable def mb_check_orders (c_require : DF) : M Fl :=
  (mSeq (mDrop (eCall κp_require c_require (aCons (eOp2 dLe (eCb1 cLen (eVar 1)) (eC (.int 12))) (aCons (eC (.str "order")) (aCons (eC (.str "count")) (aCons (eCb1 cLen (eVar 1)) aNil))))))
  (mFor (iEnumM (eVar 1)) (mgTup 2 (mgCons (setV 2 .im) (mgCons (mgTup 4 (mgCons (setV 3 .im) (mgCons (setV 4 .im) (mgCons (setV 5 .im) (mgCons (setV 6 .im) mgNil))))) mgNil))) (mSeq (mDrop (eCall κp_require c_require (aCons (eChain dLe dLt (eC (.int 0)) (eVar 3) (eCb1 cLen (eVar 0))) (aCons (eC (.str "order")) (aCons (eC (.str "node")) (aCons (eVar 2) aNil))))))
  (mSeq (mDrop (eCall κp_require c_require (aCons (eChain3 dLe dLt dLe (eC (.int 0)) (eVar 4) (eVar 5) (eC (.int 96)) ) (aCons (eC (.str "order")) (aCons (eC (.str "ticks")) (aCons (eVar 2) aNil))))))
  (mDrop (eCall κp_require c_require (aCons (eChain dLe dLe (eC (.int 0)) (eVar 6) (eC (.int 999))) (aCons (eC (.str "order")) (aCons (eC (.str "limit")) (aCons (eVar 2) aNil))))))))))
theorem sc_check_orders : FnScope N_check_orders ["nodes", "orders"] (defScope (top 17)) := ⟨rfl, rfl, rfl, by decide +kernel, rfl, by decide +kernel, by decide +kernel⟩
theorem bx_check_orders {P : Program} {w : World} {K : PySem.W.Frag} {mg : Str → Option Value} {base : Heap} {f : Addr} {fd : FuncData} {n : Nat} {c_require : DF} (T : Tx K mg) (C_require : Cal P w K mg base 1 "require" (spM K (gx K) κp_require .sc c_require)) (cdv : Value) (A : Around) (outer : List PySem.Env) (s : Shared) (H : Hp) (E : XK) (hr : Room (1) (A.deeper (envOfC "check_orders" (defScope (top 17)) s.heap.objs.size f cdv))) : BX (cxOf CX0 P w K mg base N_check_orders "check_orders" (defScope (top 17)) f cdv A outer s H E).nox (gx K) (κp_check_orders ++ κl_check_orders) .sc (defBody (top 17)) (mb_check_orders c_require) := by
  have nd := sc_check_orders.nd
  have hu := hr.units
  exact (bx_cons (sx_expr (ex_of_n (nx_c (ax_cons (ex_cmpC co_le (ex_cb1 (fun h => pe_callB call_len rfl T.b_len rfl h) sc_len (ex_var (s := ⟨.im, false⟩) (pv 1) rfl)) (ex_gl T.g_MOST_ORDERS)) (ax_cons ex_str (ax_cons ex_str (ax_cons (ex_cb1 (fun h => pe_callB call_len rfl T.b_len rfl h) sc_len (ex_var (s := ⟨.im, false⟩) (pv 1) rfl)) ax_nil)))) C_require hr (by omega))))
  (bx_one (sx_for (ps_for PassesOwn.never rfl (ix_enum (ex_var (s := ⟨.im, false⟩) (pv 1) rfl) T.b_enumerate) (gx_tup (pg_tup rfl (gs_cons (pgs_cons (gx_name (s := ⟨.im, false⟩) (pg_name (i := 2) nd rfl (by first | exact Or.inl rfl | exact Or.inr rfl)) rfl rfl) (gs_cons (pgs_cons (gx_tup (pg_tup rfl (gs_cons (pgs_cons (gx_name (s := ⟨.im, false⟩) (pg_name (i := 3) nd rfl (by first | exact Or.inl rfl | exact Or.inr rfl)) rfl rfl) (gs_cons (pgs_cons (gx_name (s := ⟨.im, false⟩) (pg_name (i := 4) nd rfl (by first | exact Or.inl rfl | exact Or.inr rfl)) rfl rfl) (gs_cons (pgs_cons (gx_name (s := ⟨.im, false⟩) (pg_name (i := 5) nd rfl (by first | exact Or.inl rfl | exact Or.inr rfl)) rfl rfl) (gs_cons (pgs_cons (gx_name (s := ⟨.im, false⟩) (pg_name (i := 6) nd rfl (by first | exact Or.inl rfl | exact Or.inr rfl)) rfl rfl) gs_nil)))))))))) gs_nil)))))) (bx_cons (sx_expr (ex_of_n (nx_c (ax_cons (ex_chain co_le co_lt ex_int (ex_var (s := ⟨.im, false⟩) (pv 3) rfl) (ex_cb1 (fun h => pe_callB call_len rfl T.b_len rfl h) sc_len (ex_var (s := ⟨.im, false⟩) (pv 0) rfl))) (ax_cons ex_str (ax_cons ex_str (ax_cons (ex_var (s := ⟨.im, false⟩) (pv 2) rfl) ax_nil)))) C_require hr (by omega))))
  (bx_cons (sx_expr (ex_of_n (nx_c (ax_cons (ex_chain3 co_le co_lt co_le ex_int (ex_var (s := ⟨.im, false⟩) (pv 4) rfl) (ex_var (s := ⟨.im, false⟩) (pv 5) rfl) (ex_gl T.g_LAST_TICK)) (ax_cons ex_str (ax_cons ex_str (ax_cons (ex_var (s := ⟨.im, false⟩) (pv 2) rfl) ax_nil)))) C_require hr (by omega))))
  (bx_one (sx_expr (ex_of_n (nx_c (ax_cons (ex_chain co_le co_le ex_int (ex_var (s := ⟨.im, false⟩) (pv 6) rfl) (ex_gl T.g_MOST_LIMIT)) (ax_cons ex_str (ax_cons ex_str (ax_cons (ex_var (s := ⟨.im, false⟩) (pv 2) rfl) ax_nil)))) C_require hr (by omega)))))))))))
noncomputable def mb_check_site (c_check_nodes : DF) (c_check_plugs : DF) (c_check_orders : DF) : M Fl :=
  (mSeq (mDrop (eCall κp_check_nodes c_check_nodes (aCons (eVar 0) aNil)))
  (mSeq (mDrop (eCall κp_check_plugs c_check_plugs (aCons (eVar 0) (aCons (eVar 1) aNil))))
  (mDrop (eCall κp_check_orders c_check_orders (aCons (eVar 0) (aCons (eVar 2) aNil))))))
theorem sc_check_site : FnScope N_check_site ["nodes", "plugs", "orders"] (defScope (top 18)) := ⟨rfl, rfl, rfl, by decide +kernel, rfl, by decide +kernel, by decide +kernel⟩
theorem bx_check_site {P : Program} {w : World} {K : PySem.W.Frag} {mg : Str → Option Value} {base : Heap} {f : Addr} {fd : FuncData} {n : Nat} {c_check_nodes : DF} {c_check_plugs : DF} {c_check_orders : DF} (T : Tx K mg) (C_check_nodes : Cal P w K mg base 2 "check_nodes" (spM K (gx K) κp_check_nodes .sc c_check_nodes)) (C_check_plugs : Cal P w K mg base 2 "check_plugs" (spM K (gx K) κp_check_plugs .sc c_check_plugs)) (C_check_orders : Cal P w K mg base 2 "check_orders" (spM K (gx K) κp_check_orders .sc c_check_orders)) (cdv : Value) (A : Around) (outer : List PySem.Env) (s : Shared) (H : Hp) (E : XK) (hr : Room (2) (A.deeper (envOfC "check_site" (defScope (top 18)) s.heap.objs.size f cdv))) : BX (cxOf CX0 P w K mg base N_check_site "check_site" (defScope (top 18)) f cdv A outer s H E).nox (gx K) (κp_check_site ++ κl_check_site) .sc (defBody (top 18)) (mb_check_site c_check_nodes c_check_plugs c_check_orders) := by
  have nd := sc_check_site.nd
  have hu := hr.units
  exact (bx_cons (sx_expr (ex_of_n (nx_c (ax_cons (ex_var (s := ⟨.im, false⟩) (pv 0) rfl) ax_nil) C_check_nodes hr (by omega))))
  (bx_cons (sx_expr (ex_of_n (nx_c (ax_cons (ex_var (s := ⟨.im, false⟩) (pv 0) rfl) (ax_cons (ex_var (s := ⟨.im, false⟩) (pv 1) rfl) ax_nil)) C_check_plugs hr (by omega))))
  (bx_one (sx_expr (ex_of_n (nx_c (ax_cons (ex_var (s := ⟨.im, false⟩) (pv 0) rfl) (ax_cons (ex_var (s := ⟨.im, false⟩) (pv 2) rfl) ax_nil)) C_check_orders hr (by omega)))))))
noncomputable def mb_Site_init (c_check_site : DF) : M Fl :=
  (mSeq (mDrop (eCall κp_check_site c_check_site (aCons (eVar 1) (aCons (eVar 2) (aCons (eVar 3) aNil)))))
  (mSeq (mFld 0 "Site" "nodes" (eTuple (eVar 1)))
  (mSeq (mFld 0 "Site" "plugs" (eTuple (eVar 2)))
  (mFld 0 "Site" "orders" (eTuple (eVar 3))))))
theorem sc_Site_init : FnScope N_Site_init ["self", "nodes", "plugs", "orders"] (defScope (inClass (top 19) 0)) := ⟨rfl, rfl, rfl, by decide +kernel, rfl, by decide +kernel, by decide +kernel⟩
theorem bx_Site_init {P : Program} {w : World} {K : PySem.W.Frag} {mg : Str → Option Value} {base : Heap} {f : Addr} {fd : FuncData} {n : Nat} {c_check_site : DF} (T : Tx K mg) (C_check_site : Cal P w K mg base 3 "check_site" (spM K (gx K) κp_check_site .sc c_check_site)) (cdv : Value) (A : Around) (outer : List PySem.Env) (s : Shared) (H : Hp) (E : XK) (hr : Room (3) (A.deeper (envOfC "Site.__init__" (defScope (inClass (top 19) 0)) s.heap.objs.size f cdv))) : BX (cxOf CX0 P w K mg base N_Site_init "Site.__init__" (defScope (inClass (top 19) 0)) f cdv A outer s H E).nox (gx K) (κp_Site_init ++ κl_Site_init) .sc (defBody (inClass (top 19) 0)) (mb_Site_init c_check_site) := by
  have nd := sc_Site_init.nd
  have hu := hr.units
  exact (bx_cons (sx_expr (ex_of_n (nx_c (ax_cons (ex_var (s := ⟨.im, false⟩) (pv 1) rfl) (ax_cons (ex_var (s := ⟨.im, false⟩) (pv 2) rfl) (ax_cons (ex_var (s := ⟨.im, false⟩) (pv 3) rfl) ax_nil))) C_check_site hr (by omega))))
  (bx_cons (sx_fld (s := ⟨(.ins "Site"), true⟩) (ps_fld (pv 0) (ex_tuple (fun h => pe_callTy call_tuple_of rfl T.b_tuple rfl h) (ex_var (s := ⟨.im, false⟩) (pv 1) rfl)) rfl) T.k_Site T.n_Site_nodes rfl rfl)
  (bx_cons (sx_fld (s := ⟨(.ins "Site"), true⟩) (ps_fld (pv 0) (ex_tuple (fun h => pe_callTy call_tuple_of rfl T.b_tuple rfl h) (ex_var (s := ⟨.im, false⟩) (pv 2) rfl)) rfl) T.k_Site T.n_Site_plugs rfl rfl)
  (bx_one (sx_fld (s := ⟨(.ins "Site"), true⟩) (ps_fld (pv 0) (ex_tuple (fun h => pe_callTy call_tuple_of rfl T.b_tuple rfl h) (ex_var (s := ⟨.im, false⟩) (pv 3) rfl)) rfl) T.k_Site T.n_Site_orders rfl rfl)))))
noncomputable def mb_Site_parts  : M Fl :=
  (mRet (eTup (aCons (eFld "Site" "nodes" (eVar 0)) (aCons (eFld "Site" "plugs" (eVar 0)) (aCons (eFld "Site" "orders" (eVar 0)) aNil)))))
theorem sc_Site_parts : FnScope N_Site_parts ["self"] (defScope (inClass (top 19) 1)) := ⟨rfl, rfl, rfl, by decide +kernel, rfl, by decide +kernel, by decide +kernel⟩
theorem bx_Site_parts {P : Program} {w : World} {K : PySem.W.Frag} {mg : Str → Option Value} {base : Heap} {f : Addr} {fd : FuncData} {n : Nat}  (T : Tx K mg) (cdv : Value) (A : Around) (outer : List PySem.Env) (s : Shared) (H : Hp) (E : XK) (hr : Room (0) (A.deeper (envOfC "Site.parts" (defScope (inClass (top 19) 1)) s.heap.objs.size f cdv))) : BX (cxOf CX0 P w K mg base N_Site_parts "Site.parts" (defScope (inClass (top 19) 1)) f cdv A outer s H E).nox (gx K) (κp_Site_parts ++ κl_Site_parts) .im (defBody (inClass (top 19) 1)) (mb_Site_parts ) := by
  have nd := sc_Site_parts.nd
  have hu := hr.units
  exact (bx_one (sx_ret (n_of_ex (ex_tup (ax_cons (ex_fld T.k_Site T.n_Site_nodes (ex_var (s := ⟨.im, false⟩) (pv 0) rfl)) (ax_cons (ex_fld T.k_Site T.n_Site_plugs (ex_var (s := ⟨.im, false⟩) (pv 0) rfl)) (ax_cons (ex_fld T.k_Site T.n_Site_orders (ex_var (s := ⟨.im, false⟩) (pv 0) rfl)) ax_nil)))) rfl)))
noncomputable def mb_Site_limit  : M Fl :=
  (mSeq (mAsg (eOp2 dIx (eOp2 dIx (eFld "Site" "nodes" (eVar 0)) (eVar 1)) (eC (.int 2))) (setV 3 .im))
  (mSeq (mFor (iSeq (eFld "Site" "orders" (eVar 0))) (mgTup 4 (mgCons (setV 4 .im) (mgCons (setV 5 .im) (mgCons (setV 6 .im) (mgCons (setV 7 .im) mgNil))))) (mIf (tAndM (tB1 (eOp2 dEq (eVar 4) (eVar 1))) (tB1 (eChain dLe dLt (eVar 5) (eVar 2) (eVar 6)))) (mAsg (eVar 7) (setV 3 .im)) (ret .nx)))
  (mRet (eSc (eVar 3)))))
theorem sc_Site_limit : FnScope N_Site_limit ["self", "node", "tick"] (defScope (inClass (top 19) 2)) := ⟨rfl, rfl, rfl, by decide +kernel, rfl, by decide +kernel, by decide +kernel⟩
theorem bx_Site_limit {P : Program} {w : World} {K : PySem.W.Frag} {mg : Str → Option Value} {base : Heap} {f : Addr} {fd : FuncData} {n : Nat}  (T : Tx K mg) (cdv : Value) (A : Around) (outer : List PySem.Env) (s : Shared) (H : Hp) (E : XK) (hr : Room (0) (A.deeper (envOfC "Site.limit" (defScope (inClass (top 19) 2)) s.heap.objs.size f cdv))) : BX (cxOf CX0 P w K mg base N_Site_limit "Site.limit" (defScope (inClass (top 19) 2)) f cdv A outer s H E).nox (gx K) (κp_Site_limit ++ κl_Site_limit) .sc (defBody (inClass (top 19) 2)) (mb_Site_limit ) := by
  have nd := sc_Site_limit.nd
  have hu := hr.units
  exact (bx_cons (sx_asg rfl (ps_asg (ex_ix (ex_ix (ex_fld T.k_Site T.n_Site_nodes (ex_var (s := ⟨.im, false⟩) (pv 0) rfl)) (ex_var (s := ⟨.im, false⟩) (pv 1) rfl)) ex_int) (gx_name (s := ⟨.im, false⟩) (pg_name (i := 3) nd rfl (by first | exact Or.inl rfl | exact Or.inr rfl)) rfl rfl)))
  (bx_cons (sx_for (ps_for PassesOwn.never rfl (ix_seq' (ex_fld T.k_Site T.n_Site_orders (ex_var (s := ⟨.im, false⟩) (pv 0) rfl))) (gx_tup (pg_tup rfl (gs_cons (pgs_cons (gx_name (s := ⟨.im, false⟩) (pg_name (i := 4) nd rfl (by first | exact Or.inl rfl | exact Or.inr rfl)) rfl rfl) (gs_cons (pgs_cons (gx_name (s := ⟨.im, false⟩) (pg_name (i := 5) nd rfl (by first | exact Or.inl rfl | exact Or.inr rfl)) rfl rfl) (gs_cons (pgs_cons (gx_name (s := ⟨.im, false⟩) (pg_name (i := 6) nd rfl (by first | exact Or.inl rfl | exact Or.inr rfl)) rfl rfl) (gs_cons (pgs_cons (gx_name (s := ⟨.im, false⟩) (pg_name (i := 7) nd rfl (by first | exact Or.inl rfl | exact Or.inr rfl)) rfl rfl) gs_nil)))))))))) (bx_one (sx_if (tx_w (wx_and (tx_cmpC (co_eq hu) (ex_var (s := ⟨.im, false⟩) (pv 4) rfl) (ex_var (s := ⟨.im, false⟩) (pv 1) rfl)) (wx_and1 (tx_chain co_le co_lt (ex_var (s := ⟨.im, false⟩) (pv 5) rfl) (ex_var (s := ⟨.im, false⟩) (pv 2) rfl) (ex_var (s := ⟨.im, false⟩) (pv 6) rfl))))) (bx_one (sx_asg rfl (ps_asg (ex_var (s := ⟨.im, false⟩) (pv 7) rfl) (gx_name (s := ⟨.im, false⟩) (pg_name (i := 3) nd rfl (by first | exact Or.inl rfl | exact Or.inr rfl)) rfl rfl)))) bx_nil))))
  (bx_one (sx_ret (n_of_ex (ex_sc (ex_var (s := ⟨.im, false⟩) (pv 3) rfl) rfl) rfl)))))
noncomputable def mb_Site_above  : M Fl :=
  (mSeq (mAsgN 2 (eLst .sc aNil))
  (mSeq (mWhile (tB1 (eOp2 dGe (eVar 1) (eC (.int 0)))) (mSeq (mApp 2 .sc (eVar 1))
  (mAsg (eOp2 dIx (eOp2 dIx (eFld "Site" "nodes" (eVar 0)) (eVar 1)) (eC (.int 1))) (setV 1 .im))))
  (mRet (eTake 2))))
theorem sc_Site_above : FnScope N_Site_above ["self", "node"] (defScope (inClass (top 19) 3)) := ⟨rfl, rfl, rfl, by decide +kernel, rfl, by decide +kernel, by decide +kernel⟩
theorem bx_Site_above {P : Program} {w : World} {K : PySem.W.Frag} {mg : Str → Option Value} {base : Heap} {f : Addr} {fd : FuncData} {n : Nat}  (T : Tx K mg) (cdv : Value) (A : Around) (outer : List PySem.Env) (s : Shared) (H : Hp) (E : XK) (hr : Room (0) (A.deeper (envOfC "Site.above" (defScope (inClass (top 19) 3)) s.heap.objs.size f cdv))) : BX (cxOf CX0 P w K mg base N_Site_above "Site.above" (defScope (inClass (top 19) 3)) f cdv A outer s H E).nox (gx K) (κp_Site_above ++ κl_Site_above) (.lst .sc) (defBody (inClass (top 19) 3)) (mb_Site_above ) := by
  have nd := sc_Site_above.nd
  have hu := hr.units
  exact (bx_cons (sx_asgN (s := ⟨(.lst .sc), false⟩) (ps_asg (nx_lst .sc ax_nil) (pg_name (i := 2) nd rfl (by first | exact Or.inl rfl | exact Or.inr rfl))) rfl rfl rfl)
  (bx_cons (sx_while (ps_while PassesOwn.never (tx_cmpC co_ge (ex_var (s := ⟨.im, false⟩) (pv 1) rfl) ex_int) (bx_cons (sx_app (s := ⟨(.lst .sc), false⟩) (ps_expr (pe_bm PySem.F.plainAttrs_list PySem.F.slot_list_append PySem.F.type_list_append mt_append (pv 2) (pa_cons (ex_var (s := ⟨.im, false⟩) (pv 1) rfl) pa_nil))) rfl rfl)
  (bx_one (sx_asg rfl (ps_asg (ex_ix (ex_ix (ex_fld T.k_Site T.n_Site_nodes (ex_var (s := ⟨.im, false⟩) (pv 0) rfl)) (ex_var (s := ⟨.im, false⟩) (pv 1) rfl)) ex_int) (gx_name (s := ⟨.im, false⟩) (pg_name (i := 1) nd rfl (by first | exact Or.inl rfl | exact Or.inr rfl)) rfl rfl)))))))
  (bx_one (sx_ret (nx_take (s := ⟨(.lst .sc), false⟩) (pv 2) rfl rfl)))))
noncomputable def mb_Site_loads (c_Site_above : DF) : M Fl :=
  (mSeq (mAsgN 2 (eOp2 (dRep .sc) (eLst .im (aCons (eC (.int 0)) aNil)) (eCb1 cLen (eFld "Site" "nodes" (eVar 0)))))
  (mSeq (mFor (iZip' (aCons (eVar 1) (aCons (eFld "Site" "plugs" (eVar 0)) aNil))) (mgTup 2 (mgCons (setV 3 .im) (mgCons (mgTup 3 (mgCons (setV 4 .im) (mgCons (setV 5 .im) (mgCons (setV 4 .im) mgNil)))) mgNil))) (mFor (iSeq (eMeth "Site" "above" κp_Site_above c_Site_above (eVar 0) (aCons (eVar 5) aNil))) (setV 6 .im) (mAugIx 2 .sc (· + ·) (eVar 6) (eVar 3))))
  (mRet (eTake 2))))
theorem sc_Site_loads : FnScope N_Site_loads ["self", "draws"] (defScope (inClass (top 19) 4)) := ⟨rfl, rfl, rfl, by decide +kernel, rfl, by decide +kernel, by decide +kernel⟩
theorem bx_Site_loads {P : Program} {w : World} {K : PySem.W.Frag} {mg : Str → Option Value} {base : Heap} {f : Addr} {fd : FuncData} {n : Nat} {c_Site_above : DF} (T : Tx K mg) (C_Site_above : Met P w K mg base 1 ((gx K).cl "Site") "above" (spM K (gx K) κp_Site_above (.lst .sc) c_Site_above)) (cdv : Value) (A : Around) (outer : List PySem.Env) (s : Shared) (H : Hp) (E : XK) (hr : Room (1) (A.deeper (envOfC "Site.loads" (defScope (inClass (top 19) 4)) s.heap.objs.size f cdv))) : BX (cxOf CX0 P w K mg base N_Site_loads "Site.loads" (defScope (inClass (top 19) 4)) f cdv A outer s H E).nox (gx K) (κp_Site_loads ++ κl_Site_loads) (.lst .sc) (defBody (inClass (top 19) 4)) (mb_Site_loads c_Site_above) := by
  have nd := sc_Site_loads.nd
  have hu := hr.units
  exact (bx_cons (sx_asgN (s := ⟨(.lst .sc), false⟩) (ps_asg (nx_rep .sc (ex_of_n (nx_lst .im (ax_cons ex_int ax_nil))) (ex_cb1 (fun h => pe_callB call_len rfl T.b_len rfl h) sc_len (ex_fld T.k_Site T.n_Site_nodes (ex_var (s := ⟨.im, false⟩) (pv 0) rfl)))) (pg_name (i := 2) nd rfl (by first | exact Or.inl rfl | exact Or.inr rfl))) rfl rfl rfl)
  (bx_cons (sx_for (ps_for PassesOwn.never rfl (ix_zip (ax_cons (ex_var (s := ⟨.im, false⟩) (pv 1) rfl) (ax_cons (ex_fld T.k_Site T.n_Site_plugs (ex_var (s := ⟨.im, false⟩) (pv 0) rfl)) ax_nil)) T.b_zip) (gx_tup (pg_tup rfl (gs_cons (pgs_cons (gx_name (s := ⟨.im, false⟩) (pg_name (i := 3) nd rfl (by first | exact Or.inl rfl | exact Or.inr rfl)) rfl rfl) (gs_cons (pgs_cons (gx_tup (pg_tup rfl (gs_cons (pgs_cons (gx_name (s := ⟨.im, false⟩) (pg_name (i := 4) nd rfl (by first | exact Or.inl rfl | exact Or.inr rfl)) rfl rfl) (gs_cons (pgs_cons (gx_name (s := ⟨.im, false⟩) (pg_name (i := 5) nd rfl (by first | exact Or.inl rfl | exact Or.inr rfl)) rfl rfl) (gs_cons (pgs_cons (gx_name (s := ⟨.im, false⟩) (pg_name (i := 4) nd rfl (by first | exact Or.inl rfl | exact Or.inr rfl)) rfl rfl) gs_nil)))))))) gs_nil)))))) (bx_one (sx_for (ps_for PassesOwn.never rfl (ix_seq' (ex_of_n (nx_m (ex_var (s := ⟨.im, false⟩) (pv 0) rfl) (ax_cons (ex_var (s := ⟨.im, false⟩) (pv 5) rfl) ax_nil) C_Site_above hr (by omega)))) (gx_name (s := ⟨.im, false⟩) (pg_name (i := 6) nd rfl (by first | exact Or.inl rfl | exact Or.inr rfl)) rfl rfl) (bx_one (sx_augIx (s := ⟨(.lst .sc), false⟩) (ps_augS (pv 2) (ex_var (s := ⟨.im, false⟩) (pv 6) rfl) get_list (ex_var (s := ⟨.im, false⟩) (pv 3) rfl) ip_add set_list) rfl rfl)))))))
  (bx_one (sx_ret (nx_take (s := ⟨(.lst .sc), false⟩) (pv 2) rfl rfl)))))
noncomputable def mb_Site_excess (c_Site_loads : DF) (c_Site_limit : DF) : M Fl :=
  (mSeq (mFor (iEnumM (eMeth "Site" "loads" κp_Site_loads c_Site_loads (eVar 0) (aCons (eVar 2) aNil))) (mgTup 2 (mgCons (setV 3 .im) (mgCons (setV 4 .im) mgNil))) (mIf (tB1 (eOp2 dGt (eVar 4) (eMeth "Site" "limit" κp_Site_limit c_Site_limit (eVar 0) (aCons (eVar 3) (aCons (eVar 1) aNil))))) (mRet (eSc (eVar 3))) (ret .nx)))
  (mRet (eC .non)))
theorem sc_Site_excess : FnScope N_Site_excess ["self", "tick", "draws"] (defScope (inClass (top 19) 5)) := ⟨rfl, rfl, rfl, by decide +kernel, rfl, by decide +kernel, by decide +kernel⟩
theorem bx_Site_excess {P : Program} {w : World} {K : PySem.W.Frag} {mg : Str → Option Value} {base : Heap} {f : Addr} {fd : FuncData} {n : Nat} {c_Site_loads : DF} {c_Site_limit : DF} (T : Tx K mg) (C_Site_loads : Met P w K mg base 2 ((gx K).cl "Site") "loads" (spM K (gx K) κp_Site_loads (.lst .sc) c_Site_loads)) (C_Site_limit : Met P w K mg base 1 ((gx K).cl "Site") "limit" (spM K (gx K) κp_Site_limit .sc c_Site_limit)) (cdv : Value) (A : Around) (outer : List PySem.Env) (s : Shared) (H : Hp) (E : XK) (hr : Room (2) (A.deeper (envOfC "Site.excess" (defScope (inClass (top 19) 5)) s.heap.objs.size f cdv))) : BX (cxOf CX0 P w K mg base N_Site_excess "Site.excess" (defScope (inClass (top 19) 5)) f cdv A outer s H E).nox (gx K) (κp_Site_excess ++ κl_Site_excess) .sc (defBody (inClass (top 19) 5)) (mb_Site_excess c_Site_loads c_Site_limit) := by
  have nd := sc_Site_excess.nd
  have hu := hr.units
  exact (bx_cons (sx_for (ps_for PassesOwn.never rfl (ix_enum (ex_of_n (nx_m (ex_var (s := ⟨.im, false⟩) (pv 0) rfl) (ax_cons (ex_var (s := ⟨.im, false⟩) (pv 2) rfl) ax_nil) C_Site_loads hr (by omega))) T.b_enumerate) (gx_tup (pg_tup rfl (gs_cons (pgs_cons (gx_name (s := ⟨.im, false⟩) (pg_name (i := 3) nd rfl (by first | exact Or.inl rfl | exact Or.inr rfl)) rfl rfl) (gs_cons (pgs_cons (gx_name (s := ⟨.im, false⟩) (pg_name (i := 4) nd rfl (by first | exact Or.inl rfl | exact Or.inr rfl)) rfl rfl) gs_nil)))))) (bx_one (sx_if (tx_cmpC co_gt (ex_var (s := ⟨.im, false⟩) (pv 4) rfl) (ex_of_n (nx_m (ex_var (s := ⟨.im, false⟩) (pv 0) rfl) (ax_cons (ex_var (s := ⟨.im, false⟩) (pv 3) rfl) (ax_cons (ex_var (s := ⟨.im, false⟩) (pv 1) rfl) ax_nil)) C_Site_limit hr (by omega)))) (bx_one (sx_ret (n_of_ex (ex_sc (ex_var (s := ⟨.im, false⟩) (pv 3) rfl) rfl) rfl))) bx_nil))))
  (bx_one (sx_ret (n_of_ex ex_non rfl))))
noncomputable def mb_law_refill  : M Fl :=
  (mSeq (mAsg (eC (.int 0)) (setV 2 .im))
  (mSeq (mIf (tTru (eVar 0)) (mAsg (eOp2 dIx (eVar 0) (eOp2 dMod (eVar 1) (eCb1 cLen (eVar 0)))) (setV 2 .im)) (ret .nx))
  (mSeq (mIf (tB1 (eOp2 dLt (eVar 2) (eC (.int 0)))) (mAsg (eOp2 dSub (eC (.int 1)) (eOp2 dMul (eC (.int 2)) (eVar 2))) (setV 2 .im)) (ret .nx))
  (mSeq (mIf (tAndM (tB1 (eOp2 dGe (eVar 2) (eOp2 dPow (eC (.int 10)) (eC (.int 18))))) (tB1 (eOp2 dLt (eVar 1) (eCb1 cLen (eVar 0))))) (mRet (eSc (eVar 2))) (ret .nx))
  (mRet (eOp2 dMod (eCb1 cInt (eOp2 dAdd (eOp2 dMul (eCb1 cInt (eOp2 dAdd (eOp2 dAdd (eOp2 dMul (eVar 2) (eC (.int 48271))) (eOp2 dMul (eVar 1) (eC (.int 69621)))) (eC (.int 12345)))) (eC (.int 40692))) (eC (.int 7)))) (eC (.int 2147483399))))))))
theorem sc_law_refill : FnScope N_law_refill ["script", "k"] (defScope (top 21)) := ⟨rfl, rfl, rfl, by decide +kernel, rfl, by decide +kernel, by decide +kernel⟩
theorem bx_law_refill {P : Program} {w : World} {K : PySem.W.Frag} {mg : Str → Option Value} {base : Heap} {f : Addr} {fd : FuncData} {n : Nat}  (T : Tx K mg) (cdv : Value) (A : Around) (outer : List PySem.Env) (s : Shared) (H : Hp) (E : XK) (hr : Room (0) (A.deeper (envOfC "_law_refill" (defScope (top 21)) s.heap.objs.size f cdv))) : BX (cxOf CX0 P w K mg base N_law_refill "_law_refill" (defScope (top 21)) f cdv A outer s H E).nox (gx K) (κp_law_refill ++ κl_law_refill) .sc (defBody (top 21)) (mb_law_refill ) := by
  have nd := sc_law_refill.nd
  have hu := hr.units
  exact (bx_cons (sx_asg rfl (ps_asg ex_int (gx_name (s := ⟨.im, false⟩) (pg_name (i := 2) nd rfl (by first | exact Or.inl rfl | exact Or.inr rfl)) rfl rfl)))
  (bx_cons (sx_if (tx_truth (ex_var (s := ⟨.im, false⟩) (pv 0) rfl)) (bx_one (sx_asg rfl (ps_asg (ex_ix (ex_var (s := ⟨.im, false⟩) (pv 0) rfl) (ex_mod (ex_var (s := ⟨.im, false⟩) (pv 1) rfl) (ex_cb1 (fun h => pe_callB call_len rfl T.b_len rfl h) sc_len (ex_var (s := ⟨.im, false⟩) (pv 0) rfl)))) (gx_name (s := ⟨.im, false⟩) (pg_name (i := 2) nd rfl (by first | exact Or.inl rfl | exact Or.inr rfl)) rfl rfl)))) bx_nil)
  (bx_cons (sx_if (tx_cmpC co_lt (ex_var (s := ⟨.im, false⟩) (pv 2) rfl) ex_int) (bx_one (sx_asg rfl (ps_asg (ex_sub ex_int (ex_mul ex_int (ex_var (s := ⟨.im, false⟩) (pv 2) rfl))) (gx_name (s := ⟨.im, false⟩) (pg_name (i := 2) nd rfl (by first | exact Or.inl rfl | exact Or.inr rfl)) rfl rfl)))) bx_nil)
  (bx_cons (sx_if (tx_w (wx_and (tx_cmpC co_ge (ex_var (s := ⟨.im, false⟩) (pv 2) rfl) (ex_pow ex_int ex_int)) (wx_and1 (tx_cmpC co_lt (ex_var (s := ⟨.im, false⟩) (pv 1) rfl) (ex_cb1 (fun h => pe_callB call_len rfl T.b_len rfl h) sc_len (ex_var (s := ⟨.im, false⟩) (pv 0) rfl)))))) (bx_one (sx_ret (n_of_ex (ex_sc (ex_var (s := ⟨.im, false⟩) (pv 2) rfl) rfl) rfl))) bx_nil)
  (bx_one (sx_ret (n_of_ex (ex_mod (ex_cb1 (fun h => pe_callTy call_int1 rfl T.b_int rfl h) sc_int (ex_add (ex_mul (ex_cb1 (fun h => pe_callTy call_int1 rfl T.b_int rfl h) sc_int (ex_add (ex_add (ex_mul (ex_var (s := ⟨.im, false⟩) (pv 2) rfl) ex_int) (ex_mul (ex_var (s := ⟨.im, false⟩) (pv 1) rfl) ex_int)) ex_int)) ex_int) ex_int)) ex_int) rfl)))))))
noncomputable def mb_law_draw (c_law_refill : DF) : M Fl :=
  (mSeq (mIf (tB1 (eOp2 dEq (eOp2 dIxO (eVar 0) (eC (.int 1))) (eC (.int 0)))) (mSeq (mSetIx 0 .sc (eCall κp_law_refill c_law_refill (aCons (eVar 1) (aCons (eOp2 dIxO (eVar 0) (eC (.int 0))) aNil))) (eC (.int 1)))
  (mSetIx 0 .sc (eOp2 dAdd (eOp2 dIxO (eVar 0) (eC (.int 0))) (eC (.int 1))) (eC (.int 0)))) (ret .nx))
  (mSeq (mAsg (eOp2 dMod (eCb1 cInt (eOp2 dIxO (eVar 0) (eC (.int 1)))) (eVar 2)) (setV 3 .im))
  (mSeq (mSetIx 0 .sc (eOp2 dDiv (eOp2 dIxO (eVar 0) (eC (.int 1))) (eVar 2)) (eC (.int 1)))
  (mRet (eSc (eVar 3))))))
theorem sc_law_draw : FnScope N_law_draw ["state", "script", "size"] (defScope (top 22)) := ⟨rfl, rfl, rfl, by decide +kernel, rfl, by decide +kernel, by decide +kernel⟩
theorem bx_law_draw {P : Program} {w : World} {K : PySem.W.Frag} {mg : Str → Option Value} {base : Heap} {f : Addr} {fd : FuncData} {n : Nat} {c_law_refill : DF} (T : Tx K mg) (C_law_refill : Cal P w K mg base 1 "_law_refill" (spM K (gx K) κp_law_refill .sc c_law_refill)) (cdv : Value) (A : Around) (outer : List PySem.Env) (s : Shared) (H : Hp) (E : XK) (hr : Room (1) (A.deeper (envOfC "_law_draw" (defScope (top 22)) s.heap.objs.size f cdv))) : BX (cxOf CX0 P w K mg base N_law_draw "_law_draw" (defScope (top 22)) f cdv A outer s H E).nox (gx K) (κp_law_draw ++ κl_law_draw) .sc (defBody (top 22)) (mb_law_draw c_law_refill) := by
  have nd := sc_law_draw.nd
  have hu := hr.units
  exact (bx_cons (sx_if (tx_cmpC (co_eq hu) (ex_ixO (ex_var (s := ⟨(.lst .sc), true⟩) (pv 0) rfl) ex_int) ex_int) (bx_cons (sx_setIx (s := ⟨(.lst .sc), true⟩) (ps_asg (ex_of_n (nx_c (ax_cons (ex_var (s := ⟨.im, false⟩) (pv 1) rfl) (ax_cons (ex_ixO (ex_var (s := ⟨(.lst .sc), true⟩) (pv 0) rfl) ex_int) ax_nil)) C_law_refill hr (by omega))) (pg_sub (pv 0) ex_int set_list)) rfl rfl)
  (bx_one (sx_setIx (s := ⟨(.lst .sc), true⟩) (ps_asg (ex_add (ex_ixO (ex_var (s := ⟨(.lst .sc), true⟩) (pv 0) rfl) ex_int) ex_int) (pg_sub (pv 0) ex_int set_list)) rfl rfl))) bx_nil)
  (bx_cons (sx_asg rfl (ps_asg (ex_mod (ex_cb1 (fun h => pe_callTy call_int1 rfl T.b_int rfl h) sc_int (ex_ixO (ex_var (s := ⟨(.lst .sc), true⟩) (pv 0) rfl) ex_int)) (ex_var (s := ⟨.im, false⟩) (pv 2) rfl)) (gx_name (s := ⟨.im, false⟩) (pg_name (i := 3) nd rfl (by first | exact Or.inl rfl | exact Or.inr rfl)) rfl rfl)))
  (bx_cons (sx_setIx (s := ⟨(.lst .sc), true⟩) (ps_asg (ex_div (ex_ixO (ex_var (s := ⟨(.lst .sc), true⟩) (pv 0) rfl) ex_int) (ex_var (s := ⟨.im, false⟩) (pv 2) rfl)) (pg_sub (pv 0) ex_int set_list)) rfl rfl)
  (bx_one (sx_ret (n_of_ex (ex_sc (ex_var (s := ⟨.im, false⟩) (pv 3) rfl) rfl) rfl))))))
noncomputable def mb_law_exact (c_law_exact : DF) : M Fl :=
  (mSeq (mIf (tTru (eIs2 "list" "tuple" (eVar 0))) (mSeq (mIf (tOrM (tB1 (eOp2 dNe (eIs "list" (eVar 0)) (eIs "list" (eVar 1)))) (tB1 (eOp2 dNe (eIs "tuple" (eVar 0)) (eIs "tuple" (eVar 1))))) (mRet (eC (.bl false))) (ret .nx))
  (mRet (eAndM (eOp2 dEq (eCb1 cLen (eVar 0)) (eCb1 cLen (eVar 1))) (eCb1 cAll (eLc .im [3] (iR1 (aCons (eCb1 cLen (eVar 0)) aNil)) (setV 3 .im) (ret true) (eCall κp_law_exact c_law_exact (aCons (eOp2 dIx (eVar 0) (eVar 3)) (aCons (eOp2 dIx (eVar 1) (eVar 3)) aNil)))))))) (ret .nx))
  (mSeq (mIf (tOrM (tB1 (eOp2 dIsN (eVar 0) (eC .non))) (tB1 (eOp2 dIsN (eVar 1) (eC .non)))) (mRet (eAndM (eOp2 dIsN (eVar 0) (eC .non)) (eOp2 dIsN (eVar 1) (eC .non)))) (ret .nx))
  (mSeq (mAsg (eAndM (eOp2 dEq (eIs "str" (eVar 0)) (eIs "str" (eVar 1))) (eOp2 dEq (eIs "bool" (eVar 0)) (eIs "bool" (eVar 1)))) (setV 2 .im))
  (mRet (eAndM (eVar 2) (eAndM (eOp2 dEq (eIs "int" (eVar 0)) (eIs "int" (eVar 1))) (eOp2 dEq (eVar 0) (eVar 1))))))))
theorem sc_law_exact : FnScope N_law_exact ["first", "second"] (defScope (top 23)) := ⟨rfl, rfl, rfl, by decide +kernel, rfl, by decide +kernel, by decide +kernel⟩
theorem bx_law_exact {P : Program} {w : World} {K : PySem.W.Frag} {mg : Str → Option Value} {base : Heap} {f : Addr} {fd : FuncData} {n : Nat} {c_law_exact : DF} (T : Tx K mg) (C_law_exact : Cal P w K mg base n "_law_exact" (spM K (gx K) κp_law_exact .sc c_law_exact)) (cdv : Value) (A : Around) (outer : List PySem.Env) (s : Shared) (H : Hp) (E : XK) (hr : Room (n + 0) (A.deeper (envOfC "_law_exact" (defScope (top 23)) s.heap.objs.size f cdv))) : BX (cxOf CX0 P w K mg base N_law_exact "_law_exact" (defScope (top 23)) f cdv A outer s H E).nox (gx K) (κp_law_exact ++ κl_law_exact) .sc (defBody (top 23)) (mb_law_exact c_law_exact) := by
  have nd := sc_law_exact.nd
  have hu := hr.units
  exact (bx_cons (sx_if (tx_truth (ex_is2 (T := "list") (U := "tuple") (fun h => pe_callB call_isiT rfl T.b_isinstance rfl h) (ex_var (s := ⟨.im, false⟩) (pv 0) rfl) (pe_ty T.b_list) (pe_ty T.b_tuple))) (bx_cons (sx_if (tx_w (wx_or (tx_cmpC (co_ne hu) (ex_is (T := "list") (fun h => pe_callB call_isi rfl T.b_isinstance rfl h) (ex_var (s := ⟨.im, false⟩) (pv 0) rfl) (pe_ty T.b_list)) (ex_is (T := "list") (fun h => pe_callB call_isi rfl T.b_isinstance rfl h) (ex_var (s := ⟨.im, false⟩) (pv 1) rfl) (pe_ty T.b_list))) (wx_or1 (tx_cmpC (co_ne hu) (ex_is (T := "tuple") (fun h => pe_callB call_isi rfl T.b_isinstance rfl h) (ex_var (s := ⟨.im, false⟩) (pv 0) rfl) (pe_ty T.b_tuple)) (ex_is (T := "tuple") (fun h => pe_callB call_isi rfl T.b_isinstance rfl h) (ex_var (s := ⟨.im, false⟩) (pv 1) rfl) (pe_ty T.b_tuple)))))) (bx_one (sx_ret (n_of_ex ex_bl rfl))) bx_nil)
  (bx_one (sx_ret (n_of_ex (ex_and (ex_cmpC (co_eq hu) (ex_cb1 (fun h => pe_callB call_len rfl T.b_len rfl h) sc_len (ex_var (s := ⟨.im, false⟩) (pv 0) rfl)) (ex_cb1 (fun h => pe_callB call_len rfl T.b_len rfl h) sc_len (ex_var (s := ⟨.im, false⟩) (pv 1) rfl))) (ex_one (ex_cb1 (fun h => pe_callB (cr_all rfl) rfl T.b_all rfl h) sc_all (ex_of_n (nx_lc .im (pe_lc (own := [("k", 3)]) rfl nd (ix_r1 (ax_cons (ex_cb1 (fun h => pe_callB call_len rfl T.b_len rfl h) sc_len (ex_var (s := ⟨.im, false⟩) (pv 0) rfl)) ax_nil) T.b_range) (blkOk_by (by kernel_rfl)) (fun _ _ _ _ _ => (gx_name (s := ⟨.im, false⟩) (pg_name (i := 3) nd rfl (by first | exact Or.inl rfl | exact Or.inr rfl)) rfl rfl)) (fun _ _ _ _ _ => px_nil) (fun _ _ _ _ _ => (ex_of_n (nx_c (ax_cons (ex_ix (ex_var (s := ⟨.im, true⟩) (pv 0) rfl) (ex_var (s := ⟨.im, false⟩) (pv 3) rfl)) (ax_cons (ex_ix (ex_var (s := ⟨.im, true⟩) (pv 1) rfl) (ex_var (s := ⟨.im, false⟩) (pv 3) rfl)) ax_nil)) C_law_exact hr (by omega)))))))))) rfl)))) bx_nil)
  (bx_cons (sx_if (tx_w (wx_or (tx_cmpC co_is (ex_var (s := ⟨.im, false⟩) (pv 0) rfl) ex_non) (wx_or1 (tx_cmpC co_is (ex_var (s := ⟨.im, false⟩) (pv 1) rfl) ex_non)))) (bx_one (sx_ret (n_of_ex (ex_and (ex_cmpC co_is (ex_var (s := ⟨.im, false⟩) (pv 0) rfl) ex_non) (ex_one (ex_cmpC co_is (ex_var (s := ⟨.im, false⟩) (pv 1) rfl) ex_non))) rfl))) bx_nil)
  (bx_cons (sx_asg rfl (ps_asg (ex_and (ex_cmpC (co_eq hu) (ex_is (T := "str") (fun h => pe_callB call_isi rfl T.b_isinstance rfl h) (ex_var (s := ⟨.im, false⟩) (pv 0) rfl) (pe_ty T.b_str)) (ex_is (T := "str") (fun h => pe_callB call_isi rfl T.b_isinstance rfl h) (ex_var (s := ⟨.im, false⟩) (pv 1) rfl) (pe_ty T.b_str))) (ex_one (ex_cmpC (co_eq hu) (ex_is (T := "bool") (fun h => pe_callB call_isi rfl T.b_isinstance rfl h) (ex_var (s := ⟨.im, false⟩) (pv 0) rfl) (pe_ty T.b_bool)) (ex_is (T := "bool") (fun h => pe_callB call_isi rfl T.b_isinstance rfl h) (ex_var (s := ⟨.im, false⟩) (pv 1) rfl) (pe_ty T.b_bool))))) (gx_name (s := ⟨.im, false⟩) (pg_name (i := 2) nd rfl (by first | exact Or.inl rfl | exact Or.inr rfl)) rfl rfl)))
  (bx_one (sx_ret (n_of_ex (ex_and (ex_var (s := ⟨.im, false⟩) (pv 2) rfl) (ex_and (ex_cmpC (co_eq hu) (ex_is (T := "int") (fun h => pe_callB call_isi rfl T.b_isinstance rfl h) (ex_var (s := ⟨.im, false⟩) (pv 0) rfl) (pe_ty T.b_int)) (ex_is (T := "int") (fun h => pe_callB call_isi rfl T.b_isinstance rfl h) (ex_var (s := ⟨.im, false⟩) (pv 1) rfl) (pe_ty T.b_int))) (ex_one (ex_cmpC (co_eq hu) (ex_var (s := ⟨.im, false⟩) (pv 0) rfl) (ex_var (s := ⟨.im, false⟩) (pv 1) rfl))))) rfl))))))
noncomputable def mb_law_nodes (c_law_draw : DF) : M Fl :=
  (mSeq (mAsg (eOp2 dIx (eLst .im (aCons (eC (.int 1)) (aCons (eC (.int 2)) (aCons (eC (.int 4)) (aCons (eC (.int 7)) (aCons (eC (.int 24)) aNil)))))) (eCallIo 0 κr_law_draw c_law_draw (aCons (eVar 1) (aCons (eC (.int 5)) aNil)))) (setV 2 .im))
  (mSeq (mAsgN 3 (eLst .im (aCons (eTup (aCons (eC (.str "top")) (aCons (eOp1 dNeg (eC (.int 1))) (aCons (eCallIo 0 κr_law_draw c_law_draw (aCons (eVar 1) (aCons (eC (.int 1000)) aNil))) aNil)))) aNil)))
  (mSeq (mFor (iR2 (aCons (eC (.int 1)) (aCons (eVar 2) aNil))) (setV 4 .im) (mSeq (mAsg (eOp2 dIx (eLst .im (aCons (eOp2 dSub (eVar 4) (eC (.int 1))) (aCons (eC (.int 0)) (aCons (eCallIo 0 κr_law_draw c_law_draw (aCons (eVar 1) (aCons (eVar 4) aNil))) aNil)))) (eCallIo 0 κr_law_draw c_law_draw (aCons (eVar 1) (aCons (eC (.int 3)) aNil)))) (setV 5 .im))
  (mApp 3 .im (eTup (aCons (eOp2 dAddS (eC (.str "n")) (eCb1 cStr (eVar 4))) (aCons (eVar 5) (aCons (eOp2 dIx (eLst .im (aCons (eCallIo 0 κr_law_draw c_law_draw (aCons (eVar 1) (aCons (eC (.int 40)) aNil))) (aCons (eCallIo 0 κr_law_draw c_law_draw (aCons (eVar 1) (aCons (eC (.int 1000)) aNil))) aNil))) (eCallIo 0 κr_law_draw c_law_draw (aCons (eVar 1) (aCons (eC (.int 2)) aNil)))) aNil)))))))
  (mRet (eTake 3)))))
theorem sc_law_nodes : FnScope N_law_nodes ["state", "script"] (defScope (top 24)) := ⟨rfl, rfl, rfl, by decide +kernel, rfl, by decide +kernel, by decide +kernel⟩
theorem bx_law_nodes {P : Program} {w : World} {K : PySem.W.Frag} {mg : Str → Option Value} {base : Heap} {f : Addr} {fd : FuncData} {n : Nat} {c_law_draw : DF} (T : Tx K mg) (C_law_draw : Cal P w K mg base 2 "_law_draw" (spM K (gx K) (⟨(.lst .sc), true⟩ :: κr_law_draw) .sc c_law_draw)) (cdv : Value) (A : Around) (outer : List PySem.Env) (s : Shared) (H : Hp) (E : XK) (hr : Room (2) (A.deeper (envOfC "_law_nodes" (defScope (top 24)) s.heap.objs.size f cdv))) : BX (cxOf CX0 P w K mg base N_law_nodes "_law_nodes" (defScope (top 24)) f cdv A outer s H E).nox (gx K) (κp_law_nodes ++ κl_law_nodes) (.lst .im) (defBody (top 24)) (mb_law_nodes c_law_draw) := by
  have nd := sc_law_nodes.nd
  have hu := hr.units
  exact (bx_cons (sx_asg rfl (ps_asg (ex_ix (ex_of_n (nx_lst .im (ax_cons ex_int (ax_cons ex_int (ax_cons ex_int (ax_cons ex_int (ax_cons ex_int ax_nil))))))) (ex_of_n (nx_cIo (s := ⟨(.lst .sc), true⟩) (pv 0) (ax_cons (ex_var (s := ⟨.im, false⟩) (pv 1) rfl) (ax_cons ex_int ax_nil)) C_law_draw hr (by omega) rfl))) (gx_name (s := ⟨.im, false⟩) (pg_name (i := 2) nd rfl (by first | exact Or.inl rfl | exact Or.inr rfl)) rfl rfl)))
  (bx_cons (sx_asgN (s := ⟨(.lst .im), false⟩) (ps_asg (nx_lst .im (ax_cons (ex_tup (ax_cons ex_str (ax_cons (ex_neg ex_int) (ax_cons (ex_of_n (nx_cIo (s := ⟨(.lst .sc), true⟩) (pv 0) (ax_cons (ex_var (s := ⟨.im, false⟩) (pv 1) rfl) (ax_cons ex_int ax_nil)) C_law_draw hr (by omega) rfl)) ax_nil)))) ax_nil)) (pg_name (i := 3) nd rfl (by first | exact Or.inl rfl | exact Or.inr rfl))) rfl rfl rfl)
  (bx_cons (sx_for (ps_for PassesOwn.never rfl (ix_r2 (ax_cons ex_int (ax_cons (ex_var (s := ⟨.im, false⟩) (pv 2) rfl) ax_nil)) T.b_range) (gx_name (s := ⟨.im, false⟩) (pg_name (i := 4) nd rfl (by first | exact Or.inl rfl | exact Or.inr rfl)) rfl rfl) (bx_cons (sx_asg rfl (ps_asg (ex_ix (ex_of_n (nx_lst .im (ax_cons (ex_sub (ex_var (s := ⟨.im, false⟩) (pv 4) rfl) ex_int) (ax_cons ex_int (ax_cons (ex_of_n (nx_cIo (s := ⟨(.lst .sc), true⟩) (pv 0) (ax_cons (ex_var (s := ⟨.im, false⟩) (pv 1) rfl) (ax_cons (ex_var (s := ⟨.im, false⟩) (pv 4) rfl) ax_nil)) C_law_draw hr (by omega) rfl)) ax_nil))))) (ex_of_n (nx_cIo (s := ⟨(.lst .sc), true⟩) (pv 0) (ax_cons (ex_var (s := ⟨.im, false⟩) (pv 1) rfl) (ax_cons ex_int ax_nil)) C_law_draw hr (by omega) rfl))) (gx_name (s := ⟨.im, false⟩) (pg_name (i := 5) nd rfl (by first | exact Or.inl rfl | exact Or.inr rfl)) rfl rfl)))
  (bx_one (sx_app (s := ⟨(.lst .im), false⟩) (ps_expr (pe_bm PySem.F.plainAttrs_list PySem.F.slot_list_append PySem.F.type_list_append mt_append (pv 3) (pa_cons (ex_tup (ax_cons (ex_addS ex_str (ex_cb1 (fun h => pe_callTy call_str_int rfl T.b_str rfl h) sc_str (ex_var (s := ⟨.im, false⟩) (pv 4) rfl))) (ax_cons (ex_var (s := ⟨.im, false⟩) (pv 5) rfl) (ax_cons (ex_ix (ex_of_n (nx_lst .im (ax_cons (ex_of_n (nx_cIo (s := ⟨(.lst .sc), true⟩) (pv 0) (ax_cons (ex_var (s := ⟨.im, false⟩) (pv 1) rfl) (ax_cons ex_int ax_nil)) C_law_draw hr (by omega) rfl)) (ax_cons (ex_of_n (nx_cIo (s := ⟨(.lst .sc), true⟩) (pv 0) (ax_cons (ex_var (s := ⟨.im, false⟩) (pv 1) rfl) (ax_cons ex_int ax_nil)) C_law_draw hr (by omega) rfl)) ax_nil)))) (ex_of_n (nx_cIo (s := ⟨(.lst .sc), true⟩) (pv 0) (ax_cons (ex_var (s := ⟨.im, false⟩) (pv 1) rfl) (ax_cons ex_int ax_nil)) C_law_draw hr (by omega) rfl))) ax_nil)))) pa_nil))) rfl rfl)))))
  (bx_one (sx_ret (nx_take (s := ⟨(.lst .im), false⟩) (pv 3) rfl rfl))))))
noncomputable def mb_law_orders (c_law_draw : DF) : M Fl :=
  (mSeq (mAsgN 3 (eLst .im aNil))
  (mSeq (mAsg (eCallIo 0 κr_law_draw c_law_draw (aCons (eVar 1) (aCons (eVar 2) aNil))) (setV 4 .im))
  (mSeq (mFor (iR1 (aCons (eOp2 dIx (eLst .im (aCons (eC (.int 3)) (aCons (eC (.int 12)) (aCons (eCallIo 0 κr_law_draw c_law_draw (aCons (eVar 1) (aCons (eC (.int 13)) aNil))) aNil)))) (eCallIo 0 κr_law_draw c_law_draw (aCons (eVar 1) (aCons (eC (.int 3)) aNil)))) aNil)) (setV 5 .im) (mSeq (mAsg (eOp2 dIx (eLst .im (aCons (eCallIo 0 κr_law_draw c_law_draw (aCons (eVar 1) (aCons (eC (.int 10)) aNil))) (aCons (eCallIo 0 κr_law_draw c_law_draw (aCons (eVar 1) (aCons (eC (.int 96)) aNil))) aNil))) (eCallIo 0 κr_law_draw c_law_draw (aCons (eVar 1) (aCons (eC (.int 2)) aNil)))) (setV 6 .im))
  (mSeq (mAsg (eCb cMin2 (aCons (eC (.int 96)) (aCons (eOp2 dAdd (eOp2 dAdd (eVar 6) (eC (.int 1))) (eCallIo 0 κr_law_draw c_law_draw (aCons (eVar 1) (aCons (eOp2 dIx (eLst .im (aCons (eC (.int 5)) (aCons (eC (.int 96)) aNil))) (eCallIo 0 κr_law_draw c_law_draw (aCons (eVar 1) (aCons (eC (.int 2)) aNil)))) aNil)))) aNil))) (setV 7 .im))
  (mSeq (mAsg (eOp2 dIx (eLst .im (aCons (eVar 4) (aCons (eCallIo 0 κr_law_draw c_law_draw (aCons (eVar 1) (aCons (eVar 2) aNil))) aNil))) (eCallIo 0 κr_law_draw c_law_draw (aCons (eVar 1) (aCons (eC (.int 2)) aNil)))) (setV 8 .im))
  (mApp 3 .im (eTup (aCons (eVar 8) (aCons (eVar 6) (aCons (eVar 7) (aCons (eCallIo 0 κr_law_draw c_law_draw (aCons (eVar 1) (aCons (eOp2 dIx (eLst .im (aCons (eC (.int 60)) (aCons (eC (.int 1000)) aNil))) (eCallIo 0 κr_law_draw c_law_draw (aCons (eVar 1) (aCons (eC (.int 2)) aNil)))) aNil))) aNil))))))))))
  (mRet (eTake 3)))))
theorem sc_law_orders : FnScope N_law_orders ["state", "script", "count"] (defScope (top 25)) := ⟨rfl, rfl, rfl, by decide +kernel, rfl, by decide +kernel, by decide +kernel⟩
theorem bx_law_orders {P : Program} {w : World} {K : PySem.W.Frag} {mg : Str → Option Value} {base : Heap} {f : Addr} {fd : FuncData} {n : Nat} {c_law_draw : DF} (T : Tx K mg) (C_law_draw : Cal P w K mg base 2 "_law_draw" (spM K (gx K) (⟨(.lst .sc), true⟩ :: κr_law_draw) .sc c_law_draw)) (cdv : Value) (A : Around) (outer : List PySem.Env) (s : Shared) (H : Hp) (E : XK) (hr : Room (2) (A.deeper (envOfC "_law_orders" (defScope (top 25)) s.heap.objs.size f cdv))) : BX (cxOf CX0 P w K mg base N_law_orders "_law_orders" (defScope (top 25)) f cdv A outer s H E).nox (gx K) (κp_law_orders ++ κl_law_orders) (.lst .im) (defBody (top 25)) (mb_law_orders c_law_draw) := by
  have nd := sc_law_orders.nd
  have hu := hr.units
  exact (bx_cons (sx_asgN (s := ⟨(.lst .im), false⟩) (ps_asg (nx_lst .im ax_nil) (pg_name (i := 3) nd rfl (by first | exact Or.inl rfl | exact Or.inr rfl))) rfl rfl rfl)
  (bx_cons (sx_asg rfl (ps_asg (ex_of_n (nx_cIo (s := ⟨(.lst .sc), true⟩) (pv 0) (ax_cons (ex_var (s := ⟨.im, false⟩) (pv 1) rfl) (ax_cons (ex_var (s := ⟨.im, false⟩) (pv 2) rfl) ax_nil)) C_law_draw hr (by omega) rfl)) (gx_name (s := ⟨.im, false⟩) (pg_name (i := 4) nd rfl (by first | exact Or.inl rfl | exact Or.inr rfl)) rfl rfl)))
  (bx_cons (sx_for (ps_for PassesOwn.never rfl (ix_r1 (ax_cons (ex_ix (ex_of_n (nx_lst .im (ax_cons ex_int (ax_cons ex_int (ax_cons (ex_of_n (nx_cIo (s := ⟨(.lst .sc), true⟩) (pv 0) (ax_cons (ex_var (s := ⟨.im, false⟩) (pv 1) rfl) (ax_cons ex_int ax_nil)) C_law_draw hr (by omega) rfl)) ax_nil))))) (ex_of_n (nx_cIo (s := ⟨(.lst .sc), true⟩) (pv 0) (ax_cons (ex_var (s := ⟨.im, false⟩) (pv 1) rfl) (ax_cons ex_int ax_nil)) C_law_draw hr (by omega) rfl))) ax_nil) T.b_range) (gx_name (s := ⟨.im, false⟩) (pg_name (i := 5) nd rfl (by first | exact Or.inl rfl | exact Or.inr rfl)) rfl rfl) (bx_cons (sx_asg rfl (ps_asg (ex_ix (ex_of_n (nx_lst .im (ax_cons (ex_of_n (nx_cIo (s := ⟨(.lst .sc), true⟩) (pv 0) (ax_cons (ex_var (s := ⟨.im, false⟩) (pv 1) rfl) (ax_cons ex_int ax_nil)) C_law_draw hr (by omega) rfl)) (ax_cons (ex_of_n (nx_cIo (s := ⟨(.lst .sc), true⟩) (pv 0) (ax_cons (ex_var (s := ⟨.im, false⟩) (pv 1) rfl) (ax_cons ex_int ax_nil)) C_law_draw hr (by omega) rfl)) ax_nil)))) (ex_of_n (nx_cIo (s := ⟨(.lst .sc), true⟩) (pv 0) (ax_cons (ex_var (s := ⟨.im, false⟩) (pv 1) rfl) (ax_cons ex_int ax_nil)) C_law_draw hr (by omega) rfl))) (gx_name (s := ⟨.im, false⟩) (pg_name (i := 6) nd rfl (by first | exact Or.inl rfl | exact Or.inr rfl)) rfl rfl)))
  (bx_cons (sx_asg rfl (ps_asg (ex_cb (fun h => pe_callB (call_min2 rfl) rfl T.b_min rfl h) sc_min2 (ax_cons ex_int (ax_cons (ex_add (ex_add (ex_var (s := ⟨.im, false⟩) (pv 6) rfl) ex_int) (ex_of_n (nx_cIo (s := ⟨(.lst .sc), true⟩) (pv 0) (ax_cons (ex_var (s := ⟨.im, false⟩) (pv 1) rfl) (ax_cons (ex_ix (ex_of_n (nx_lst .im (ax_cons ex_int (ax_cons ex_int ax_nil)))) (ex_of_n (nx_cIo (s := ⟨(.lst .sc), true⟩) (pv 0) (ax_cons (ex_var (s := ⟨.im, false⟩) (pv 1) rfl) (ax_cons ex_int ax_nil)) C_law_draw hr (by omega) rfl))) ax_nil)) C_law_draw hr (by omega) rfl))) ax_nil))) (gx_name (s := ⟨.im, false⟩) (pg_name (i := 7) nd rfl (by first | exact Or.inl rfl | exact Or.inr rfl)) rfl rfl)))
  (bx_cons (sx_asg rfl (ps_asg (ex_ix (ex_of_n (nx_lst .im (ax_cons (ex_var (s := ⟨.im, false⟩) (pv 4) rfl) (ax_cons (ex_of_n (nx_cIo (s := ⟨(.lst .sc), true⟩) (pv 0) (ax_cons (ex_var (s := ⟨.im, false⟩) (pv 1) rfl) (ax_cons (ex_var (s := ⟨.im, false⟩) (pv 2) rfl) ax_nil)) C_law_draw hr (by omega) rfl)) ax_nil)))) (ex_of_n (nx_cIo (s := ⟨(.lst .sc), true⟩) (pv 0) (ax_cons (ex_var (s := ⟨.im, false⟩) (pv 1) rfl) (ax_cons ex_int ax_nil)) C_law_draw hr (by omega) rfl))) (gx_name (s := ⟨.im, false⟩) (pg_name (i := 8) nd rfl (by first | exact Or.inl rfl | exact Or.inr rfl)) rfl rfl)))
  (bx_one (sx_app (s := ⟨(.lst .im), false⟩) (ps_expr (pe_bm PySem.F.plainAttrs_list PySem.F.slot_list_append PySem.F.type_list_append mt_append (pv 3) (pa_cons (ex_tup (ax_cons (ex_var (s := ⟨.im, false⟩) (pv 8) rfl) (ax_cons (ex_var (s := ⟨.im, false⟩) (pv 6) rfl) (ax_cons (ex_var (s := ⟨.im, false⟩) (pv 7) rfl) (ax_cons (ex_of_n (nx_cIo (s := ⟨(.lst .sc), true⟩) (pv 0) (ax_cons (ex_var (s := ⟨.im, false⟩) (pv 1) rfl) (ax_cons (ex_ix (ex_of_n (nx_lst .im (ax_cons ex_int (ax_cons ex_int ax_nil)))) (ex_of_n (nx_cIo (s := ⟨(.lst .sc), true⟩) (pv 0) (ax_cons (ex_var (s := ⟨.im, false⟩) (pv 1) rfl) (ax_cons ex_int ax_nil)) C_law_draw hr (by omega) rfl))) ax_nil)) C_law_draw hr (by omega) rfl)) ax_nil))))) pa_nil))) rfl rfl)))))))
  (bx_one (sx_ret (nx_take (s := ⟨(.lst .im), false⟩) (pv 3) rfl rfl))))))
noncomputable def mb_law_load (c_law_load : DF) : M Fl :=
  (mSeq (mAsg (eCb1 cSum (eLc .im [5] (iR1 (aCons (eCb1 cLen (eVar 1)) aNil)) (setV 5 .im) (tB1 (eOp2 dEq (eOp2 dIx (eOp2 dIx (eVar 1) (eVar 5)) (eC (.int 1))) (eVar 3))) (eOp2 dIx (eVar 2) (eVar 5)))) (setV 4 .im))
  (mRet (eOp2 dAdd (eVar 4) (eCb1 cSum (eLc .im [5] (iR2 (aCons (eOp2 dAdd (eVar 3) (eC (.int 1))) (aCons (eCb1 cLen (eVar 0)) aNil))) (setV 5 .im) (tB1 (eOp2 dEq (eOp2 dIx (eOp2 dIx (eVar 0) (eVar 5)) (eC (.int 1))) (eVar 3))) (eCall κp_law_load c_law_load (aCons (eVar 0) (aCons (eVar 1) (aCons (eVar 2) (aCons (eVar 5) aNil))))))))))
theorem sc_law_load : FnScope N_law_load ["nodes", "plugs", "draws", "node"] (defScope (top 26)) := ⟨rfl, rfl, rfl, by decide +kernel, rfl, by decide +kernel, by decide +kernel⟩
theorem bx_law_load {P : Program} {w : World} {K : PySem.W.Frag} {mg : Str → Option Value} {base : Heap} {f : Addr} {fd : FuncData} {n : Nat} {c_law_load : DF} (T : Tx K mg) (C_law_load : Cal P w K mg base n "_law_load" (spM K (gx K) κp_law_load .sc c_law_load)) (cdv : Value) (A : Around) (outer : List PySem.Env) (s : Shared) (H : Hp) (E : XK) (hr : Room (n + 0) (A.deeper (envOfC "_law_load" (defScope (top 26)) s.heap.objs.size f cdv))) : BX (cxOf CX0 P w K mg base N_law_load "_law_load" (defScope (top 26)) f cdv A outer s H E).nox (gx K) (κp_law_load ++ κl_law_load) .sc (defBody (top 26)) (mb_law_load c_law_load) := by
  have nd := sc_law_load.nd
  have hu := hr.units
  exact (bx_cons (sx_asg rfl (ps_asg (ex_cb1 (fun h => pe_callB (cr_sum rfl) rfl T.b_sum rfl h) sc_sum (ex_of_n (nx_lc .im (pe_lc (own := [("k", 5)]) rfl nd (ix_r1 (ax_cons (ex_cb1 (fun h => pe_callB call_len rfl T.b_len rfl h) sc_len (ex_var (s := ⟨.im, false⟩) (pv 1) rfl)) ax_nil) T.b_range) (blkOk_by (by kernel_rfl)) (fun _ _ _ _ _ => (gx_name (s := ⟨.im, false⟩) (pg_name (i := 5) nd rfl (by first | exact Or.inl rfl | exact Or.inr rfl)) rfl rfl)) (fun _ _ _ _ _ => (px_one (tx_cmpC (co_eq hu) (ex_ix (ex_ix (ex_var (s := ⟨.im, true⟩) (pv 1) rfl) (ex_var (s := ⟨.im, false⟩) (pv 5) rfl)) ex_int) (ex_var (s := ⟨.im, true⟩) (pv 3) rfl)))) (fun _ _ _ _ _ => (ex_ix (ex_var (s := ⟨.im, true⟩) (pv 2) rfl) (ex_var (s := ⟨.im, false⟩) (pv 5) rfl))))))) (gx_name (s := ⟨.im, false⟩) (pg_name (i := 4) nd rfl (by first | exact Or.inl rfl | exact Or.inr rfl)) rfl rfl)))
  (bx_one (sx_ret (n_of_ex (ex_add (ex_var (s := ⟨.im, false⟩) (pv 4) rfl) (ex_cb1 (fun h => pe_callB (cr_sum rfl) rfl T.b_sum rfl h) sc_sum (ex_of_n (nx_lc .im (pe_lc (own := [("k", 5)]) rfl nd (ix_r2 (ax_cons (ex_add (ex_var (s := ⟨.im, false⟩) (pv 3) rfl) ex_int) (ax_cons (ex_cb1 (fun h => pe_callB call_len rfl T.b_len rfl h) sc_len (ex_var (s := ⟨.im, false⟩) (pv 0) rfl)) ax_nil)) T.b_range) (blkOk_by (by kernel_rfl)) (fun _ _ _ _ _ => (gx_name (s := ⟨.im, false⟩) (pg_name (i := 5) nd rfl (by first | exact Or.inl rfl | exact Or.inr rfl)) rfl rfl)) (fun _ _ _ _ _ => (px_one (tx_cmpC (co_eq hu) (ex_ix (ex_ix (ex_var (s := ⟨.im, true⟩) (pv 0) rfl) (ex_var (s := ⟨.im, false⟩) (pv 5) rfl)) ex_int) (ex_var (s := ⟨.im, true⟩) (pv 3) rfl)))) (fun _ _ _ _ _ => (ex_of_n (nx_c (ax_cons (ex_var (s := ⟨.im, true⟩) (pv 0) rfl) (ax_cons (ex_var (s := ⟨.im, true⟩) (pv 1) rfl) (ax_cons (ex_var (s := ⟨.im, true⟩) (pv 2) rfl) (ax_cons (ex_var (s := ⟨.im, false⟩) (pv 5) rfl) ax_nil)))) C_law_load hr (by omega))))))))) rfl))))
noncomputable def mb_law_limit  : M Fl :=
  (mSeq (mFor (iR1 (aCons (eCb1 cLen (eVar 1)) aNil)) (setV 4 .im) (mSeq (mAsg (eOp2 dIx (eVar 1) (eOp2 dSub (eOp2 dSub (eCb1 cLen (eVar 1)) (eC (.int 1))) (eVar 4))) (setV 5 .im))
  (mIf (tAndM (tB1 (eOp2 dEq (eOp2 dIx (eVar 5) (eC (.int 0))) (eVar 2))) (tB1 (eChain dLe dLe (eOp2 dIx (eVar 5) (eC (.int 1))) (eVar 3) (eOp2 dSub (eOp2 dIx (eVar 5) (eC (.int 2))) (eC (.int 1)))))) (mRet (eSc (eOp2 dIx (eVar 5) (eC (.int 3))))) (ret .nx))))
  (mRet (eSc (eOp2 dIx (eOp2 dIx (eVar 0) (eVar 2)) (eC (.int 2))))))
theorem sc_law_limit : FnScope N_law_limit ["nodes", "orders", "node", "tick"] (defScope (top 27)) := ⟨rfl, rfl, rfl, by decide +kernel, rfl, by decide +kernel, by decide +kernel⟩
theorem bx_law_limit {P : Program} {w : World} {K : PySem.W.Frag} {mg : Str → Option Value} {base : Heap} {f : Addr} {fd : FuncData} {n : Nat}  (T : Tx K mg) (cdv : Value) (A : Around) (outer : List PySem.Env) (s : Shared) (H : Hp) (E : XK) (hr : Room (0) (A.deeper (envOfC "_law_limit" (defScope (top 27)) s.heap.objs.size f cdv))) : BX (cxOf CX0 P w K mg base N_law_limit "_law_limit" (defScope (top 27)) f cdv A outer s H E).nox (gx K) (κp_law_limit ++ κl_law_limit) .sc (defBody (top 27)) (mb_law_limit ) := by
  have nd := sc_law_limit.nd
  have hu := hr.units
  exact (bx_cons (sx_for (ps_for PassesOwn.never rfl (ix_r1 (ax_cons (ex_cb1 (fun h => pe_callB call_len rfl T.b_len rfl h) sc_len (ex_var (s := ⟨.im, false⟩) (pv 1) rfl)) ax_nil) T.b_range) (gx_name (s := ⟨.im, false⟩) (pg_name (i := 4) nd rfl (by first | exact Or.inl rfl | exact Or.inr rfl)) rfl rfl) (bx_cons (sx_asg rfl (ps_asg (ex_ix (ex_var (s := ⟨.im, false⟩) (pv 1) rfl) (ex_sub (ex_sub (ex_cb1 (fun h => pe_callB call_len rfl T.b_len rfl h) sc_len (ex_var (s := ⟨.im, false⟩) (pv 1) rfl)) ex_int) (ex_var (s := ⟨.im, false⟩) (pv 4) rfl))) (gx_name (s := ⟨.im, false⟩) (pg_name (i := 5) nd rfl (by first | exact Or.inl rfl | exact Or.inr rfl)) rfl rfl)))
  (bx_one (sx_if (tx_w (wx_and (tx_cmpC (co_eq hu) (ex_ix (ex_var (s := ⟨.im, false⟩) (pv 5) rfl) ex_int) (ex_var (s := ⟨.im, false⟩) (pv 2) rfl)) (wx_and1 (tx_chain co_le co_le (ex_ix (ex_var (s := ⟨.im, false⟩) (pv 5) rfl) ex_int) (ex_var (s := ⟨.im, false⟩) (pv 3) rfl) (ex_sub (ex_ix (ex_var (s := ⟨.im, false⟩) (pv 5) rfl) ex_int) ex_int))))) (bx_one (sx_ret (n_of_ex (ex_sc (ex_ix (ex_var (s := ⟨.im, false⟩) (pv 5) rfl) ex_int) rfl) rfl))) bx_nil)))))
  (bx_one (sx_ret (n_of_ex (ex_sc (ex_ix (ex_ix (ex_var (s := ⟨.im, false⟩) (pv 0) rfl) (ex_var (s := ⟨.im, false⟩) (pv 2) rfl)) ex_int) rfl) rfl))))
noncomputable def mb_law_way (c_law_way : DF) : M Fl :=
  (mSeq (mIf (tB1 (eOp2 dLt (eOp2 dIx (eOp2 dIx (eVar 0) (eVar 1)) (eC (.int 1))) (eC (.int 0)))) (mRet (eLst .im (aCons (eVar 1) aNil))) (ret .nx))
  (mRet (eOp2 (dCat .im) (eLst .im (aCons (eVar 1) aNil)) (eCall κp_law_way c_law_way (aCons (eVar 0) (aCons (eOp2 dIx (eOp2 dIx (eVar 0) (eVar 1)) (eC (.int 1))) aNil))))))
theorem sc_law_way : FnScope N_law_way ["nodes", "node"] (defScope (top 28)) := ⟨rfl, rfl, rfl, by decide +kernel, rfl, by decide +kernel, by decide +kernel⟩
theorem bx_law_way {P : Program} {w : World} {K : PySem.W.Frag} {mg : Str → Option Value} {base : Heap} {f : Addr} {fd : FuncData} {n : Nat} {c_law_way : DF} (T : Tx K mg) (C_law_way : Cal P w K mg base n "_law_way" (spM K (gx K) κp_law_way (.lst .im) c_law_way)) (cdv : Value) (A : Around) (outer : List PySem.Env) (s : Shared) (H : Hp) (E : XK) (hr : Room (n + 0) (A.deeper (envOfC "_law_way" (defScope (top 28)) s.heap.objs.size f cdv))) : BX (cxOf CX0 P w K mg base N_law_way "_law_way" (defScope (top 28)) f cdv A outer s H E).nox (gx K) (κp_law_way ++ κl_law_way) (.lst .im) (defBody (top 28)) (mb_law_way c_law_way) := by
  have nd := sc_law_way.nd
  have hu := hr.units
  exact (bx_cons (sx_if (tx_cmpC co_lt (ex_ix (ex_ix (ex_var (s := ⟨.im, false⟩) (pv 0) rfl) (ex_var (s := ⟨.im, false⟩) (pv 1) rfl)) ex_int) ex_int) (bx_one (sx_ret (nx_lst .im (ax_cons (ex_var (s := ⟨.im, false⟩) (pv 1) rfl) ax_nil)))) bx_nil)
  (bx_one (sx_ret (nx_cat .im (ex_of_n (nx_lst .im (ax_cons (ex_var (s := ⟨.im, false⟩) (pv 1) rfl) ax_nil))) (ex_of_n (nx_c (ax_cons (ex_var (s := ⟨.im, false⟩) (pv 0) rfl) (ax_cons (ex_ix (ex_ix (ex_var (s := ⟨.im, false⟩) (pv 0) rfl) (ex_var (s := ⟨.im, false⟩) (pv 1) rfl)) ex_int) ax_nil)) C_law_way hr (by omega)))))))
noncomputable def mb_law (c_law_nodes : DF) (c_law_orders : DF) (c_law_draw : DF) (c_Site__init : DF) (c_law_load : DF) (c_Site_loads : DF) (c_law_exact : DF) (c_law_limit : DF) (c_Site_limit : DF) (c_Site_excess : DF) (c_law_way : DF) (c_Site_above : DF) (c_Site_parts : DF) : M Fl :=
  (mSeq (mAsgN 1 (eLst .sc (aCons (eC (.int 0)) (aCons (eC (.int 0)) aNil))))
  (mSeq (mAsg (eCallIo 1 κr_law_nodes c_law_nodes (aCons (eVar 0) aNil)) (setV 2 .im))
  (mSeq (mAsg (eCallIo 1 κr_law_orders c_law_orders (aCons (eVar 0) (aCons (eCb1 cLen (eVar 2)) aNil))) (setV 3 .im))
  (mSeq (mAsgN 4 (eLst .im aNil))
  (mSeq (mFor (iR1 (aCons (eOp2 dIx (eLst .im (aCons (eC (.int 1)) (aCons (eC (.int 4)) (aCons (eC (.int 16)) aNil)))) (eCallIo 1 κr_law_draw c_law_draw (aCons (eVar 0) (aCons (eC (.int 3)) aNil)))) aNil)) (setV 5 .im) (mApp 4 .im (eTup (aCons (eOp2 dAddS (eC (.str "p")) (eCb1 cStr (eVar 5))) (aCons (eCallIo 1 κr_law_draw c_law_draw (aCons (eVar 0) (aCons (eCb1 cLen (eVar 2)) aNil))) (aCons (eOp2 dAdd (eC (.int 1)) (eCallIo 1 κr_law_draw c_law_draw (aCons (eVar 0) (aCons (eC (.int 99)) aNil)))) aNil))))))
  (mSeq (mAsg (eLc .im [5] (iR1 (aCons (eCb1 cLen (eVar 4)) aNil)) (setV 5 .im) (ret true) (eCallIo 1 κr_law_draw c_law_draw (aCons (eVar 0) (aCons (eOp2 dIx (eLst .im (aCons (eC (.int 4)) (aCons (eC (.int 100)) (aCons (eC (.int 1000)) aNil)))) (eCallIo 1 κr_law_draw c_law_draw (aCons (eVar 0) (aCons (eC (.int 3)) aNil)))) aNil)))) (setV 6 .im))
  (mSeq (mAsg (eMake "Site" κr_Site_init c_Site__init (aCons (eList .im (eVar 2)) (aCons (eListO (eVar 4)) (aCons (eList .im (eVar 3)) aNil)))) (setV 7 .im))
  (mSeq (mAsg (eOp2 (dCat .im) (eOp2 (dCat .im) (eLst .im (aCons (eC (.int 0)) (aCons (eC (.int 96)) aNil))) (eLc .im [18] (iSeq (eVar 3)) (setV 18 .im) (ret true) (eOp2 dIx (eVar 18) (eC (.int 1))))) (eLc .im [18] (iSeq (eVar 3)) (setV 18 .im) (ret true) (eOp2 dIx (eVar 18) (eC (.int 2))))) (setV 8 .im))
  (mSeq (mAsg (eOp2 (dCat .im) (eVar 8) (eLc .im [12] (iSeq (eVar 8)) (setV 12 .im) (ret true) (eCb cMax2 (aCons (eC (.int 0)) (aCons (eOp2 dSub (eVar 12) (eC (.int 1))) aNil))))) (setV 8 .im))
  (mSeq (mAsg (eLc .im [13] (iR1 (aCons (eCb1 cLen (eVar 2)) aNil)) (setV 13 .im) (ret true) (eCall κp_law_load c_law_load (aCons (eVar 2) (aCons (eVar 4) (aCons (eVar 6) (aCons (eVar 13) aNil)))))) (setV 9 .im))
  (mSeq (mAsg (eList .im (eVar 6)) (setV 10 .im))
  (mSeq (mAsgN 11 (eMeth "Site" "loads" κp_Site_loads c_Site_loads (eVar 7) (aCons (eVar 10) aNil)))
  (mSeq (mIf (tOrM (tNotM (tTru (eCall κp_law_exact c_law_exact (aCons (eVar 9) (aCons (eVar 11) aNil))))) (tOrM (tB1 (eOp2 dNe (eOp2 dIx (eVar 9) (eC (.int 0))) (eCb1 cSum (eVar 6)))) (tB1 (eOp2 dNe (eVar 10) (eVar 6))))) (mRet (eC (.bl false))) (ret .nx))
  (mSeq (mApp 11 .sc (eC (.int 7)))
  (mSeq (mFor (iSeq (eVar 8)) (setV 12 .im) (mSeq (mAsg (eLc .im [13] (iR1 (aCons (eCb1 cLen (eVar 2)) aNil)) (setV 13 .im) (ret true) (eCall κp_law_limit c_law_limit (aCons (eVar 2) (aCons (eVar 3) (aCons (eVar 13) (aCons (eVar 12) aNil)))))) (setV 14 .im))
  (mSeq (mIf (tNotM (tTru (eCall κp_law_exact c_law_exact (aCons (eVar 14) (aCons (eLc .im [13] (iR1 (aCons (eCb1 cLen (eVar 2)) aNil)) (setV 13 .im) (ret true) (eMeth "Site" "limit" κp_Site_limit c_Site_limit (eVar 7) (aCons (eVar 13) (aCons (eVar 12) aNil)))) aNil))))) (mRet (eC (.bl false))) (ret .nx))
  (mSeq (mAsg (eOp2 (dCat .im) (eLc .im [13] (iR1 (aCons (eCb1 cLen (eVar 2)) aNil)) (setV 13 .im) (tB1 (eOp2 dGt (eOp2 dIx (eVar 9) (eVar 13)) (eOp2 dIx (eVar 14) (eVar 13)))) (eVar 13)) (eLst .im (aCons (eC .non) aNil))) (setV 15 .im))
  (mSeq (mIf (tNotM (tTru (eCall κp_law_exact c_law_exact (aCons (eOp2 dIx (eVar 15) (eC (.int 0))) (aCons (eMeth "Site" "excess" κp_Site_excess c_Site_excess (eVar 7) (aCons (eVar 12) (aCons (eVar 10) aNil))) aNil))))) (mRet (eC (.bl false))) (ret .nx))
  (mSeq (mAsgN 16 (eLc .im [5] (iR1 (aCons (eCb1 cLen (eVar 4)) aNil)) (setV 5 .im) (ret true) (eCb cMax2 (aCons (eC (.int 0)) (aCons (eOp2 dDiv (eCb1 cMin (eLc .im [13] (iSeq (eCall κp_law_way c_law_way (aCons (eVar 2) (aCons (eOp2 dIx (eOp2 dIxO (eVar 4) (eVar 5)) (eC (.int 1))) aNil)))) (setV 13 .im) (ret true) (eOp2 dIx (eVar 14) (eVar 13)))) (eCb1 cLen (eVar 4))) aNil)))))
  (mIf (tNotM (tTru (eCall κp_law_exact c_law_exact (aCons (eC .non) (aCons (eMeth "Site" "excess" κp_Site_excess c_Site_excess (eVar 7) (aCons (eVar 12) (aCons (eLc .im [18] (iSeq (eVar 16)) (setV 18 .im) (ret true) (eCb cMin2 (aCons (eVar 18) (aCons (eC (.int 999)) aNil)))) aNil))) aNil))))) (mRet (eC (.bl false))) (ret .nx))))))))
  (mSeq (mFor (iR1 (aCons (eCb1 cLen (eVar 2)) aNil)) (setV 13 .im) (mSeq (mAsgN 17 (eMeth "Site" "above" κp_Site_above c_Site_above (eVar 7) (aCons (eVar 13) aNil)))
  (mSeq (mIf (tNotM (tTru (eCall κp_law_exact c_law_exact (aCons (eCall κp_law_way c_law_way (aCons (eVar 2) (aCons (eVar 13) aNil))) (aCons (eVar 17) aNil))))) (mRet (eC (.bl false))) (ret .nx))
  (mApp 17 .sc (eC (.int 0))))))
  (mRet (eAndM (eCall κp_law_exact c_law_exact (aCons (eVar 9) (aCons (eMeth "Site" "loads" κp_Site_loads c_Site_loads (eVar 7) (aCons (eVar 10) aNil)) aNil))) (eAndM (eOp2 dEq (eVar 10) (eVar 6)) (eSc (eCall κp_law_exact c_law_exact (aCons (eTup (aCons (eTuple (eVar 2)) (aCons (eTupleO (eVar 4)) (aCons (eTuple (eVar 3)) aNil)))) (aCons (eMeth "Site" "parts" κp_Site_parts c_Site_parts (eVar 7) aNil) aNil)))))))))))))))))))))))
theorem sc_law : FnScope N_law ["script"] (defScope (top 29)) := ⟨rfl, rfl, rfl, by decide +kernel, rfl, by decide +kernel, by decide +kernel⟩
theorem bx_law {P : Program} {w : World} {K : PySem.W.Frag} {mg : Str → Option Value} {base : Heap} {f : Addr} {fd : FuncData} {n : Nat} {c_law_nodes : DF} {c_law_orders : DF} {c_law_draw : DF} {c_Site__init : DF} {c_law_load : DF} {c_Site_loads : DF} {c_law_exact : DF} {c_law_limit : DF} {c_Site_limit : DF} {c_Site_excess : DF} {c_law_way : DF} {c_Site_above : DF} {c_Site_parts : DF} (T : Tx K mg) (C_law_nodes : Cal P w K mg base 3 "_law_nodes" (spM K (gx K) (⟨(.lst .sc), true⟩ :: κr_law_nodes) (.lst .im) c_law_nodes)) (C_law_orders : Cal P w K mg base 3 "_law_orders" (spM K (gx K) (⟨(.lst .sc), true⟩ :: κr_law_orders) (.lst .im) c_law_orders)) (C_law_draw : Cal P w K mg base 2 "_law_draw" (spM K (gx K) (⟨(.lst .sc), true⟩ :: κr_law_draw) .sc c_law_draw)) (C_Site__init : Mak P w K mg base 4 "Site" ((gx K).cl "Site") (spM K (gx K) (⟨.ins "Site", true⟩ :: κr_Site_init) .sc c_Site__init)) (C_law_load : Cal P w K mg base 24 "_law_load" (spM K (gx K) κp_law_load .sc c_law_load)) (C_Site_loads : Met P w K mg base 2 ((gx K).cl "Site") "loads" (spM K (gx K) κp_Site_loads (.lst .sc) c_Site_loads)) (C_law_exact : Cal P w K mg base 4 "_law_exact" (spM K (gx K) κp_law_exact .sc c_law_exact)) (C_law_limit : Cal P w K mg base 1 "_law_limit" (spM K (gx K) κp_law_limit .sc c_law_limit)) (C_Site_limit : Met P w K mg base 1 ((gx K).cl "Site") "limit" (spM K (gx K) κp_Site_limit .sc c_Site_limit)) (C_Site_excess : Met P w K mg base 3 ((gx K).cl "Site") "excess" (spM K (gx K) κp_Site_excess .sc c_Site_excess)) (C_law_way : Cal P w K mg base 24 "_law_way" (spM K (gx K) κp_law_way (.lst .im) c_law_way)) (C_Site_above : Met P w K mg base 1 ((gx K).cl "Site") "above" (spM K (gx K) κp_Site_above (.lst .sc) c_Site_above)) (C_Site_parts : Met P w K mg base 1 ((gx K).cl "Site") "parts" (spM K (gx K) κp_Site_parts .im c_Site_parts)) (cdv : Value) (A : Around) (outer : List PySem.Env) (s : Shared) (H : Hp) (E : XK) (hr : Room (24) (A.deeper (envOfC "law" (defScope (top 29)) s.heap.objs.size f cdv))) : BX (cxOf CX0 P w K mg base N_law "law" (defScope (top 29)) f cdv A outer s H E).nox (gx K) (κp_law ++ κl_law) .sc (defBody (top 29)) (mb_law c_law_nodes c_law_orders c_law_draw c_Site__init c_law_load c_Site_loads c_law_exact c_law_limit c_Site_limit c_Site_excess c_law_way c_Site_above c_Site_parts) := by
  have nd := sc_law.nd
  have hu := hr.units
  exact (bx_cons (sx_asgN (s := ⟨(.lst .sc), false⟩) (ps_asg (nx_lst .sc (ax_cons ex_int (ax_cons ex_int ax_nil))) (pg_name (i := 1) nd rfl (by first | exact Or.inl rfl | exact Or.inr rfl))) rfl rfl rfl)
  (bx_cons (sx_asg rfl (ps_asg (ex_of_n (nx_cIo (s := ⟨(.lst .sc), false⟩) (pv 1) (ax_cons (ex_var (s := ⟨.im, false⟩) (pv 0) rfl) ax_nil) C_law_nodes hr (by omega) rfl)) (gx_name (s := ⟨.im, false⟩) (pg_name (i := 2) nd rfl (by first | exact Or.inl rfl | exact Or.inr rfl)) rfl rfl)))
  (bx_cons (sx_asg rfl (ps_asg (ex_of_n (nx_cIo (s := ⟨(.lst .sc), false⟩) (pv 1) (ax_cons (ex_var (s := ⟨.im, false⟩) (pv 0) rfl) (ax_cons (ex_cb1 (fun h => pe_callB call_len rfl T.b_len rfl h) sc_len (ex_var (s := ⟨.im, false⟩) (pv 2) rfl)) ax_nil)) C_law_orders hr (by omega) rfl)) (gx_name (s := ⟨.im, false⟩) (pg_name (i := 3) nd rfl (by first | exact Or.inl rfl | exact Or.inr rfl)) rfl rfl)))
  (bx_cons (sx_asgN (s := ⟨(.lst .im), false⟩) (ps_asg (nx_lst .im ax_nil) (pg_name (i := 4) nd rfl (by first | exact Or.inl rfl | exact Or.inr rfl))) rfl rfl rfl)
  (bx_cons (sx_for (ps_for PassesOwn.never rfl (ix_r1 (ax_cons (ex_ix (ex_of_n (nx_lst .im (ax_cons ex_int (ax_cons ex_int (ax_cons ex_int ax_nil))))) (ex_of_n (nx_cIo (s := ⟨(.lst .sc), false⟩) (pv 1) (ax_cons (ex_var (s := ⟨.im, false⟩) (pv 0) rfl) (ax_cons ex_int ax_nil)) C_law_draw hr (by omega) rfl))) ax_nil) T.b_range) (gx_name (s := ⟨.im, false⟩) (pg_name (i := 5) nd rfl (by first | exact Or.inl rfl | exact Or.inr rfl)) rfl rfl) (bx_one (sx_app (s := ⟨(.lst .im), false⟩) (ps_expr (pe_bm PySem.F.plainAttrs_list PySem.F.slot_list_append PySem.F.type_list_append mt_append (pv 4) (pa_cons (ex_tup (ax_cons (ex_addS ex_str (ex_cb1 (fun h => pe_callTy call_str_int rfl T.b_str rfl h) sc_str (ex_var (s := ⟨.im, false⟩) (pv 5) rfl))) (ax_cons (ex_of_n (nx_cIo (s := ⟨(.lst .sc), false⟩) (pv 1) (ax_cons (ex_var (s := ⟨.im, false⟩) (pv 0) rfl) (ax_cons (ex_cb1 (fun h => pe_callB call_len rfl T.b_len rfl h) sc_len (ex_var (s := ⟨.im, false⟩) (pv 2) rfl)) ax_nil)) C_law_draw hr (by omega) rfl)) (ax_cons (ex_add ex_int (ex_of_n (nx_cIo (s := ⟨(.lst .sc), false⟩) (pv 1) (ax_cons (ex_var (s := ⟨.im, false⟩) (pv 0) rfl) (ax_cons ex_int ax_nil)) C_law_draw hr (by omega) rfl))) ax_nil)))) pa_nil))) rfl rfl))))
  (bx_cons (sx_asg rfl (ps_asg (ex_of_n (nx_lc .im (pe_lc (own := [("k", 5)]) rfl nd (ix_r1 (ax_cons (ex_cb1 (fun h => pe_callB call_len rfl T.b_len rfl h) sc_len (ex_var (s := ⟨(.lst .im), false⟩) (pv 4) rfl)) ax_nil) T.b_range) (blkOk_by (by kernel_rfl)) (fun _ _ _ _ _ => (gx_name (s := ⟨.im, false⟩) (pg_name (i := 5) nd rfl (by first | exact Or.inl rfl | exact Or.inr rfl)) rfl rfl)) (fun _ _ _ _ _ => px_nil) (fun _ _ _ _ _ => (ex_of_n (nx_cIo (s := ⟨(.lst .sc), true⟩) (pv 1) (ax_cons (ex_var (s := ⟨.im, true⟩) (pv 0) rfl) (ax_cons (ex_ix (ex_of_n (nx_lst .im (ax_cons ex_int (ax_cons ex_int (ax_cons ex_int ax_nil))))) (ex_of_n (nx_cIo (s := ⟨(.lst .sc), true⟩) (pv 1) (ax_cons (ex_var (s := ⟨.im, true⟩) (pv 0) rfl) (ax_cons ex_int ax_nil)) C_law_draw hr (by omega) rfl))) ax_nil)) C_law_draw hr (by omega) rfl)))))) (gx_name (s := ⟨.im, false⟩) (pg_name (i := 6) nd rfl (by first | exact Or.inl rfl | exact Or.inr rfl)) rfl rfl)))
  (bx_cons (sx_asg rfl (ps_asg (ex_of_n (nx_mk (ax_cons (ex_of_n (nx_list .im (fun h => pe_callTy call_list_of rfl T.b_list rfl h) (ex_var (s := ⟨.im, false⟩) (pv 2) rfl))) (ax_cons (ex_of_n (nx_listO (fun h => pe_callTy call_list_of rfl T.b_list rfl h) (ex_var (s := ⟨(.lst .im), false⟩) (pv 4) rfl))) (ax_cons (ex_of_n (nx_list .im (fun h => pe_callTy call_list_of rfl T.b_list rfl h) (ex_var (s := ⟨.im, false⟩) (pv 3) rfl))) ax_nil))) C_Site__init hr (by omega))) (gx_name (s := ⟨.im, false⟩) (pg_name (i := 7) nd rfl (by first | exact Or.inl rfl | exact Or.inr rfl)) rfl rfl)))
  (bx_cons (sx_asg rfl (ps_asg (ex_of_n (nx_cat .im (ex_of_n (nx_cat .im (ex_of_n (nx_lst .im (ax_cons ex_int (ax_cons ex_int ax_nil)))) (ex_of_n (nx_lc .im (pe_lc (own := [("one", 18)]) rfl nd (ix_seq' (ex_var (s := ⟨.im, false⟩) (pv 3) rfl)) (blkOk_by (by kernel_rfl)) (fun _ _ _ _ _ => (gx_name (s := ⟨.im, false⟩) (pg_name (i := 18) nd rfl (by first | exact Or.inl rfl | exact Or.inr rfl)) rfl rfl)) (fun _ _ _ _ _ => px_nil) (fun _ _ _ _ _ => (ex_ix (ex_var (s := ⟨.im, false⟩) (pv 18) rfl) ex_int))))))) (ex_of_n (nx_lc .im (pe_lc (own := [("one", 18)]) rfl nd (ix_seq' (ex_var (s := ⟨.im, false⟩) (pv 3) rfl)) (blkOk_by (by kernel_rfl)) (fun _ _ _ _ _ => (gx_name (s := ⟨.im, false⟩) (pg_name (i := 18) nd rfl (by first | exact Or.inl rfl | exact Or.inr rfl)) rfl rfl)) (fun _ _ _ _ _ => px_nil) (fun _ _ _ _ _ => (ex_ix (ex_var (s := ⟨.im, false⟩) (pv 18) rfl) ex_int))))))) (gx_name (s := ⟨.im, false⟩) (pg_name (i := 8) nd rfl (by first | exact Or.inl rfl | exact Or.inr rfl)) rfl rfl)))
  (bx_cons (sx_asg rfl (ps_asg (ex_of_n (nx_cat .im (ex_var (s := ⟨.im, false⟩) (pv 8) rfl) (ex_of_n (nx_lc .im (pe_lc (own := [("tick", 12)]) rfl nd (ix_seq' (ex_var (s := ⟨.im, false⟩) (pv 8) rfl)) (blkOk_by (by kernel_rfl)) (fun _ _ _ _ _ => (gx_name (s := ⟨.im, false⟩) (pg_name (i := 12) nd rfl (by first | exact Or.inl rfl | exact Or.inr rfl)) rfl rfl)) (fun _ _ _ _ _ => px_nil) (fun _ _ _ _ _ => (ex_cb (fun h => pe_callB (call_max2 rfl) rfl T.b_max rfl h) sc_max2 (ax_cons ex_int (ax_cons (ex_sub (ex_var (s := ⟨.im, false⟩) (pv 12) rfl) ex_int) ax_nil))))))))) (gx_name (s := ⟨.im, false⟩) (pg_name (i := 8) nd rfl (by first | exact Or.inl rfl | exact Or.inr rfl)) rfl rfl)))
  (bx_cons (sx_asg rfl (ps_asg (ex_of_n (nx_lc .im (pe_lc (own := [("node", 13)]) rfl nd (ix_r1 (ax_cons (ex_cb1 (fun h => pe_callB call_len rfl T.b_len rfl h) sc_len (ex_var (s := ⟨.im, false⟩) (pv 2) rfl)) ax_nil) T.b_range) (blkOk_by (by kernel_rfl)) (fun _ _ _ _ _ => (gx_name (s := ⟨.im, false⟩) (pg_name (i := 13) nd rfl (by first | exact Or.inl rfl | exact Or.inr rfl)) rfl rfl)) (fun _ _ _ _ _ => px_nil) (fun _ _ _ _ _ => (ex_of_n (nx_cV (vx_cons (ex_var (s := ⟨.im, true⟩) (pv 2) rfl) (vx_cons (ex_var (s := ⟨(.lst .im), true⟩) (pv 4) rfl) (vx_cons (ex_var (s := ⟨.im, true⟩) (pv 6) rfl) (vx_cons (ex_var (s := ⟨.im, false⟩) (pv 13) rfl) vx_nil)))) C_law_load hr (by omega))))))) (gx_name (s := ⟨.im, false⟩) (pg_name (i := 9) nd rfl (by first | exact Or.inl rfl | exact Or.inr rfl)) rfl rfl)))
  (bx_cons (sx_asg rfl (ps_asg (ex_of_n (nx_list .im (fun h => pe_callTy call_list_of rfl T.b_list rfl h) (ex_var (s := ⟨.im, false⟩) (pv 6) rfl))) (gx_name (s := ⟨.im, false⟩) (pg_name (i := 10) nd rfl (by first | exact Or.inl rfl | exact Or.inr rfl)) rfl rfl)))
  (bx_cons (sx_asgN (s := ⟨(.lst .sc), false⟩) (ps_asg (nx_m (ex_var (s := ⟨.im, false⟩) (pv 7) rfl) (ax_cons (ex_var (s := ⟨.im, false⟩) (pv 10) rfl) ax_nil) C_Site_loads hr (by omega)) (pg_name (i := 11) nd rfl (by first | exact Or.inl rfl | exact Or.inr rfl))) rfl rfl rfl)
  (bx_cons (sx_if (tx_w (wx_or (tx_not (tx_truth (ex_of_n (nx_cV (vx_cons (ex_var (s := ⟨.im, false⟩) (pv 9) rfl) (vx_cons (ex_var (s := ⟨(.lst .sc), false⟩) (pv 11) rfl) vx_nil)) C_law_exact hr (by omega))))) (wx_or (tx_cmpC (co_ne hu) (ex_ix (ex_var (s := ⟨.im, false⟩) (pv 9) rfl) ex_int) (ex_cb1 (fun h => pe_callB (cr_sum rfl) rfl T.b_sum rfl h) sc_sum (ex_var (s := ⟨.im, false⟩) (pv 6) rfl))) (wx_or1 (tx_cmpC (co_ne hu) (ex_var (s := ⟨.im, false⟩) (pv 10) rfl) (ex_var (s := ⟨.im, false⟩) (pv 6) rfl)))))) (bx_one (sx_ret (n_of_ex ex_bl rfl))) bx_nil)
  (bx_cons (sx_app (s := ⟨(.lst .sc), false⟩) (ps_expr (pe_bm PySem.F.plainAttrs_list PySem.F.slot_list_append PySem.F.type_list_append mt_append (pv 11) (pa_cons ex_int pa_nil))) rfl rfl)
  (bx_cons (sx_for (ps_for PassesOwn.never rfl (ix_seq' (ex_var (s := ⟨.im, false⟩) (pv 8) rfl)) (gx_name (s := ⟨.im, false⟩) (pg_name (i := 12) nd rfl (by first | exact Or.inl rfl | exact Or.inr rfl)) rfl rfl) (bx_cons (sx_asg rfl (ps_asg (ex_of_n (nx_lc .im (pe_lc (own := [("node", 13)]) rfl nd (ix_r1 (ax_cons (ex_cb1 (fun h => pe_callB call_len rfl T.b_len rfl h) sc_len (ex_var (s := ⟨.im, false⟩) (pv 2) rfl)) ax_nil) T.b_range) (blkOk_by (by kernel_rfl)) (fun _ _ _ _ _ => (gx_name (s := ⟨.im, false⟩) (pg_name (i := 13) nd rfl (by first | exact Or.inl rfl | exact Or.inr rfl)) rfl rfl)) (fun _ _ _ _ _ => px_nil) (fun _ _ _ _ _ => (ex_of_n (nx_c (ax_cons (ex_var (s := ⟨.im, true⟩) (pv 2) rfl) (ax_cons (ex_var (s := ⟨.im, true⟩) (pv 3) rfl) (ax_cons (ex_var (s := ⟨.im, false⟩) (pv 13) rfl) (ax_cons (ex_var (s := ⟨.im, true⟩) (pv 12) rfl) ax_nil)))) C_law_limit hr (by omega))))))) (gx_name (s := ⟨.im, false⟩) (pg_name (i := 14) nd rfl (by first | exact Or.inl rfl | exact Or.inr rfl)) rfl rfl)))
  (bx_cons (sx_if (tx_not (tx_truth (ex_of_n (nx_c (ax_cons (ex_var (s := ⟨.im, false⟩) (pv 14) rfl) (ax_cons (ex_of_n (nx_lc .im (pe_lc (own := [("node", 13)]) rfl nd (ix_r1 (ax_cons (ex_cb1 (fun h => pe_callB call_len rfl T.b_len rfl h) sc_len (ex_var (s := ⟨.im, false⟩) (pv 2) rfl)) ax_nil) T.b_range) (blkOk_by (by kernel_rfl)) (fun _ _ _ _ _ => (gx_name (s := ⟨.im, false⟩) (pg_name (i := 13) nd rfl (by first | exact Or.inl rfl | exact Or.inr rfl)) rfl rfl)) (fun _ _ _ _ _ => px_nil) (fun _ _ _ _ _ => (ex_of_n (nx_m (ex_var (s := ⟨.im, true⟩) (pv 7) rfl) (ax_cons (ex_var (s := ⟨.im, false⟩) (pv 13) rfl) (ax_cons (ex_var (s := ⟨.im, true⟩) (pv 12) rfl) ax_nil)) C_Site_limit hr (by omega))))))) ax_nil)) C_law_exact hr (by omega))))) (bx_one (sx_ret (n_of_ex ex_bl rfl))) bx_nil)
  (bx_cons (sx_asg rfl (ps_asg (ex_of_n (nx_cat .im (ex_of_n (nx_lc .im (pe_lc (own := [("node", 13)]) rfl nd (ix_r1 (ax_cons (ex_cb1 (fun h => pe_callB call_len rfl T.b_len rfl h) sc_len (ex_var (s := ⟨.im, false⟩) (pv 2) rfl)) ax_nil) T.b_range) (blkOk_by (by kernel_rfl)) (fun _ _ _ _ _ => (gx_name (s := ⟨.im, false⟩) (pg_name (i := 13) nd rfl (by first | exact Or.inl rfl | exact Or.inr rfl)) rfl rfl)) (fun _ _ _ _ _ => (px_one (tx_cmpC co_gt (ex_ix (ex_var (s := ⟨.im, true⟩) (pv 9) rfl) (ex_var (s := ⟨.im, false⟩) (pv 13) rfl)) (ex_ix (ex_var (s := ⟨.im, true⟩) (pv 14) rfl) (ex_var (s := ⟨.im, false⟩) (pv 13) rfl))))) (fun _ _ _ _ _ => (ex_var (s := ⟨.im, false⟩) (pv 13) rfl))))) (ex_of_n (nx_lst .im (ax_cons ex_non ax_nil))))) (gx_name (s := ⟨.im, false⟩) (pg_name (i := 15) nd rfl (by first | exact Or.inl rfl | exact Or.inr rfl)) rfl rfl)))
  (bx_cons (sx_if (tx_not (tx_truth (ex_of_n (nx_c (ax_cons (ex_ix (ex_var (s := ⟨.im, false⟩) (pv 15) rfl) ex_int) (ax_cons (ex_of_n (nx_m (ex_var (s := ⟨.im, false⟩) (pv 7) rfl) (ax_cons (ex_var (s := ⟨.im, false⟩) (pv 12) rfl) (ax_cons (ex_var (s := ⟨.im, false⟩) (pv 10) rfl) ax_nil)) C_Site_excess hr (by omega))) ax_nil)) C_law_exact hr (by omega))))) (bx_one (sx_ret (n_of_ex ex_bl rfl))) bx_nil)
  (bx_cons (sx_setLc (s := ⟨.im, false⟩) (ps_setLc (i := 16) (own := [("k", 5)]) rfl nd rfl rfl (sw_true rfl rfl rfl (by kernel_rfl)) (ix_r1 (ax_cons (ex_cb1 (fun h => pe_callB call_len rfl T.b_len rfl h) sc_len (ex_var (s := ⟨(.lst .im), false⟩) (pv 4) rfl)) ax_nil) T.b_range) (blkOk_by (by kernel_rfl)) (fun _ _ _ _ _ => (gx_name (s := ⟨.im, false⟩) (pg_name (i := 5) nd rfl (by first | exact Or.inl rfl | exact Or.inr rfl)) rfl rfl)) (fun _ _ _ _ _ => px_nil) (fun _ _ _ _ _ => (ex_cb (fun h => pe_callB (call_max2 rfl) rfl T.b_max rfl h) sc_max2 (ax_cons ex_int (ax_cons (ex_div (ex_cb1 (fun h => pe_callB (cr_min rfl) rfl T.b_min rfl h) sc_min (ex_of_n (nx_lc .im (pe_lc (own := [("node", 13)]) rfl nd (ix_seq' (ex_of_n (nx_c (ax_cons (ex_var (s := ⟨.im, true⟩) (pv 2) rfl) (ax_cons (ex_ix (ex_ixO (ex_var (s := ⟨(.lst .im), true⟩) (pv 4) rfl) (ex_var (s := ⟨.im, false⟩) (pv 5) rfl)) ex_int) ax_nil)) C_law_way hr (by omega)))) (blkOk_by (by kernel_rfl)) (fun _ _ _ _ _ => (gx_name (s := ⟨.im, false⟩) (pg_name (i := 13) nd rfl (by first | exact Or.inl rfl | exact Or.inr rfl)) rfl rfl)) (fun _ _ _ _ _ => px_nil) (fun _ _ _ _ _ => (ex_ix (ex_var (s := ⟨.im, true⟩) (pv 14) rfl) (ex_var (s := ⟨.im, false⟩) (pv 13) rfl))))))) (ex_cb1 (fun h => pe_callB call_len rfl T.b_len rfl h) sc_len (ex_var (s := ⟨(.lst .im), true⟩) (pv 4) rfl))) ax_nil))))) rfl rfl rfl)
  (bx_one (sx_if (tx_not (tx_truth (ex_of_n (nx_c (ax_cons ex_non (ax_cons (ex_of_n (nx_m (ex_var (s := ⟨.im, false⟩) (pv 7) rfl) (ax_cons (ex_var (s := ⟨.im, false⟩) (pv 12) rfl) (ax_cons (ex_of_n (nx_lc .im (pe_lc (own := [("one", 18)]) rfl nd (ix_seq' (ex_var (s := ⟨.im, false⟩) (pv 16) rfl)) (blkOk_by (by kernel_rfl)) (fun _ _ _ _ _ => (gx_name (s := ⟨.im, false⟩) (pg_name (i := 18) nd rfl (by first | exact Or.inl rfl | exact Or.inr rfl)) rfl rfl)) (fun _ _ _ _ _ => px_nil) (fun _ _ _ _ _ => (ex_cb (fun h => pe_callB (call_min2 rfl) rfl T.b_min rfl h) sc_min2 (ax_cons (ex_var (s := ⟨.im, false⟩) (pv 18) rfl) (ax_cons ex_int ax_nil))))))) ax_nil)) C_Site_excess hr (by omega))) ax_nil)) C_law_exact hr (by omega))))) (bx_one (sx_ret (n_of_ex ex_bl rfl))) bx_nil)))))))))
  (bx_cons (sx_for (ps_for PassesOwn.never rfl (ix_r1 (ax_cons (ex_cb1 (fun h => pe_callB call_len rfl T.b_len rfl h) sc_len (ex_var (s := ⟨.im, false⟩) (pv 2) rfl)) ax_nil) T.b_range) (gx_name (s := ⟨.im, false⟩) (pg_name (i := 13) nd rfl (by first | exact Or.inl rfl | exact Or.inr rfl)) rfl rfl) (bx_cons (sx_asgN (s := ⟨(.lst .sc), false⟩) (ps_asg (nx_m (ex_var (s := ⟨.im, false⟩) (pv 7) rfl) (ax_cons (ex_var (s := ⟨.im, false⟩) (pv 13) rfl) ax_nil) C_Site_above hr (by omega)) (pg_name (i := 17) nd rfl (by first | exact Or.inl rfl | exact Or.inr rfl))) rfl rfl rfl)
  (bx_cons (sx_if (tx_not (tx_truth (ex_of_n (nx_cV (vx_cons (ex_of_n (nx_c (ax_cons (ex_var (s := ⟨.im, false⟩) (pv 2) rfl) (ax_cons (ex_var (s := ⟨.im, false⟩) (pv 13) rfl) ax_nil)) C_law_way hr (by omega))) (vx_cons (ex_var (s := ⟨(.lst .sc), false⟩) (pv 17) rfl) vx_nil)) C_law_exact hr (by omega))))) (bx_one (sx_ret (n_of_ex ex_bl rfl))) bx_nil)
  (bx_one (sx_app (s := ⟨(.lst .sc), false⟩) (ps_expr (pe_bm PySem.F.plainAttrs_list PySem.F.slot_list_append PySem.F.type_list_append mt_append (pv 17) (pa_cons ex_int pa_nil))) rfl rfl))))))
  (bx_one (sx_ret (n_of_ex (ex_and (ex_of_n (nx_c (ax_cons (ex_var (s := ⟨.im, false⟩) (pv 9) rfl) (ax_cons (ex_of_n (nx_m (ex_var (s := ⟨.im, false⟩) (pv 7) rfl) (ax_cons (ex_var (s := ⟨.im, false⟩) (pv 10) rfl) ax_nil) C_Site_loads hr (by omega))) ax_nil)) C_law_exact hr (by omega))) (ex_and (ex_cmpC (co_eq hu) (ex_var (s := ⟨.im, false⟩) (pv 10) rfl) (ex_var (s := ⟨.im, false⟩) (pv 6) rfl)) (ex_one (ex_sc (ex_of_n (nx_c (ax_cons (ex_tup (ax_cons (ex_tuple (fun h => pe_callTy call_tuple_of rfl T.b_tuple rfl h) (ex_var (s := ⟨.im, false⟩) (pv 2) rfl)) (ax_cons (ex_tupleO (fun h => pe_callTy call_tuple_of rfl T.b_tuple rfl h) (ex_var (s := ⟨(.lst .im), false⟩) (pv 4) rfl)) (ax_cons (ex_tuple (fun h => pe_callTy call_tuple_of rfl T.b_tuple rfl h) (ex_var (s := ⟨.im, false⟩) (pv 3) rfl)) ax_nil)))) (ax_cons (ex_of_n (nx_m0 (ex_var (s := ⟨.im, false⟩) (pv 7) rfl) C_Site_parts hr (by omega))) ax_nil)) C_law_exact hr (by omega))) rfl)))) rfl)))))))))))))))))))
end HT

set_option maxHeartbeats 4000000
namespace HT
open PySem PySem.Spec PyProof.Rows L2 DL
def Sp_require (c : DF) : Prop := ∀ p r i, c [.bl true, p, r, i] = some (.non, [.bl true, p, r, i])
theorem ev_require : Sp_require (runD κp_require κl_require.length .sc mb_require) := fun p r i => by
  refine W_runE ?_
  simp [mb_require, κp_require, κl_require, outs, Kd.fl]
def Sp_refill (c : DF) : Prop := ∀ (ns : List Int) (k : Int), ∃ z : Int, c [.scr ns, .int k] = some (.int z, [.scr ns, .int k])
theorem ev_refill : Sp_refill (runD κp_law_refill κl_law_refill.length .sc mb_law_refill) := fun ns k => by
  have : ∃ r o, runD κp_law_refill κl_law_refill.length .sc mb_law_refill [.scr ns, .int k] = some (r, o) ∧ (∃ z, r = .int z) ∧ o = [.scr ns, .int k] := by
    refine W_run ?_
    unfold mb_law_refill
    refine W_seq (fun ρ => ∃ z, ρ = [some (.scr ns), some (.int k), some (.int z)]) (by simp [κl_law_refill]) ?_
    rintro _ ⟨z0, rfl⟩
    refine W_seq (fun ρ => ∃ z, ρ = [some (.scr ns), some (.int k), some (.int z)]) ?_ ?_
    · by_cases he : ns = []
      · simp [he]
      · have hl : 0 < ns.length := List.length_pos_iff.mpr he
        have h1 := Int.emod_nonneg k (show (ns.length : Int) ≠ 0 by omega)
        have h2 := Int.emod_lt_of_pos k (show 0 < (ns.length : Int) by omega)
        have h3 : (k % (ns.length : Int)).toNat < ns.length := by omega
        have hz := atI_of h1 (List.getElem?_eq_getElem h3)
        simp [he, hl, hz]
    rintro _ ⟨z1, rfl⟩
    refine W_seq (fun ρ => ∃ z, ρ = [some (.scr ns), some (.int k), some (.int z)]) ?_ ?_
    · by_cases h : z1 < 0 <;> simp [h, dMul_int] <;> omega
    rintro _ ⟨z2, rfl⟩
    by_cases h : 1000000000000000000 ≤ z2 <;> by_cases h2 : k < ns.length <;> simp [h, h2, dMul_r, dPow, dInt2, outs, κp_law_refill] <;> omega
  obtain ⟨r, o, h, ⟨z, rfl⟩, rfl⟩ := this
  exact ⟨z, h⟩
/-- a draw: a digit below its size -/
def Sp_draw (c : DF) : Prop := ∀ (ns : List Int) (a b n : Int), 0 < n → n < 1073741824 → ∃ d a' b' : Int, c [.lst [.int a, .int b], .scr ns, .int n] = some (.int d, [.lst [.int a', .int b'], .scr ns, .int n]) ∧ 0 ≤ d ∧ d < n
theorem ev_draw {cr : DF} (hr : Sp_refill cr) : Sp_draw (runD κp_law_draw κl_law_draw.length .sc (mb_law_draw cr)) := fun ns a b n h0 h1 => by
  have : ∃ r o, runD κp_law_draw κl_law_draw.length .sc (mb_law_draw cr) [.lst [.int a, .int b], .scr ns, .int n] = some (r, o) ∧ ∃ d a' b' : Int, r = .int d ∧ o = [.lst [.int a', .int b'], .scr ns, .int n] ∧ 0 ≤ d ∧ d < n := by
    refine W_run ?_
    unfold mb_law_draw
    refine W_seq (fun ρ => ∃ a b : Int, ρ = [some (.lst [.int a, .int b]), some (.scr ns), some (.int n), none]) ?_ ?_
    · obtain ⟨z, hz⟩ := hr ns a
      by_cases h : b = 0
      · simp [h, κl_law_draw, hz, κp_law_refill, atI, ixN]
      · simp [h, κl_law_draw, κp_law_refill, atI, ixN]
    rintro _ ⟨a, b, rfl⟩
    have m0 := Int.emod_nonneg b (show n ≠ 0 by omega)
    have m1 := Int.emod_lt_of_pos b h0
    simp [atI, ixN, h0, h1, outs, κp_law_draw, m0, m1]
  obtain ⟨r, o, h, d, a', b', rfl, rfl, q⟩ := this
  exact ⟨d, a', b', h, q⟩
end HT

set_option maxHeartbeats 4000000
namespace HT
open PySem PySem.Spec PyProof.Rows L2 DL
/-! ### the site, typed -/
def nm (k : Nat) : Str := if k = 0 then "top" else "n" ++ toString (k : Int)
def pn (k : Nat) : Str := "p" ++ toString (k : Int)
def nodeD (par : Nat → Nat) (lim : Nat → Int) (k : Nat) : D := .tup [.str (nm k), .int (if k = 0 then -1 else (par k : Int)), .int (lim k)]
def nodesL (n : Nat) (par : Nat → Nat) (lim : Nat → Int) : List D := (List.range n).map (nodeD par lim)
def plugD (pl : Nat → Nat) (pw : Nat → Int) (k : Nat) : D := .tup [.str (pn k), .int (pl k), .int (pw k)]
def plugsL (m : Nat) (pl : Nat → Nat) (pw : Nat → Int) : List D := (List.range m).map (plugD pl pw)
def orderD (o : Nat × Int × Int × Int) : D := .tup [.int o.1, .int o.2.1, .int o.2.2.1, .int o.2.2.2]
abbrev Ord := List (Nat × Int × Int × Int)
structure NodesOk (n : Nat) (par : Nat → Nat) (lim : Nat → Int) : Prop where
  lo : 1 ≤ n
  hi : n ≤ 24
  par : ∀ k, 0 < k → k < n → par k < k
  lim0 : ∀ k, k < n → 0 ≤ lim k
  lim1 : ∀ k, k < n → lim k ≤ 999
structure PlugsOk (n m : Nat) (pl : Nat → Nat) (pw : Nat → Int) : Prop where
  lo : 1 ≤ m
  hi : m ≤ 16
  pl : ∀ k, k < m → pl k < n
  pw0 : ∀ k, k < m → 1 ≤ pw k
  pw1 : ∀ k, k < m → pw k ≤ 99
structure OrdOk (n : Nat) (os : Ord) : Prop where
  len : os.length ≤ 12
  ok : ∀ o ∈ os, o.1 < n ∧ 0 ≤ o.2.1 ∧ o.2.1 < o.2.2.1 ∧ o.2.2.1 ≤ 96 ∧ 0 ≤ o.2.2.2 ∧ o.2.2.2 ≤ 999
theorem nodesL_len {n par lim} : (nodesL n par lim).length = n := by simp [nodesL]
theorem nodesL_get {n par lim} {k : Nat} (h : k < n) : (nodesL n par lim)[k]? = some (nodeD par lim k) := by simp [nodesL, h]
theorem nodesL_at {n par lim} {k : Nat} (h : k < n) : atI (nodesL n par lim) (k : Int) = some (nodeD par lim k) := DL.atI_nat (nodesL_get h)
theorem plugsL_len {m pl pw} : (plugsL m pl pw).length = m := by simp [plugsL]
theorem plugsL_at {m pl pw} {k : Nat} (h : k < m) : atI (plugsL m pl pw) (k : Int) = some (plugD pl pw k) := DL.atI_nat (by simp [plugsL, h])
theorem at0 {α : Type} {a : α} {xs : List α} : atI (a :: xs) 0 = some a := DL.atI_nat (n := 0) rfl
theorem at1 {α : Type} {a b : α} {xs : List α} : atI (a :: b :: xs) 1 = some b := DL.atI_nat (n := 1) rfl
theorem at2 {α : Type} {a b c : α} {xs : List α} : atI (a :: b :: c :: xs) 2 = some c := DL.atI_nat (n := 2) rfl
theorem at3 {α : Type} {a b c d : α} {xs : List α} : atI (a :: b :: c :: d :: xs) 3 = some d := DL.atI_nat (n := 3) rfl
theorem at4 {α : Type} {a b c d e : α} {xs : List α} : atI (a :: b :: c :: d :: e :: xs) 4 = some e := DL.atI_nat (n := 4) rfl
theorem okAll_im (xs : List D) : xs.all (okK .im) = true := by simp
/-! ### names -/
def nameB (s : Str) : Bool := decide (1 ≤ s.length ∧ s.length ≤ 8) && (match dIx (.str s) (.int 0) with
  | some z => (match dInS z (.str "abcdefghijklmnopqrstuvwxyz") with
    | some (.bl b) => b
    | _ => false)
  | _ => false) && s.cps.toList.all fun c => decide (c ∈ ("abcdefghijklmnopqrstuvwxyz0123456789" : Str).cps.toList)
theorem nm_ok : ∀ k : Nat, k < 24 → nameB (nm k) = true := by decide +kernel
theorem pn_ok : ∀ k : Nat, k < 16 → nameB (pn k) = true := by decide +kernel
def Sp_is_name (c : DF) : Prop := ∀ s : Str, nameB s = true → c [.str s] = some (.bl true, [.str s])
theorem ev_is_name : Sp_is_name (runD κp_is_name κl_is_name.length .sc mb_is_name) := fun s h => by
  unfold nameB at h
  rw [Bool.and_eq_true, Bool.and_eq_true, decide_eq_true_eq] at h
  obtain ⟨⟨h1, h2⟩, h3⟩ := h
  split at h2
  · rename_i z hz
    split at h2
    · rename_i b hb
      subst h2
      refine W_runE ?_
      have hl : cLen (.str s) = some (.int s.length) := if_pos (by omega)
      have e1 : (1 : Int) ≤ (s.length : Int) := by omega
      have e2 : (s.length : Int) ≤ 8 := by omega
      simpa [mb_is_name, hl, hz, hb, κp_is_name, outs, e1, e2] using h3
    · cases h2
  · cases h2
/-! ### nodes, drawn -/
def Sp_nodes (c : DF) : Prop := ∀ (ns : List Int) (a b : Int), ∃ (a' b' : Int) (n : Nat) (par : Nat → Nat) (lim : Nat → Int), c [.lst [.int a, .int b], .scr ns] = some (.lst (nodesL n par lim), [.lst [.int a', .int b'], .scr ns]) ∧ NodesOk n par lim
theorem nm_text : ∀ k : Nat, k < 24 → (toString (k : Int) : Str).length ≤ 1000 ∧ (k : Int).natAbs.log2 < 1920 := by decide +kernel
theorem str_nm {k : Nat} (h0 : 0 < k) (h : k < 24) : ∃ t : Str, cStr (.int (k : Int)) = some (.str t) ∧ dAddS (.str "n") (.str t) = some (.str (nm k)) := by
  obtain ⟨h1, h2⟩ := nm_text k h
  refine ⟨_, if_pos h2, ?_⟩
  have e : nm k = "n" ++ toString (k : Int) := if_neg (by omega)
  rw [e]
  exact if_pos (by have : ("n" : Str).length = 1 := rfl; omega)
theorem str_pn {k : Nat} (h : k < 16) : ∃ t : Str, cStr (.int (k : Int)) = some (.str t) ∧ dAddS (.str "p") (.str t) = some (.str (pn k)) := by
  obtain ⟨h1, h2⟩ := nm_text k (by omega)
  refine ⟨_, if_pos h2, ?_⟩
  exact if_pos (by have : ("p" : Str).length = 1 := rfl; omega)
theorem nodesL_snoc {n : Nat} {par par' : Nat → Nat} {lim lim' : Nat → Int} (h : ∀ k, k < n → par' k = par k ∧ lim' k = lim k) : nodesL (n + 1) par' lim' = nodesL n par lim ++ [nodeD par' lim' n] := by
  unfold nodesL
  rw [List.range_succ, List.map_append]
  congr 1
  refine List.map_congr_left fun k hk => ?_
  obtain ⟨e1, e2⟩ := h k (List.mem_range.mp hk)
  unfold nodeD
  rw [e1, e2]
set_option maxHeartbeats 40000000 in
theorem ev_nodes {cd : DF} (hd : Sp_draw cd) : Sp_nodes (runD κp_law_nodes κl_law_nodes.length (.lst .im) (mb_law_nodes cd)) := fun ns a b => by
  have : ∃ r o, runD κp_law_nodes κl_law_nodes.length (.lst .im) (mb_law_nodes cd) [.lst [.int a, .int b], .scr ns] = some (r, o) ∧ ∃ (a' b' : Int) (n : Nat) (par : Nat → Nat) (lim : Nat → Int), r = .lst (nodesL n par lim) ∧ o = [.lst [.int a', .int b'], .scr ns] ∧ NodesOk n par lim := by
    refine W_run ?_
    unfold mb_law_nodes
    -- the count
    refine W_seq (fun ρ => ∃ (a b : Int) (n : Nat), (1 ≤ n ∧ n ≤ 24) ∧ ρ = [some (.lst [.int a, .int b]), some (.scr ns), some (.int n), none, none, none]) ?_ ?_
    · obtain ⟨d, a1, b1, e, h0, h1⟩ := hd ns a b 5 (by decide) (by decide)
      have hn : ∃ n : Nat, (1 ≤ n ∧ n ≤ 24) ∧ atI [D.int 1, D.int 2, D.int 4, D.int 7, D.int 24] d = some (.int n) := by
        obtain rfl | rfl | rfl | rfl | rfl : d = 0 ∨ d = 1 ∨ d = 2 ∨ d = 3 ∨ d = 4 := by omega
        · exact ⟨1, by decide, at0⟩
        · exact ⟨2, by decide, at1⟩
        · exact ⟨4, by decide, at2⟩
        · exact ⟨7, by decide, at3⟩
        · exact ⟨24, by decide, at4⟩
      obtain ⟨n, hn, hat⟩ := hn
      simp [κl_law_nodes, κr_law_draw, e, hat]
      exact ⟨_, _, n, hn, ⟨rfl, rfl⟩, rfl⟩
    rintro _ ⟨a, b, n, hn, rfl⟩
    refine W_seq (fun ρ => ∃ (a b l : Int), (0 ≤ l ∧ l ≤ 999) ∧ ρ = [some (.lst [.int a, .int b]), some (.scr ns), some (.int n), some (.lst (nodesL 1 (fun _ => 0) fun _ => l)), none, none]) ?_ ?_
    · obtain ⟨d, a1, b1, e, h0, h1⟩ := hd ns a b 1000 (by decide) (by decide)
      simp [κr_law_draw, e]
      exact ⟨_, _, d, ⟨h0, by omega⟩, ⟨rfl, rfl⟩, rfl⟩
    rintro _ ⟨a, b, l, hl, rfl⟩
    refine W_seq (fun ρ => ∃ (a b : Int) (par : Nat → Nat) (lim : Nat → Int) (x y : Option D), NodesOk n par lim ∧ ρ = [some (.lst [.int a, .int b]), some (.scr ns), some (.int n), some (.lst (nodesL n par lim)), x, y]) ?_ ?_
    · have e1 : ((n : Int) - 1).toNat = n - 1 := by omega
      simp only [W_mFor, W_iR2, W_aCons, W_aNil, W_eC, W_eVar]
      refine ⟨_, rfl, 1, n, rfl, by decide, by decide, by omega, by omega, ?_⟩
      refine W_for (fun i ρ => ∃ (a b : Int) (par : Nat → Nat) (lim : Nat → Int) (x y : Option D), NodesOk (i + 1) par lim ∧ ρ = [some (.lst [.int a, .int b]), some (.scr ns), some (.int n), some (.lst (nodesL (i + 1) par lim)), x, y]) ⟨a, b, _, _, none, none, ⟨by omega, by omega, fun k h0 h1 => by omega, fun _ _ => hl.1, fun _ _ => hl.2⟩, rfl⟩ ?_ ?_
      · rintro i x _ hx ⟨a, b, par, lim, x0, y0, ok, rfl⟩
        have hi : i < n - 1 := by
          have := (List.getElem?_eq_some_iff.mp hx).1
          rw [rangeD_len] at this
          omega
        rw [e1, rangeD_get 1 (n - 1) i hi] at hx
        cases hx
        have ek : (1 : Int) + (i : Int) = ((i + 1 : Nat) : Int) := by omega
        rw [ek]
        rw [W_setV]
        refine ⟨rfl, ?_⟩
        have hp : ∃ (a' b' : Int) (p : Nat), p < i + 1 ∧ W (mAsg (eOp2 dIx (eLst .im (aCons (eOp2 dSub (eVar 4) (eC (.int 1))) (aCons (eC (.int 0)) (aCons (eCallIo 0 κr_law_draw cd (aCons (eVar 1) (aCons (eVar 4) aNil))) aNil)))) (eCallIo 0 κr_law_draw cd (aCons (eVar 1) (aCons (eC (.int 3)) aNil)))) (setV 5 .im)) [some (.lst [.int a, .int b]), some (.scr ns), some (.int n), some (.lst (nodesL (i + 1) par lim)), some (.int ((i + 1 : Nat) : Int)), y0]
            fun f ρ1 => f = .nx ∧ ρ1 = [some (.lst [.int a', .int b']), some (.scr ns), some (.int n), some (.lst (nodesL (i + 1) par lim)), some (.int ((i + 1 : Nat) : Int)), some (.int (p : Int))] := by
          obtain ⟨d1, a1, b1, e2, h0, h1⟩ := hd ns a b ((i + 1 : Nat) : Int) (by omega) (by omega)
          obtain ⟨d2, a2, b2, e3, h2, h3⟩ := hd ns a1 b1 3 (by decide) (by decide)
          obtain ⟨p1, rfl⟩ := Int.eq_ofNat_of_zero_le h0
          have hq : ∃ p : Nat, p < i + 1 ∧ atI [D.int (((i + 1 : Nat) : Int) - 1), D.int 0, D.int (p1 : Int)] d2 = some (.int (p : Int)) := by
            obtain rfl | rfl | rfl : d2 = 0 ∨ d2 = 1 ∨ d2 = 2 := by omega
            · exact ⟨i, by omega, by rw [at0]; congr 2; omega⟩
            · exact ⟨0, by omega, at1⟩
            · exact ⟨p1, by omega, at2⟩
          obtain ⟨p, hp, hat⟩ := hq
          refine ⟨a2, b2, p, hp, ?_⟩
          simp only [Int.natCast_add, Int.cast_ofNat_Int] at e2 hat ⊢
          simpa [κr_law_draw, e2, e3] using hat
        obtain ⟨a1, b1, p, hp, hw⟩ := hp
        refine W_seq (fun ρ1 => ρ1 = _) hw ?_
        rintro _ rfl
        obtain ⟨d1, a2, b2, e2, h0, h1⟩ := hd ns a1 b1 40 (by decide) (by decide)
        obtain ⟨d2, a3, b3, e3, h2, h3⟩ := hd ns a2 b2 1000 (by decide) (by decide)
        obtain ⟨d3, a4, b4, e4, h4, h5⟩ := hd ns a3 b3 2 (by decide) (by decide)
        have hq : ∃ l : Int, (0 ≤ l ∧ l ≤ 999) ∧ atI [D.int d1, D.int d2] d3 = some (.int l) := by
          obtain rfl | rfl : d3 = 0 ∨ d3 = 1 := by omega
          · exact ⟨d1, by omega, at0⟩
          · exact ⟨d2, by omega, at1⟩
        obtain ⟨l', hl', hat⟩ := hq
        obtain ⟨t, s1, s2⟩ := str_nm (k := i + 1) (by omega) (by omega)
        have snoc : nodesL (i + 1 + 1) (fun k => if k = i + 1 then p else par k) (fun k => if k = i + 1 then l' else lim k) = nodesL (i + 1) par lim ++ [.tup [.str (nm (i + 1)), .int p, .int l']] := by
          rw [nodesL_snoc (par := par) (lim := lim) fun k hk => ⟨if_neg (by omega), if_neg (by omega)⟩]
          simp [nodeD]
        have hlen : (nodesL (i + 1) par lim).length < 100000 := by rw [nodesL_len]; omega
        have ok' : NodesOk (i + 1 + 1) (fun k => if k = i + 1 then p else par k) (fun k => if k = i + 1 then l' else lim k) := by
          refine ⟨by omega, by omega, fun k h0 h1 => ?_, fun k h1 => ?_, fun k h1 => ?_⟩
          · by_cases h : k = i + 1
            · rw [if_pos h]; omega
            · rw [if_neg h]; exact ok.par k h0 (by omega)
          · by_cases h : k = i + 1
            · rw [if_pos h]; exact hl'.1
            · rw [if_neg h]; exact ok.lim0 k (by omega)
          · by_cases h : k = i + 1
            · rw [if_pos h]; exact hl'.2
            · rw [if_neg h]; exact ok.lim1 k (by omega)
        have fin : (fun ρ : Rho => ∃ (a b : Int) (par : Nat → Nat) (lim : Nat → Int) (x y : Option D), NodesOk (i + 1 + 1) par lim ∧ ρ = [some (.lst [.int a, .int b]), some (.scr ns), some (.int n), some (.lst (nodesL (i + 1 + 1) par lim)), x, y])
            [some (.lst [.int a4, .int b4]), some (.scr ns), some (.int n), some (.lst (nodesL (i + 1) par lim ++ [.tup [.str (nm (i + 1)), .int p, .int l']])), some (.int ((i + 1 : Nat) : Int)), some (.int p)] :=
          ⟨a4, b4, _, _, _, _, ok', by rw [snoc]⟩
        simp only [Int.natCast_add, Int.cast_ofNat_Int] at s1 s2 fin ⊢
        simpa [κr_law_draw, e2, e3, e4, hat, s1, s2, hlen] using fin
      · rintro _ ⟨a, b, par, lim, x0, y0, ok, rfl⟩
        have : (rangeD 1 ((n : Int) - 1).toNat).length + 1 = n := by rw [rangeD_len]; omega
        rw [this] at ok ⊢
        refine And.intro rfl ?_
        exact ⟨_, _, _, _, _, _, ok, rfl⟩
    rintro _ ⟨a, b, par, lim, x, y, ok, rfl⟩
    simp [outs, κp_law_nodes]
    exact ⟨_, _, n, par, lim, rfl, ⟨rfl, rfl⟩, ok⟩
  obtain ⟨r, o, h, a', b', n, par, lim, rfl, rfl, ok⟩ := this
  exact ⟨a', b', n, par, lim, h, ok⟩
end HT

set_option maxHeartbeats 40000000
namespace HT
open PySem PySem.Spec PyProof.Rows L2 DL
/-! ### orders, drawn -/
def Sp_orders (c : DF) : Prop := ∀ (ns : List Int) (a b : Int) (n : Nat), 1 ≤ n → n ≤ 24 → ∃ (a' b' : Int) (os : Ord), c [.lst [.int a, .int b], .scr ns, .int n] = some (.lst (os.map orderD), [.lst [.int a', .int b'], .scr ns, .int n]) ∧ OrdOk n os
theorem ev_orders {cd : DF} (hd : Sp_draw cd) : Sp_orders (runD κp_law_orders κl_law_orders.length (.lst .im) (mb_law_orders cd)) := fun ns a b n hn0 hn1 => by
  have : ∃ r o, runD κp_law_orders κl_law_orders.length (.lst .im) (mb_law_orders cd) [.lst [.int a, .int b], .scr ns, .int n] = some (r, o) ∧ ∃ (a' b' : Int) (os : Ord), r = .lst (os.map orderD) ∧ o = [.lst [.int a', .int b'], .scr ns, .int n] ∧ OrdOk n os := by
    refine W_run ?_
    unfold mb_law_orders
    refine W_seq (fun ρ => ρ = [some (.lst [.int a, .int b]), some (.scr ns), some (.int n), some (.lst []), none, none, none, none, none]) (by simp [κl_law_orders]) ?_
    rintro _ rfl
    refine W_seq (fun ρ => ∃ (a b : Int) (fav : Nat), fav < n ∧ ρ = [some (.lst [.int a, .int b]), some (.scr ns), some (.int n), some (.lst []), some (.int fav), none, none, none, none]) ?_ ?_
    · obtain ⟨d, a1, b1, e, h0, h1⟩ := hd ns a b n (by omega) (by omega)
      obtain ⟨f, rfl⟩ := Int.eq_ofNat_of_zero_le h0
      simp [κr_law_draw, e]
      exact ⟨_, _, f, by omega, ⟨rfl, rfl⟩, rfl⟩
    rintro _ ⟨a, b, fav, hf, rfl⟩
    refine W_seq (fun ρ => ∃ (a b : Int) (os : Ord) (x y z u : Option D), OrdOk n os ∧ ρ = [some (.lst [.int a, .int b]), some (.scr ns), some (.int n), some (.lst (os.map orderD)), some (.int fav), x, y, z, u]) ?_ ?_
    · obtain ⟨d1, a1, b1, e1, h0, h1⟩ := hd ns a b 13 (by decide) (by decide)
      obtain ⟨d2, a2, b2, e2, h2, h3⟩ := hd ns a1 b1 3 (by decide) (by decide)
      have hq : ∃ m : Nat, m ≤ 12 ∧ atI [D.int 3, D.int 12, D.int d1] d2 = some (.int (m : Int)) := by
        obtain ⟨p1, rfl⟩ := Int.eq_ofNat_of_zero_le h0
        obtain rfl | rfl | rfl : d2 = 0 ∨ d2 = 1 ∨ d2 = 2 := by omega
        · exact ⟨3, by omega, at0⟩
        · exact ⟨12, by omega, at1⟩
        · exact ⟨p1, by omega, at2⟩
      obtain ⟨m, hm, hat⟩ := hq
      have b1' : -(2 ^ 62) ≤ (m : Int) := by omega
      have b2' : (m : Int) < 2 ^ 62 := by omega
      have key : W (forM (setV 5 .im) (mSeq (mAsg (eOp2 dIx (eLst .im (aCons (eCallIo 0 κr_law_draw cd (aCons (eVar 1) (aCons (eC (.int 10)) aNil))) (aCons (eCallIo 0 κr_law_draw cd (aCons (eVar 1) (aCons (eC (.int 96)) aNil))) aNil))) (eCallIo 0 κr_law_draw cd (aCons (eVar 1) (aCons (eC (.int 2)) aNil)))) (setV 6 .im))
  (mSeq (mAsg (eCb cMin2 (aCons (eC (.int 96)) (aCons (eOp2 dAdd (eOp2 dAdd (eVar 6) (eC (.int 1))) (eCallIo 0 κr_law_draw cd (aCons (eVar 1) (aCons (eOp2 dIx (eLst .im (aCons (eC (.int 5)) (aCons (eC (.int 96)) aNil))) (eCallIo 0 κr_law_draw cd (aCons (eVar 1) (aCons (eC (.int 2)) aNil)))) aNil)))) aNil))) (setV 7 .im))
  (mSeq (mAsg (eOp2 dIx (eLst .im (aCons (eVar 4) (aCons (eCallIo 0 κr_law_draw cd (aCons (eVar 1) (aCons (eVar 2) aNil))) aNil))) (eCallIo 0 κr_law_draw cd (aCons (eVar 1) (aCons (eC (.int 2)) aNil)))) (setV 8 .im))
  (mApp 3 .im (eTup (aCons (eVar 8) (aCons (eVar 6) (aCons (eVar 7) (aCons (eCallIo 0 κr_law_draw cd (aCons (eVar 1) (aCons (eOp2 dIx (eLst .im (aCons (eC (.int 60)) (aCons (eC (.int 1000)) aNil))) (eCallIo 0 κr_law_draw cd (aCons (eVar 1) (aCons (eC (.int 2)) aNil)))) aNil))) aNil)))))))))
          (rangeD 0 m)) [some (.lst [.int a2, .int b2]), some (.scr ns), some (.int n), some (.lst []), some (.int fav), none, none, none, none]
          fun f ρ => f = .nx ∧ ∃ (a b : Int) (os : Ord) (x y z u : Option D), OrdOk n os ∧ ρ = [some (.lst [.int a, .int b]), some (.scr ns), some (.int n), some (.lst (os.map orderD)), some (.int fav), x, y, z, u] := by
        refine W_for (fun i ρ => ∃ (a b : Int) (os : Ord) (x y z u : Option D), (os.length = i ∧ OrdOk n os) ∧ ρ = [some (.lst [.int a, .int b]), some (.scr ns), some (.int n), some (.lst (os.map orderD)), some (.int fav), x, y, z, u])
          ⟨a2, b2, [], none, none, none, none, ⟨rfl, by decide, fun o ho => by simp at ho⟩, rfl⟩ ?_ ?_
        · rintro i x _ hx ⟨a, b, os, x0, y0, z0, u0, ⟨hlen, ok⟩, rfl⟩
          have hi : i < m := by
            have := (List.getElem?_eq_some_iff.mp hx).1
            rwa [rangeD_len] at this
          rw [rangeD_get 0 m i hi] at hx
          cases hx
          rw [W_setV]
          refine ⟨rfl, ?_⟩
          refine W_seq (fun ρ => ∃ (a b first : Int), (0 ≤ first ∧ first < 96) ∧ ρ = [some (.lst [.int a, .int b]), some (.scr ns), some (.int n), some (.lst (os.map orderD)), some (.int fav), some (.int (0 + i)), some (.int first), z0, u0]) ?_ ?_
          · obtain ⟨d1, a1, b1, e1, h0, h1⟩ := hd ns a b 10 (by decide) (by decide)
            obtain ⟨d2, a2, b2, e2, h2, h3⟩ := hd ns a1 b1 96 (by decide) (by decide)
            obtain ⟨d3, a3, b3, e3, h4, h5⟩ := hd ns a2 b2 2 (by decide) (by decide)
            have hq : ∃ f : Int, (0 ≤ f ∧ f < 96) ∧ atI [D.int d1, D.int d2] d3 = some (.int f) := by
              obtain rfl | rfl : d3 = 0 ∨ d3 = 1 := by omega
              · exact ⟨d1, by omega, at0⟩
              · exact ⟨d2, by omega, at1⟩
            obtain ⟨f, hf, hat⟩ := hq
            simp [κr_law_draw, e1, e2, e3, hat, hf]
          rintro _ ⟨a, b, first, hfi, rfl⟩
          refine W_seq (fun ρ => ∃ (a b last : Int), (first < last ∧ last ≤ 96) ∧ ρ = [some (.lst [.int a, .int b]), some (.scr ns), some (.int n), some (.lst (os.map orderD)), some (.int fav), some (.int (0 + i)), some (.int first), some (.int last), u0]) ?_ ?_
          · obtain ⟨d1, a1, b1, e1, h0, h1⟩ := hd ns a b 2 (by decide) (by decide)
            have hq : ∃ f : Int, (f = 5 ∨ f = 96) ∧ atI [D.int 5, D.int 96] d1 = some (.int f) := by
              obtain rfl | rfl : d1 = 0 ∨ d1 = 1 := by omega
              · exact ⟨5, .inl rfl, at0⟩
              · exact ⟨96, .inr rfl, at1⟩
            obtain ⟨f, hf, hat⟩ := hq
            obtain ⟨d2, a2, b2, e2, h2, h3⟩ := hd ns a1 b1 f (by omega) (by omega)
            simp [κr_law_draw, e1, e2, hat]
            split <;> omega
          rintro _ ⟨a, b, last, hla, rfl⟩
          refine W_seq (fun ρ => ∃ (a b : Int) (node : Nat), node < n ∧ ρ = [some (.lst [.int a, .int b]), some (.scr ns), some (.int n), some (.lst (os.map orderD)), some (.int fav), some (.int (0 + i)), some (.int first), some (.int last), some (.int node)]) ?_ ?_
          · obtain ⟨d1, a1, b1, e1, h0, h1⟩ := hd ns a b n (by omega) (by omega)
            obtain ⟨d2, a2, b2, e2, h2, h3⟩ := hd ns a1 b1 2 (by decide) (by decide)
            have hq : ∃ f : Nat, f < n ∧ atI [D.int (fav : Int), D.int d1] d2 = some (.int (f : Int)) := by
              obtain ⟨p1, rfl⟩ := Int.eq_ofNat_of_zero_le h0
              obtain rfl | rfl : d2 = 0 ∨ d2 = 1 := by omega
              · exact ⟨fav, hf, at0⟩
              · exact ⟨p1, by omega, at1⟩
            obtain ⟨f, hf, hat⟩ := hq
            simp [κr_law_draw, e1, e2, hat]
            exact ⟨_, _, f, hf, ⟨rfl, rfl⟩, rfl⟩
          rintro _ ⟨a, b, node, hno, rfl⟩
          obtain ⟨d1, a1, b1, e1, h0, h1⟩ := hd ns a b 2 (by decide) (by decide)
          have hq : ∃ f : Int, (f = 60 ∨ f = 1000) ∧ atI [D.int 60, D.int 1000] d1 = some (.int f) := by
            obtain rfl | rfl : d1 = 0 ∨ d1 = 1 := by omega
            · exact ⟨60, .inl rfl, at0⟩
            · exact ⟨1000, .inr rfl, at1⟩
          obtain ⟨f, hf, hat⟩ := hq
          obtain ⟨d2, a2, b2, e2, h2, h3⟩ := hd ns a1 b1 f (by omega) (by omega)
          have ok' : OrdOk n (os ++ [(node, first, last, d2)]) := ⟨by simp; omega, fun o ho => by
            rcases List.mem_append.mp ho with ho | ho
            · exact ok.ok o ho
            · rw [List.mem_singleton] at ho
              subst ho
              exact ⟨hno, hfi.1, hla.1, hla.2, h2, by show d2 ≤ 999; omega⟩⟩
          have fin : (fun ρ : Rho => ∃ (a b : Int) (os : Ord) (x y z u : Option D), (os.length = i + 1 ∧ OrdOk n os) ∧ ρ = [some (.lst [.int a, .int b]), some (.scr ns), some (.int n), some (.lst (os.map orderD)), some (.int fav), x, y, z, u])
            [some (.lst [.int a2, .int b2]), some (.scr ns), some (.int n), some (.lst (os.map orderD ++ [.tup [.int node, .int first, .int last, .int d2]])), some (.int fav), some (.int (0 + i)), some (.int first), some (.int last), some (.int node)] :=
            ⟨a2, b2, os ++ [(node, first, last, d2)], some (.int (0 + i)), some (.int first), some (.int last), some (.int node), ⟨by simp [hlen], ok'⟩, by simp [orderD]⟩
          have hl : (os.map orderD).length < 100000 := by rw [List.length_map]; omega
          have hl' : os.length < 100000 := by omega
          simpa [κr_law_draw, e1, hat, e2, hl'] using fin
        · rintro _ ⟨a, b, os, x0, y0, z0, u0, ⟨hlen, ok⟩, rfl⟩
          exact And.intro rfl ⟨_, _, _, _, _, _, _, ok, rfl⟩
      simp [κr_law_draw, e1, e2, hat]
      exact ⟨by omega, key.imp fun f ρ ⟨e, a, b, os, x, y, z, u, ok, h⟩ => ⟨e, a, b, os, ok, x, y, z, u, h⟩⟩
    rintro _ ⟨a, b, os, x, y, z, u, ok, rfl⟩
    simp [outs, κp_law_orders]
    exact ⟨_, _, os, rfl, ⟨rfl, rfl⟩, ok⟩
  obtain ⟨r, o, h, a', b', os, rfl, rfl, ok⟩ := this
  exact ⟨a', b', os, h, ok⟩
end HT

set_option maxHeartbeats 40000000
namespace HT
open PySem PySem.Spec PyProof.Rows L2 DL
/-! ### the checks -/
def namesB (f : Nat → Str) (i : Nat) : Bool := match dNotIn (.str (f i)) (.lst ((List.range i).map fun k => D.str (f k))) with
  | some (.bl b) => b
  | _ => false
theorem namesB_ok {f : Nat → Str} {i : Nat} (h : namesB f i = true) : dNotIn (.str (f i)) (.lst ((List.range i).map fun k => D.str (f k))) = some (.bl true) := by
  unfold namesB at h
  split at h
  · rename_i b e; rw [e, h]
  · cases h
theorem nm_new : ∀ i : Nat, i < 24 → namesB nm i = true := by decide +kernel
theorem pn_new : ∀ i : Nat, i < 16 → namesB pn i = true := by decide +kernel
theorem take_range (n i : Nat) (h : i ≤ n) (f : Nat → D) : ((List.range n).map f).take i = (List.range i).map f := by
  rw [← List.map_take, List.take_range, Nat.min_eq_left h]
def Sp_check1 (c : DF) : Prop := ∀ n par lim, NodesOk n par lim → c [.lst (nodesL n par lim)] = some (.non, [.lst (nodesL n par lim)])
theorem ev_check_nodes {cq ci : DF} (hq : Sp_require cq) (hi : Sp_is_name ci) : Sp_check1 (runD κp_check_nodes κl_check_nodes.length .sc (mb_check_nodes cq ci)) := fun n par lim ok => by
  refine W_runE ?_
  unfold mb_check_nodes
  have h1 := ok.lo
  have h2 := ok.hi
  refine W_seq (fun ρ => ρ = [some (.lst (nodesL n par lim)), none, none, none, none, none, none]) ?_ ?_
  · have e1 : (1 : Int) ≤ n := by omega
    have e2 : (n : Int) ≤ 24 := by omega
    simp [κp_require, nodesL_len, e1, e2, hq _ _ _, κl_check_nodes]
  rintro _ rfl
  refine W_seq (fun ρ => ρ = [some (.lst (nodesL n par lim)), some (.lst ((List.range n).map fun k => D.str (nm k))), none, none, none, none, none]) ?_ ?_
  · rw [W_mAsgN, W_eLc]
    simp only [W_iSeq, W_eVar]
    refine ⟨_, rfl, _, rfl, by rw [nodesL_len]; omega, ?_⟩
    refine W_compF (fun x => match x with | .tup (a :: _) => some a | _ => none) (fun x hx => ?_) ?_
    · unfold nodesL at hx
      obtain ⟨k, _, rfl⟩ := List.mem_map.mp hx
      simp [nodeD, wipeR, restore]
    · refine ⟨trivial, ?_⟩
      have : (nodesL n par lim).filterMap (fun x => match x with | .tup (a :: _) => some a | _ => none) = (List.range n).map fun k => D.str (nm k) := by
        unfold nodesL
        rw [List.filterMap_map]
        simp [Function.comp_def, nodeD]
      rw [this]
      rfl
  rintro _ rfl
  refine W_mForI (R := [some (.lst (nodesL n par lim)), some (.lst ((List.range n).map fun k => D.str (nm k))), none, none, none, none, none]) (xs := enumD 0 (nodesL n par lim)) (by simp) ?_
  refine W_for (fun i ρ => ∃ a b c d e : Option D, ρ = [some (.lst (nodesL n par lim)), some (.lst ((List.range n).map fun k => D.str (nm k))), a, b, c, d, e]) ⟨_, _, _, _, _, rfl⟩ ?_ ?_
  · rintro i x _ hx ⟨a, b, c, d, e, rfl⟩
    have hi' : i < n := by
      have := (List.getElem?_eq_some_iff.mp hx).1
      rwa [enumD_len, nodesL_len] at this
    rw [enumD_get, nodesL_get hi'] at hx
    cases hx
    have hn := hi _ (nm_ok i (by omega))
    have hnew := namesB_ok (nm_new i (by omega))
    have hcut : cutD ((List.range n).map fun k => D.str (nm k)) none (some (i : Int)) = (List.range i).map fun k => D.str (nm k) := by
      rw [cutD_to _ _ (by simp; omega), take_range n i (by omega)]
    have e1 := ok.lim0 i hi'
    have e2 := ok.lim1 i hi'
    have hp : (if i = 0 then (-1 : Int) else (par i : Int)) = if i = 0 then -1 else (par i : Int) := rfl
    by_cases h0 : i = 0
    · subst h0
      simp at hcut hnew
      simp [nodeD, κp_require, κp_is_name, hn, hq _ _ _, hnew, hcut, e1, e2]
    · have h3 := ok.par i (by omega) hi'
      have h4 : ((par i : Int)) < (i : Int) := by omega
      simp [nodeD, κp_require, κp_is_name, hn, hq _ _ _, hnew, hcut, e1, e2, h0, h3]
  · rintro _ ⟨a, b, c, d, e, rfl⟩
    simp [outs, κp_check_nodes, Kd.fl]
def Sp_check2 (c : DF) : Prop := ∀ n par lim m pl pw, PlugsOk n m pl pw → c [.lst (nodesL n par lim), .lst (plugsL m pl pw)] = some (.non, [.lst (nodesL n par lim), .lst (plugsL m pl pw)])
theorem ev_check_plugs {cq ci : DF} (hq : Sp_require cq) (hi : Sp_is_name ci) : Sp_check2 (runD κp_check_plugs κl_check_plugs.length .sc (mb_check_plugs cq ci)) := fun n par lim m pl pw ok => by
  refine W_runE ?_
  unfold mb_check_plugs
  have h1 := ok.lo
  have h2 := ok.hi
  refine W_seq (fun ρ => ρ = [some (.lst (nodesL n par lim)), some (.lst (plugsL m pl pw)), none, none, none, none, none, none]) ?_ ?_
  · have e1 : (1 : Int) ≤ m := by omega
    have e2 : (m : Int) ≤ 16 := by omega
    simp [κp_require, plugsL_len, e1, e2, hq _ _ _, κl_check_plugs]
  rintro _ rfl
  refine W_seq (fun ρ => ρ = [some (.lst (nodesL n par lim)), some (.lst (plugsL m pl pw)), some (.lst ((List.range m).map fun k => D.str (pn k))), none, none, none, none, none]) ?_ ?_
  · rw [W_mAsgN, W_eLc]
    simp only [W_iSeq, W_eVar]
    refine ⟨_, rfl, _, rfl, by rw [plugsL_len]; omega, ?_⟩
    refine W_compF (fun x => match x with | .tup (a :: _) => some a | _ => none) (fun x hx => ?_) ?_
    · unfold plugsL at hx
      obtain ⟨k, _, rfl⟩ := List.mem_map.mp hx
      simp [plugD, wipeR, restore]
    · refine ⟨trivial, ?_⟩
      have : (plugsL m pl pw).filterMap (fun x => match x with | .tup (a :: _) => some a | _ => none) = (List.range m).map fun k => D.str (pn k) := by
        unfold plugsL
        rw [List.filterMap_map]
        simp [Function.comp_def, plugD]
      rw [this]
      rfl
  rintro _ rfl
  refine W_mForI (R := [some (.lst (nodesL n par lim)), some (.lst (plugsL m pl pw)), some (.lst ((List.range m).map fun k => D.str (pn k))), none, none, none, none, none]) (xs := enumD 0 (plugsL m pl pw)) (by simp) ?_
  refine W_for (fun i ρ => ∃ a b c d e : Option D, ρ = [some (.lst (nodesL n par lim)), some (.lst (plugsL m pl pw)), some (.lst ((List.range m).map fun k => D.str (pn k))), a, b, c, d, e]) ⟨_, _, _, _, _, rfl⟩ ?_ ?_
  · rintro i x _ hx ⟨a, b, c, d, e, rfl⟩
    have hi' : i < m := by
      have := (List.getElem?_eq_some_iff.mp hx).1
      rwa [enumD_len, plugsL_len] at this
    have hget : (plugsL m pl pw)[i]? = some (plugD pl pw i) := by simp [plugsL, hi']
    rw [enumD_get, hget] at hx
    cases hx
    have hn := hi _ (pn_ok i (by omega))
    have hnew := namesB_ok (pn_new i (by omega))
    have hcut : cutD ((List.range m).map fun k => D.str (pn k)) none (some (i : Int)) = (List.range i).map fun k => D.str (pn k) := by
      rw [cutD_to _ _ (by simp; omega), take_range m i (by omega)]
    have e1 := ok.pw0 i hi'
    have e2 := ok.pw1 i hi'
    have e3 := ok.pl i hi'
    simp [plugD, κp_require, κp_is_name, hn, hq _ _ _, hnew, hcut, e1, e2, e3, nodesL_len]
  · rintro _ ⟨a, b, c, d, e, rfl⟩
    simp [outs, κp_check_plugs, Kd.fl]
def Sp_check3 (c : DF) : Prop := ∀ n par lim os, OrdOk n os → c [.lst (nodesL n par lim), .lst (os.map orderD)] = some (.non, [.lst (nodesL n par lim), .lst (os.map orderD)])
theorem ev_check_orders {cq : DF} (hq : Sp_require cq) : Sp_check3 (runD κp_check_orders κl_check_orders.length .sc (mb_check_orders cq)) := fun n par lim os ok => by
  refine W_runE ?_
  unfold mb_check_orders
  refine W_seq (fun ρ => ρ = [some (.lst (nodesL n par lim)), some (.lst (os.map orderD)), none, none, none, none, none]) ?_ ?_
  · have e1 : (os.length : Int) ≤ 12 := by have := ok.len; omega
    simp [κp_require, e1, hq _ _ _, κl_check_orders]
  rintro _ rfl
  refine W_mForI (R := [some (.lst (nodesL n par lim)), some (.lst (os.map orderD)), none, none, none, none, none]) (xs := enumD 0 (os.map orderD)) (by simp) ?_
  refine W_for (fun i ρ => ∃ a b c d e : Option D, ρ = [some (.lst (nodesL n par lim)), some (.lst (os.map orderD)), a, b, c, d, e]) ⟨_, _, _, _, _, rfl⟩ ?_ ?_
  · rintro i x _ hx ⟨a, b, c, d, e, rfl⟩
    have hi' : i < os.length := by
      have := (List.getElem?_eq_some_iff.mp hx).1
      rwa [enumD_len, List.length_map] at this
    rw [enumD_get, List.getElem?_map, List.getElem?_eq_getElem hi'] at hx
    cases hx
    obtain ⟨g1, g2, g3, g4, g5, g6⟩ := ok.ok _ (List.getElem_mem hi')
    simp [orderD, κp_require, hq _ _ _, g1, g2, g3, g4, g5, g6, nodesL_len]
  · rintro _ ⟨a, b, c, d, e, rfl⟩
    simp [outs, κp_check_orders, Kd.fl]
def siteF (n : Nat) (par : Nat → Nat) (lim : Nat → Int) (m : Nat) (pl : Nat → Nat) (pw : Nat → Int) (os : Ord) : List (Str × D) := [("nodes", .tup (nodesL n par lim)), ("plugs", .tup (plugsL m pl pw)), ("orders", .tup (os.map orderD))]
def siteD (n : Nat) (par : Nat → Nat) (lim : Nat → Int) (m : Nat) (pl : Nat → Nat) (pw : Nat → Int) (os : Ord) : D := .obj "Site" (siteF n par lim m pl pw os)
section
variable {n : Nat} {par : Nat → Nat} {lim : Nat → Int} {m : Nat} {pl : Nat → Nat} {pw : Nat → Int} {os : Ord}
@[simp] theorem lk_nodes : (siteF n par lim m pl pw os).lookup ("nodes" : Str) = some (D.tup (nodesL n par lim)) := rfl
@[simp] theorem lk_plugs : (siteF n par lim m pl pw os).lookup ("plugs" : Str) = some (D.tup (plugsL m pl pw)) := rfl
@[simp] theorem lk_orders : (siteF n par lim m pl pw os).lookup ("orders" : Str) = some (D.tup (os.map orderD)) := rfl
@[simp] theorem lk_limit : (siteF n par lim m pl pw os).lookup ("limit" : Str) = none := rfl
@[simp] theorem lk_above : (siteF n par lim m pl pw os).lookup ("above" : Str) = none := rfl
@[simp] theorem lk_loads : (siteF n par lim m pl pw os).lookup ("loads" : Str) = none := rfl
@[simp] theorem lk_excess : (siteF n par lim m pl pw os).lookup ("excess" : Str) = none := rfl
@[simp] theorem lk_parts : (siteF n par lim m pl pw os).lookup ("parts" : Str) = none := rfl
end
def Sp_check (c : DF) : Prop := ∀ n par lim m pl pw os, NodesOk n par lim → PlugsOk n m pl pw → OrdOk n os → c [.lst (nodesL n par lim), .lst (plugsL m pl pw), .lst (os.map orderD)] = some (.non, [.lst (nodesL n par lim), .lst (plugsL m pl pw), .lst (os.map orderD)])
theorem ev_check_site {c1 c2 c3 : DF} (h1 : Sp_check1 c1) (h2 : Sp_check2 c2) (h3 : Sp_check3 c3) : Sp_check (runD κp_check_site κl_check_site.length .sc (mb_check_site c1 c2 c3)) := fun n par lim m pl pw os o1 o2 o3 => by
  refine W_runE ?_
  simp [mb_check_site, κp_check_nodes, κp_check_plugs, κp_check_orders, h1 _ _ _ o1, h2 n par lim _ _ _ o2, h3 n par lim _ o3, κp_check_site, κl_check_site, outs, Kd.fl]
def Sp_init (c : DF) : Prop := ∀ n par lim m pl pw os, NodesOk n par lim → PlugsOk n m pl pw → OrdOk n os → ∃ rest, c [.obj "Site" [], .lst (nodesL n par lim), .lst (plugsL m pl pw), .lst (os.map orderD)] = some (.non, siteD n par lim m pl pw os :: rest)
theorem ev_init {c : DF} (h : Sp_check c) : Sp_init (runD κp_Site_init κl_Site_init.length .sc (mb_Site_init c)) := fun n par lim m pl pw os o1 o2 o3 => by
  refine ⟨[.lst (nodesL n par lim), .lst (plugsL m pl pw), .lst (os.map orderD)], W_runE ?_⟩
  simp [mb_Site_init, κp_check_site, h _ _ _ _ _ _ _ o1 o2 o3, κp_Site_init, κl_Site_init, outs, Kd.fl, siteD]
  exact ⟨Nat.lt_of_le_of_lt (show _ ≤ 1 from Nat.le_refl _) (by decide), Nat.lt_of_le_of_lt (show _ ≤ 2 from Nat.le_refl _) (by decide), rfl⟩
def Sp_parts (c : DF) : Prop := ∀ n par lim m pl pw os, c [siteD n par lim m pl pw os] = some (.tup [.tup (nodesL n par lim), .tup (plugsL m pl pw), .tup (os.map orderD)], [siteD n par lim m pl pw os])
theorem ev_parts : Sp_parts (runD κp_Site_parts κl_Site_parts.length .im mb_Site_parts) := fun n par lim m pl pw os => by
  refine W_runE ?_
  simp [mb_Site_parts, κp_Site_parts, κl_Site_parts, outs, siteD]
end HT

set_option maxHeartbeats 40000000
namespace HT
open PySem PySem.Spec PyProof.Rows L2 DL
/-! ### limits -/
def ordM (v : Nat) (t : Int) (o : Nat × Int × Int × Int) : Bool := decide (o.1 = v ∧ o.2.1 ≤ t ∧ t < o.2.2.1)
def stepM (v : Nat) (t : Int) (told : Int) (o : Nat × Int × Int × Int) : Int := if ordM v t o = true then o.2.2.2 else told
def limF (lim : Nat → Int) (os : Ord) (v : Nat) (t : Int) : Int := os.foldl (stepM v t) (lim v)
theorem take_succ_get {α : Type} (xs : List α) (i : Nat) (h : i < xs.length) : xs.take (i + 1) = xs.take i ++ [xs[i]] := by
  rw [List.take_succ, List.getElem?_eq_getElem h]; rfl
section
variable {n : Nat} {par : Nat → Nat} {lim : Nat → Int} {m : Nat} {pl : Nat → Nat} {pw : Nat → Int} {os : Ord}
def Sp_limit (c : DF) : Prop := ∀ n par lim m pl pw os (v : Nat) (t : Int), v < n → c [siteD n par lim m pl pw os, .int v, .int t] = some (.int (limF lim os v t), [siteD n par lim m pl pw os, .int v, .int t])
theorem ev_limit : Sp_limit (runD κp_Site_limit κl_Site_limit.length .sc mb_Site_limit) := fun n par lim m pl pw os v t hv => by
  refine W_runE ?_
  unfold mb_Site_limit
  refine W_seq (fun ρ => ρ = [some (siteD n par lim m pl pw os), some (.int v), some (.int t), some (.int (lim v)), none, none, none, none]) ?_ ?_
  · simp [siteD, nodesL_at hv, nodeD, at2, κl_Site_limit]
  rintro _ rfl
  refine W_seq (fun ρ => ∃ a b c d : Option D, ρ = [some (siteD n par lim m pl pw os), some (.int v), some (.int t), some (.int (limF lim os v t)), a, b, c, d]) ?_ ?_
  · refine W_mForI (R := [some (siteD n par lim m pl pw os), some (.int v), some (.int t), some (.int (lim v)), none, none, none, none]) (xs := os.map orderD) (by simp [siteD]) ?_
    refine W_for (fun i ρ => ∃ a b c d : Option D, ρ = [some (siteD n par lim m pl pw os), some (.int v), some (.int t), some (.int ((os.take i).foldl (stepM v t) (lim v))), a, b, c, d]) ⟨_, _, _, _, rfl⟩ ?_ ?_
    · rintro i x _ hx ⟨a, b, c, d, rfl⟩
      have hi : i < os.length := by
        have := (List.getElem?_eq_some_iff.mp hx).1
        rwa [List.length_map] at this
      rw [List.getElem?_map, List.getElem?_eq_getElem hi] at hx
      cases hx
      rw [take_succ_get os i hi, List.foldl_append]
      have hs : [os[i]].foldl (stepM v t) ((os.take i).foldl (stepM v t) (lim v)) = stepM v t ((os.take i).foldl (stepM v t) (lim v)) os[i] := rfl
      rw [hs]
      generalize (os.take i).foldl (stepM v t) (lim v) = z
      obtain ⟨o1, o2, o3, o4⟩ := os[i]
      by_cases h1 : o1 = v
      · by_cases h2 : o2 ≤ t
        · by_cases h3 : t < o3
          · simp [orderD, stepM, ordM, h1, h2, h3]
          · simp [orderD, stepM, ordM, h1, h2, h3]
        · simp [orderD, stepM, ordM, h1, h2]
      · have h1' : ¬ (o1 : Int) = (v : Int) := by omega
        simp [orderD, stepM, ordM, h1, h1']
    · rintro _ ⟨a, b, c, d, rfl⟩
      rw [List.length_map, List.take_length]
      exact ⟨rfl, a, b, c, d, rfl⟩
  rintro _ ⟨a, b, c, d, rfl⟩
  simp [outs, κp_Site_limit]
def Sp_llimit (c : DF) : Prop := ∀ n par lim os (v : Nat) (t : Int), v < n → os.length ≤ 100 → c [.lst (nodesL n par lim), .lst (os.map orderD), .int v, .int t] = some (.int (limF lim os v t), [.lst (nodesL n par lim), .lst (os.map orderD), .int v, .int t])
theorem ev_llimit : Sp_llimit (runD κp_law_limit κl_law_limit.length .sc mb_law_limit) := fun n par lim os v t hv hl => by
  refine W_runE ?_
  unfold mb_law_limit
  rw [W_mSeq]
  refine W_mForI (R := [some (.lst (nodesL n par lim)), some (.lst (os.map orderD)), some (.int v), some (.int t), none, none]) (xs := rangeD 0 os.length) (by simp [κl_law_limit]; omega) ?_
  refine W_for (fun i ρ => limF lim os v t = (os.take (os.length - i)).foldl (stepM v t) (lim v) ∧ ∃ a b : Option D, ρ = [some (.lst (nodesL n par lim)), some (.lst (os.map orderD)), some (.int v), some (.int t), a, b]) ⟨by rw [Nat.sub_zero, List.take_length]; rfl, _, _, rfl⟩ ?_ ?_
  · rintro i x _ hx ⟨hz, a, b, rfl⟩
    have hi : i < os.length := by
      have := (List.getElem?_eq_some_iff.mp hx).1
      rwa [rangeD_len] at this
    rw [rangeD_get 0 os.length i hi] at hx
    cases hx
    have hj : os.length - 1 - i < os.length := by omega
    have hat : atI (os.map orderD) ((os.length : Int) - 1 - (0 + (i : Int))) = some (orderD os[os.length - 1 - i]) := by
      have e : (os.length : Int) - 1 - (0 + (i : Int)) = ((os.length - 1 - i : Nat) : Int) := by omega
      rw [e]
      exact DL.atI_nat (by rw [List.getElem?_map, List.getElem?_eq_getElem hj]; rfl)
    have ej : os.length - i = os.length - 1 - i + 1 := by omega
    rw [ej, take_succ_get os _ hj, List.foldl_append] at hz
    have ej2 : os.length - (i + 1) = os.length - 1 - i := by omega
    rw [ej2]
    have hs : [os[os.length - 1 - i]].foldl (stepM v t) ((os.take (os.length - 1 - i)).foldl (stepM v t) (lim v)) = stepM v t ((os.take (os.length - 1 - i)).foldl (stepM v t) (lim v)) os[os.length - 1 - i] := rfl
    rw [hs] at hz
    generalize (os.take (os.length - 1 - i)).foldl (stepM v t) (lim v) = z at hz ⊢
    generalize os[os.length - 1 - i] = o at hz hat ⊢
    obtain ⟨o1, o2, o3, o4⟩ := o
    simp only [Int.zero_add] at hat ⊢
    by_cases h1 : o1 = v
    · by_cases h2 : o2 ≤ t
      · by_cases h3 : t < o3
        · have h4 : t ≤ o3 - 1 := by omega
          simp [stepM, ordM, h1, h2, h3] at hz
          simp [hat, orderD, at0, at1, at2, at3, h1, h2, h4, hz, outs, κp_law_limit]
        · have h4 : ¬ t ≤ o3 - 1 := by omega
          simp [stepM, ordM, h1, h2, h3] at hz
          simp [hat, orderD, at0, at1, at2, at3, h1, h2, h4, hz]
      · simp [stepM, ordM, h1, h2] at hz
        simp [hat, orderD, at0, at1, at2, at3, h1, h2, hz]
    · have h1' : ¬ (o1 : Int) = (v : Int) := by omega
      simp [stepM, ordM, h1] at hz
      simp [hat, orderD, at0, at1, at2, at3, h1, h1', hz]
  · rintro _ ⟨hz, a, b, rfl⟩
    rw [rangeD_len, Nat.sub_self, List.take_zero] at hz
    have hz : limF lim os v t = lim v := hz
    simp [nodesL_at hv, nodeD, at2, hz, outs, κp_law_limit]
/-! ### the way up -/
def wayF (par : Nat → Nat) : Nat → Nat → List Nat
  | 0, v => [v]
  | f + 1, v => if v = 0 then [v] else v :: wayF par f (par v)
def way (par : Nat → Nat) (v : Nat) : List Nat := wayF par v v
theorem wayF_eq {par : Nat → Nat} (hp : ∀ k, 0 < k → k < n → par k < k) : ∀ (f v : Nat), v < n → v ≤ f → wayF par f v = way par v
  | 0, v, _, h => by
    have : v = 0 := by omega
    subst this; rfl
  | f + 1, v, hv, h => by
    by_cases h0 : v = 0
    · subst h0; rfl
    · obtain ⟨u, rfl⟩ : ∃ u, v = u + 1 := ⟨v - 1, by omega⟩
      have hq := hp (u + 1) (by omega) hv
      rw [way, wayF, wayF, if_neg h0, if_neg h0]
      rw [wayF_eq hp f (par (u + 1)) (by omega) (by omega), wayF_eq hp u (par (u + 1)) (by omega) (by omega)]
theorem way_zero {par : Nat → Nat} : way par 0 = [0] := rfl
theorem way_pos {par : Nat → Nat} (hp : ∀ k, 0 < k → k < n → par k < k) {v : Nat} (h0 : 0 < v) (hv : v < n) : way par v = v :: way par (par v) := by
  obtain ⟨u, rfl⟩ : ∃ u, v = u + 1 := ⟨v - 1, by omega⟩
  have hq := hp (u + 1) (by omega) hv
  rw [way, wayF, if_neg (by omega), wayF_eq hp u (par (u + 1)) (by omega) (by omega)]
theorem way_le {par : Nat → Nat} (hp : ∀ k, 0 < k → k < n → par k < k) : ∀ (v : Nat), v < n → ∀ u ∈ way par v, u ≤ v := by
  intro v
  induction v using Nat.strongRecOn with
  | ind v ih =>
    intro hv u hu
    by_cases h0 : v = 0
    · subst h0
      rw [way_zero, List.mem_singleton] at hu
      omega
    · rw [way_pos hp (by omega) hv] at hu
      have hq := hp v (by omega) hv
      rcases List.mem_cons.mp hu with rfl | hu
      · exact Nat.le_refl _
      · have := ih (par v) hq (by omega) u hu
        omega
theorem way_nodup {par : Nat → Nat} (hp : ∀ k, 0 < k → k < n → par k < k) : ∀ (v : Nat), v < n → (way par v).Nodup := by
  intro v
  induction v using Nat.strongRecOn with
  | ind v ih =>
    intro hv
    by_cases h0 : v = 0
    · subst h0
      simp [way_zero]
    · rw [way_pos hp (by omega) hv]
      have hq := hp v (by omega) hv
      refine List.nodup_cons.mpr ⟨fun hm => ?_, ih _ hq (by omega)⟩
      have := way_le hp _ (by omega) v hm
      omega
theorem way_top {par : Nat → Nat} (hp : ∀ k, 0 < k → k < n → par k < k) : ∀ (v : Nat), v < n → 0 ∈ way par v := by
  intro v
  induction v using Nat.strongRecOn with
  | ind v ih =>
    intro hv
    by_cases h0 : v = 0
    · subst h0; simp [way_zero]
    · rw [way_pos hp (by omega) hv]
      have hq := hp v (by omega) hv
      exact List.mem_cons_of_mem _ (ih _ hq (by omega))
def intsN (xs : List Nat) : List D := xs.map fun (k : Nat) => D.int (k : Int)
def Sp_above (c : DF) : Prop := ∀ n par lim m pl pw os (v : Nat), NodesOk n par lim → v < n → c [siteD n par lim m pl pw os, .int v] = some (.lst (intsN (way par v)), [siteD n par lim m pl pw os, .int v])
theorem ev_above : Sp_above (runD κp_Site_above κl_Site_above.length (.lst .sc) mb_Site_above) := fun n par lim m pl pw os v ok hv => by
  refine W_runE ?_
  unfold mb_Site_above
  have h24 := ok.hi
  refine W_seq (fun ρ => ρ = [some (siteD n par lim m pl pw os), some (.int v), some (.lst [])]) (by simp [κl_Site_above]) ?_
  rintro _ rfl
  refine W_seq (fun ρ => ρ = [some (siteD n par lim m pl pw os), some (.int (-1)), some (.lst (intsN (way par v)))]) ?_ ?_
  · obtain ⟨I, hI⟩ : ∃ I : Nat → Rho → Prop, ∀ k ρ, I k ρ ↔ ∃ pre : List Nat, (pre.length + k ≤ 100 ∧ ((k = 0 ∧ pre = way par v ∧ ρ = [some (siteD n par lim m pl pw os), some (.int (-1)), some (.lst (intsN pre))]) ∨
      (∃ u, u < n ∧ k = u + 1 ∧ pre ++ way par u = way par v ∧ ρ = [some (siteD n par lim m pl pw os), some (.int u), some (.lst (intsN pre))]))) := ⟨_, fun _ _ => Iff.rfl⟩
    refine W_while (n := v + 1) I ((hI _ _).mpr ⟨[], by simp; omega, .inr ⟨v, hv, rfl, rfl, rfl⟩⟩) ?_
    intro k ρ hh
    obtain ⟨pre, hk, ⟨rfl, rfl, rfl⟩ | ⟨u, hu, rfl, hw, rfl⟩⟩ := (hI _ _).mp hh
    · simp
    · have hlen : (intsN pre).length < 100000 := by rw [intsN, List.length_map]; omega
      by_cases h0 : u = 0
      · subst h0
        rw [way_zero] at hw
        have hat0 : atI (nodesL n par lim) 0 = some (nodeD par lim 0) := nodesL_at hu
        simp [siteD, hat0, nodeD, at1, hlen]
        refine (hI _ _).mpr ⟨pre ++ [0], by simp; omega, .inl ⟨rfl, hw, ?_⟩⟩
        simp [intsN, siteD]
      · have hq := ok.par u (by omega) hu
        rw [way_pos ok.par (by omega) hu] at hw
        simp [siteD, nodesL_at hu, nodeD, at1, hlen, h0]
        refine ⟨par u + 1, by omega, (hI _ _).mpr ⟨pre ++ [u], by simp; omega, .inr ⟨par u, by omega, rfl, ?_, ?_⟩⟩⟩
        · rw [← hw]; simp
        · simp [intsN, siteD]
  rintro _ rfl
  simp [outs, κp_Site_above]
end
end HT

set_option maxHeartbeats 40000000
namespace HT
open PySem PySem.Spec PyProof.Rows L2 DL
theorem dCat_im {xs ys : List D} (h : xs.length + ys.length ≤ 100000) : dCat .im (.lst xs) (.lst ys) = some (.lst (xs ++ ys)) := by
  show (if xs.length + ys.length ≤ 100000 then mkL .im (xs ++ ys) else none) = _
  rw [if_pos h]
  exact if_pos (by simp)
section
variable {n : Nat}
theorem way_len {par : Nat → Nat} (hp : ∀ k, 0 < k → k < n → par k < k) : ∀ (v : Nat), v < n → (way par v).length ≤ v + 1 := by
  intro v
  induction v using Nat.strongRecOn with
  | ind v ih =>
    intro hv
    by_cases h0 : v = 0
    · subst h0; simp [way_zero]
    · rw [way_pos hp (by omega) hv]
      have hq := hp v (by omega) hv
      have := ih _ hq (by omega)
      rw [List.length_cons]
      omega
def Sp_way (f : Nat) (c : DF) : Prop := ∀ n par lim (v : Nat), NodesOk n par lim → v < n → v < f → c [.lst (nodesL n par lim), .int v] = some (.lst (intsN (way par v)), [.lst (nodesL n par lim), .int v])
theorem ev_way {c : DF} {f : Nat} (hc : Sp_way f c) : Sp_way (f + 1) (runD κp_law_way κl_law_way.length (.lst .im) (mb_law_way c)) := fun n par lim v ok hv hf => by
  refine W_runE ?_
  unfold mb_law_way
  by_cases h0 : v = 0
  · subst h0
    have hat0 : atI (nodesL n par lim) 0 = some (nodeD par lim 0) := nodesL_at hv
    simp [hat0, nodeD, at1, way_zero, intsN, outs, κp_law_way]
  · have hq := ok.par v (by omega) hv
    have hr := hc n par lim (par v) ok (by omega) (by omega)
    have hl := way_len ok.par (par v) (by omega)
    have h24 := ok.hi
    have hcat : dCat .im (.lst [.int (v : Int)]) (.lst (intsN (way par (par v)))) = some (.lst (intsN (way par v))) := by
      rw [dCat_im (by simp [intsN]; omega), way_pos ok.par (by omega) hv]
      rfl
    have hneg : ¬ ((par v : Int) < 0) := by omega
    simp [nodesL_at hv, nodeD, at1, h0, hneg, hr, hcat, outs, κp_law_way]
/-! ### loads -/
def loadF (par : Nat → Nat) (m : Nat) (pl : Nat → Nat) (dr : Nat → Int) (v : Nat) : Int := ((List.range m).map fun k => if v ∈ way par (pl k) then dr k else 0).sum
def drawsL (m : Nat) (dr : Nat → Int) : List D := (List.range m).map fun k => D.int (dr k)
def loadsL (n : Nat) (par : Nat → Nat) (m : Nat) (pl : Nat → Nat) (dr : Nat → Int) : List D := (List.range n).map fun v => D.int (loadF par m pl dr v)
theorem loadF_succ {par : Nat → Nat} {m : Nat} {pl : Nat → Nat} {dr : Nat → Int} {v : Nat} : loadF par (m + 1) pl dr v = loadF par m pl dr v + if v ∈ way par (pl m) then dr m else 0 := by
  unfold loadF
  rw [List.range_succ, List.map_append, List.sum_append]
  simp
theorem map_set (n u : Nat) (f : Nat → D) (y : D) : ((List.range n).map f).set u y = (List.range n).map fun v => if v = u then y else f v := by
  apply List.ext_getElem?
  intro i
  by_cases h : i = u
  · subst h
    by_cases hl : i < n
    · rw [List.getElem?_set_self (by simpa using hl)]
      simp [hl]
    · rw [List.getElem?_eq_none (by simp; omega), List.getElem?_eq_none (by simp; omega)]
  · rw [List.getElem?_set_ne (Ne.symm h)]
    by_cases hl : i < n
    · simp [hl, h]
    · rw [List.getElem?_eq_none (by simp; omega), List.getElem?_eq_none (by simp; omega)]
def Sp_loads (c : DF) : Prop := ∀ n par lim m pl pw os (dr : Nat → Int), NodesOk n par lim → PlugsOk n m pl pw → c [siteD n par lim m pl pw os, .lst (drawsL m dr)] = some (.lst (loadsL n par m pl dr), [siteD n par lim m pl pw os, .lst (drawsL m dr)])
theorem ev_loads {ca : DF} (ha : Sp_above ca) : Sp_loads (runD κp_Site_loads κl_Site_loads.length (.lst .sc) (mb_Site_loads ca)) := fun n par lim m pl pw os dr ok okp => by
  refine W_runE ?_
  unfold mb_Site_loads
  have h24 := ok.hi
  refine W_seq (fun ρ => ρ = [some (siteD n par lim m pl pw os), some (.lst (drawsL m dr)), some (.lst (loadsL n par 0 pl dr)), none, none, none, none]) ?_ ?_
  · have hrep : dRep .sc (.lst [.int 0]) (.int (n : Int)) = some (.lst (loadsL n par 0 pl dr)) := by
      have e : (List.replicate (n : Int).toNat [D.int 0]).flatten = loadsL n par 0 pl dr := by
        rw [Int.toNat_natCast]
        unfold loadsL loadF
        apply List.ext_getElem?
        intro i
        by_cases hl : i < n
        · simp [hl, List.flatten_replicate_singleton]
        · rw [List.getElem?_eq_none (by simp; omega), List.getElem?_eq_none (by simp; omega)]
      show (if [D.int 0].length * (n : Int).toNat ≤ 100000 ∧ -(2 ^ 62) ≤ (n : Int) ∧ (n : Int) ≤ 2 ^ 62 then mkL .sc (List.replicate (n : Int).toNat [D.int 0]).flatten else none) = _
      rw [if_pos ⟨by simp; omega, by omega, by omega⟩, e]
      exact if_pos (by simp [loadsL])
    simp [siteD, nodesL_len, hrep, κl_Site_loads]
  rintro _ rfl
  have hz : (zipD (drawsL m dr) (plugsL m pl pw)).length = m := by rw [zipD_len]; simp [drawsL, plugsL]
  refine W_seq (fun ρ => ∃ a b c d : Option D, ρ = [some (siteD n par lim m pl pw os), some (.lst (drawsL m dr)), some (.lst (loadsL n par m pl dr)), a, b, c, d]) ?_ ?_
  · refine W_mForI (R := [some (siteD n par lim m pl pw os), some (.lst (drawsL m dr)), some (.lst (loadsL n par 0 pl dr)), none, none, none, none]) (xs := zipD (drawsL m dr) (plugsL m pl pw)) (by simp [siteD]) ?_
    obtain ⟨I, hI⟩ : ∃ I : Nat → Rho → Prop, ∀ i ρ, I i ρ ↔ ∃ a b c d : Option D, ρ = [some (siteD n par lim m pl pw os), some (.lst (drawsL m dr)), some (.lst (loadsL n par i pl dr)), a, b, c, d] := ⟨_, fun _ _ => Iff.rfl⟩
    refine W_for I ((hI _ _).mpr ⟨_, _, _, _, rfl⟩) ?_ ?_
    · intro i x ρ hx hh
      obtain ⟨a, b, c, d, rfl⟩ := (hI _ _).mp hh
      have hi : i < m := by
        have := (List.getElem?_eq_some_iff.mp hx).1
        rwa [hz] at this
      have e1 : (drawsL m dr)[i]? = some (.int (dr i)) := by simp [drawsL, hi]
      have e2 : (plugsL m pl pw)[i]? = some (plugD pl pw i) := by simp [plugsL, hi]
      rw [zipD_get e1 e2] at hx
      cases hx
      have hpl := okp.pl i hi
      have hab := ha n par lim m pl pw os (pl i) ok hpl
      simp only [plugD, W_mgTup]
      refine ⟨_, rfl, rfl, ?_⟩
      simp only [W_mgCons, W_setV, W_mgTup, W_mgNil]
      refine ⟨rfl, _, rfl, rfl, ?_⟩
      simp only [W_mgCons, W_setV, W_mgNil]
      refine ⟨rfl, rfl, rfl, ?_⟩
      refine W_mForI (R := [some (siteD n par lim m pl pw os), some (.lst (drawsL m dr)), some (.lst (loadsL n par i pl dr)), some (.int (dr i)), some (.int (pw i)), some (.int (pl i : Int)), d]) (xs := intsN (way par (pl i))) (by simpa [κp_Site_above, siteD] using by rw [show D.obj (Str.ofString "Site") (siteF n par lim m pl pw os) = siteD n par lim m pl pw os from rfl, hab]; simp) ?_
      have nd := way_nodup ok.par (pl i) hpl
      have le := way_le ok.par (pl i) hpl
      obtain ⟨J, hJ⟩ : ∃ J : Nat → Rho → Prop, ∀ j ρ, J j ρ ↔ ∃ d : Option D, ρ = [some (siteD n par lim m pl pw os), some (.lst (drawsL m dr)), some (.lst ((List.range n).map fun v => D.int (loadF par i pl dr v + if v ∈ (way par (pl i)).take j then dr i else 0))), some (.int (dr i)), some (.int (pw i)), some (.int (pl i : Int)), d] := ⟨_, fun _ _ => Iff.rfl⟩
      refine W_for J ((hJ _ _).mpr ⟨d, by simp [loadsL]⟩) ?_ ?_
      · intro j x ρ hx hh
        obtain ⟨d, rfl⟩ := (hJ _ _).mp hh
        have hj : j < (way par (pl i)).length := by
          have := (List.getElem?_eq_some_iff.mp hx).1
          rwa [intsN, List.length_map] at this
        rw [intsN, List.getElem?_map, List.getElem?_eq_getElem hj] at hx
        cases hx
        have hu : (way par (pl i))[j] ≤ pl i := le _ (List.getElem_mem hj)
        have hnot : (way par (pl i))[j] ∉ (way par (pl i)).take j := fun hm => by
          obtain ⟨k, hk, e⟩ := List.mem_iff_getElem.mp hm
          rw [List.getElem_take] at e
          rw [List.length_take] at hk
          exact (List.pairwise_iff_getElem.mp nd) k j (by omega) hj (by omega) e
        have ht := take_succ_get (way par (pl i)) j hj
        generalize (way par (pl i))[j] = u at hu hnot ht ⊢
        generalize (way par (pl i)).take j = tk at hnot ht ⊢
        have hun : u < n := by omega
        have hat : atI ((List.range n).map fun v => D.int (loadF par i pl dr v + if v ∈ tk then dr i else 0)) (u : Int) = some (.int (loadF par i pl dr u)) := by
          refine DL.atI_nat ?_
          simp [hun, hnot]
        have hix : ixN ((List.range n).map fun v => D.int (loadF par i pl dr v + if v ∈ tk then dr i else 0)).length (u : Int) = some u := ixN_nat (by simpa using hun)
        have hset : (((List.range n).map fun v => D.int (loadF par i pl dr v + if v ∈ tk then dr i else 0)).set u (.int (loadF par i pl dr u + dr i))) = (List.range n).map fun v => D.int (loadF par i pl dr v + if v ∈ (way par (pl i)).take (j + 1) then dr i else 0) := by
          rw [map_set, ht]
          refine List.map_congr_left fun v _ => ?_
          by_cases h : v = u
          · subst h; simp
          · simp [h]
        rw [W_setV]
        refine ⟨rfl, ?_⟩
        rw [W_mAugIx]
        refine ⟨⟨_, rfl⟩, ?_⟩
        rw [W_eVar]
        refine ⟨_, rfl, _, _, rfl, hat, ?_⟩
        rw [W_eVar]
        refine ⟨_, rfl, _, _, _, rfl, rfl, hix, rfl, (hJ _ _).mpr ⟨some (.int (u : Int)), ?_⟩⟩
        rw [hset]
        rfl
      · intro ρ hh
        obtain ⟨d, rfl⟩ := (hJ _ _).mp hh
        have : loadsL n par (i + 1) pl dr = (List.range n).map fun v => D.int (loadF par i pl dr v + if v ∈ way par (pl i) then dr i else 0) := by
          unfold loadsL
          simp only [loadF_succ]
        dsimp only
        rw [intsN, List.length_map, List.take_length, ← this]
        exact (hI _ _).mpr ⟨_, _, _, _, rfl⟩
    · intro ρ hh
      rw [hz] at hh
      exact And.intro rfl ((hI _ _).mp hh)
  rintro _ ⟨a, b, c, d, rfl⟩
  simp [outs, κp_Site_loads]
end
end HT

set_option maxHeartbeats 40000000
namespace HT
open PySem PySem.Spec PyProof.Rows L2 DL
/-! ### excess -/
theorem find_none {n : Nat} {p : Nat → Bool} (h : ∀ j, j < n → p j = false) : (List.range n).find? p = none := by
  rw [List.find?_eq_none]
  intro x hx
  rw [h x (List.mem_range.mp hx)]
  simp
theorem find_some {n i : Nat} {p : Nat → Bool} (h : ∀ j, j < i → p j = false) (hi : i < n) (hp : p i = true) : (List.range n).find? p = some i := by
  have e : List.range n = List.range i ++ (List.range n).drop i := by
    have := (List.take_append_drop i (List.range n)).symm
    rw [List.take_range, Nat.min_eq_left (by omega)] at this
    exact this
  rw [e, List.find?_append, find_none h, Option.none_or]
  have : (List.range n).drop i = i :: (List.range n).drop (i + 1) := by
    rw [List.drop_eq_getElem_cons (by simpa using hi)]
    simp
  rw [this, List.find?_cons, hp]
def overF (n : Nat) (par : Nat → Nat) (lim : Nat → Int) (m : Nat) (pl : Nat → Nat) (os : Ord) (t : Int) (dr : Nat → Int) (v : Nat) : Bool := decide (limF lim os v t < loadF par m pl dr v)
def natD : Option Nat → D
  | some v => .int (v : Int)
  | none => .non
def Sp_excess (c : DF) : Prop := ∀ n par lim m pl pw os (t : Int) (dr : Nat → Int), NodesOk n par lim → PlugsOk n m pl pw →
  c [siteD n par lim m pl pw os, .int t, .lst (drawsL m dr)] = some (natD ((List.range n).find? (overF n par lim m pl os t dr)), [siteD n par lim m pl pw os, .int t, .lst (drawsL m dr)])
theorem ev_excess {cl ci : DF} (hl : Sp_loads cl) (hi : Sp_limit ci) : Sp_excess (runD κp_Site_excess κl_Site_excess.length .sc (mb_Site_excess cl ci)) := fun n par lim m pl pw os t dr ok okp => by
  refine W_runE ?_
  unfold mb_Site_excess
  rw [W_mSeq]
  have hlo := hl n par lim m pl pw os dr ok okp
  refine W_mForI (R := [some (siteD n par lim m pl pw os), some (.int t), some (.lst (drawsL m dr)), none, none]) (xs := enumD 0 (loadsL n par m pl dr)) ?_ ?_
  · rw [W_iEnumM, W_eMeth, W_eVar]
    refine ⟨_, rfl, rfl, ?_⟩
    simp only [W_aCons, W_eVar, W_aNil]
    refine ⟨_, rfl, rfl, ?_⟩
    rw [hlo, CR1_some]
    exact ⟨_, rfl, rfl, rfl⟩
  obtain ⟨I, hI⟩ : ∃ I : Nat → Rho → Prop, ∀ i ρ, I i ρ ↔ (∀ j, j < i → overF n par lim m pl os t dr j = false) ∧ ∃ a b : Option D, ρ = [some (siteD n par lim m pl pw os), some (.int t), some (.lst (drawsL m dr)), a, b] := ⟨_, fun _ _ => Iff.rfl⟩
  refine W_for I ((hI _ _).mpr ⟨fun j h => by omega, _, _, rfl⟩) ?_ ?_
  · intro i x ρ hx hh
    obtain ⟨hno, a, b, rfl⟩ := (hI _ _).mp hh
    have hin : i < n := by
      have := (List.getElem?_eq_some_iff.mp hx).1
      rw [enumD_len, loadsL, List.length_map, List.length_range] at this
      exact this
    rw [enumD_get, loadsL, getElem_range n i _ hin] at hx
    cases hx
    have hlim := hi n par lim m pl pw os i t hin
    simp only [W_mgTup]
    refine ⟨_, rfl, rfl, ?_⟩
    simp only [W_mgCons, W_setV, W_mgNil]
    refine ⟨rfl, rfl, ?_⟩
    rw [W_mIf, W_tB1, W_eOp2, W_eVar]
    refine ⟨_, rfl, ?_⟩
    rw [W_eMeth, W_eVar]
    refine ⟨_, rfl, rfl, ?_⟩
    simp only [W_aCons, W_eVar, W_aNil]
    refine ⟨_, rfl, _, rfl, rfl, ?_⟩
    have e0 : ((0 + i : Nat) : Int) = (i : Int) := by omega
    rw [e0, hlim, CR1_some]
    refine ⟨_, dGt_int, _, rfl, ?_⟩
    by_cases ho : limF lim os i t < loadF par m pl dr i
    · have hp : overF n par lim m pl os t dr i = true := decide_eq_true ho
      rw [decide_eq_true ho, if_pos rfl, find_some hno hin hp]
      simp [outs, κp_Site_excess, natD]
    · have hp : overF n par lim m pl os t dr i = false := decide_eq_false ho
      rw [decide_eq_false ho, if_neg (by simp), W_ret]
      refine (hI _ _).mpr ⟨fun j hj => ?_, _, _, rfl⟩
      by_cases h : j = i
      · rw [h]; exact hp
      · exact hno j (by omega)
  · intro ρ hh
    obtain ⟨hno, a, b, rfl⟩ := (hI _ _).mp hh
    rw [enumD_len, loadsL, List.length_map, List.length_range] at hno
    rw [find_none hno]
    simp [outs, κp_Site_excess, natD]
/-! ### loads by the tree -/
theorem sum_add {α : Type} (xs : List α) (f g : α → Int) : (xs.map fun x => f x + g x).sum = (xs.map f).sum + (xs.map g).sum := by
  induction xs with
  | nil => rfl
  | cons x xs ih => simp only [List.map_cons, List.sum_cons, ih]; omega
theorem sum_zero {α : Type} (xs : List α) (f : α → Int) (h : ∀ x ∈ xs, f x = 0) : (xs.map f).sum = 0 := by
  induction xs with
  | nil => rfl
  | cons x xs ih =>
    rw [List.map_cons, List.sum_cons, h x List.mem_cons_self, ih fun y hy => h y (List.mem_cons_of_mem _ hy)]
    rfl
theorem sum_swap {α β : Type} (xs : List α) (ys : List β) (f : α → β → Int) : (xs.map fun x => (ys.map fun y => f x y).sum).sum = (ys.map fun y => (xs.map fun x => f x y).sum).sum := by
  induction xs with
  | nil => simp [sum_zero]
  | cons x xs ih => simp only [List.map_cons, List.sum_cons, ih, sum_add]
theorem sum_congr {α : Type} (xs : List α) (f g : α → Int) (h : ∀ x ∈ xs, f x = g x) : (xs.map f).sum = (xs.map g).sum := by
  rw [List.map_congr_left h]
theorem sum_one (xs : List Nat) (nd : xs.Nodup) (p : Nat) (z : Int) : (xs.map fun c => if c = p then z else 0).sum = if p ∈ xs then z else 0 := by
  induction xs with
  | nil => simp
  | cons x xs ih =>
    obtain ⟨h1, h2⟩ := List.nodup_cons.mp nd
    rw [List.map_cons, List.sum_cons, ih h2]
    by_cases h : x = p
    · subst h; simp [h1]
    · have : ¬ p = x := fun e => h e.symm
      simp [h, this]
theorem sum_filter {α : Type} (xs : List α) (p : α → Bool) (f : α → Int) : ((xs.filter p).map f).sum = (xs.map fun x => if p x = true then f x else 0).sum := by
  induction xs with
  | nil => rfl
  | cons x xs ih =>
    by_cases h : p x = true
    · rw [List.filter_cons_of_pos h]; simp [h, ih]
    · rw [List.filter_cons_of_neg h]; simp [h, ih]
/-- the children of v -/
def kids (n : Nat) (par : Nat → Nat) (v : Nat) : List Nat := (List.range n).filter fun c => decide (v < c ∧ par c = v)
theorem mem_kids {n : Nat} {par : Nat → Nat} {v c : Nat} : c ∈ kids n par v ↔ c < n ∧ v < c ∧ par c = v := by
  simp [kids]
theorem kids_nodup {n : Nat} {par : Nat → Nat} {v : Nat} : (kids n par v).Nodup := List.nodup_range.filter _
theorem way_kids {n : Nat} {par : Nat → Nat} (hp : ∀ k, 0 < k → k < n → par k < k) {v : Nat} (z : Int) : ∀ p, p < n → (if v ∈ way par p then z else 0) = (if p = v then z else 0) + ((kids n par v).map fun c => if c ∈ way par p then z else 0).sum := by
  intro p
  induction p using Nat.strongRecOn with
  | ind p ih =>
    intro hpn
    by_cases hv : p = v
    · subst hv
      have hm : p ∈ way par p := by
        by_cases h0 : p = 0
        · subst h0; simp [way_zero]
        · rw [way_pos hp (by omega) hpn]; exact List.mem_cons_self
      rw [if_pos hm, if_pos rfl, sum_zero, Int.add_zero]
      intro c hc
      rw [if_neg]
      intro h
      have := way_le hp p hpn c h
      have := (mem_kids.mp hc).2.1
      omega
    · by_cases h0 : p = 0
      · subst h0
        rw [way_zero, if_neg (by simp; omega), if_neg hv, sum_zero]
        · rfl
        · intro c hc
          have := (mem_kids.mp hc).2.1
          rw [if_neg (by simp; omega)]
      · have hq := hp p (by omega) hpn
        have e := ih (par p) hq (by omega)
        rw [way_pos hp (by omega) hpn, if_neg hv]
        have h1 : (v ∈ p :: way par (par p)) ↔ v ∈ way par (par p) := by
          rw [List.mem_cons]
          exact ⟨fun h => h.resolve_left fun w => hv w.symm, .inr⟩
        simp only [h1]
        rw [e]
        have h2 : ∀ c ∈ kids n par v, (if c ∈ p :: way par (par p) then z else 0) = (if c = p then z else 0) + (if c ∈ way par (par p) then z else 0) := by
          intro c hc
          by_cases hcp : c = p
          · subst hcp
            have : c ∉ way par (par c) := fun h => by
              have := way_le hp _ (by omega) c h
              omega
            simp [this]
          · simp [hcp]
        rw [sum_congr _ _ _ h2, sum_add, sum_one _ kids_nodup]
        by_cases hc : par p = v
        · have : p ∈ kids n par v := mem_kids.mpr ⟨hpn, by omega, hc⟩
          rw [if_pos hc, if_pos this]
          omega
        · have : p ∉ kids n par v := fun h => hc (mem_kids.mp h).2.2
          rw [if_neg hc, if_neg this]
          omega
theorem load_rec {n : Nat} {par : Nat → Nat} (hp : ∀ k, 0 < k → k < n → par k < k) {m : Nat} {pl : Nat → Nat} (hpl : ∀ k, k < m → pl k < n) {dr : Nat → Int} {v : Nat} :
    loadF par m pl dr v = (((List.range m).filter fun k => decide (pl k = v)).map dr).sum + ((kids n par v).map fun c => loadF par m pl dr c).sum := by
  rw [sum_filter]
  unfold loadF
  rw [sum_swap, ← sum_add]
  refine sum_congr _ _ _ fun k hk => ?_
  rw [way_kids hp (dr k) (pl k) (hpl k (List.mem_range.mp hk))]
  simp
theorem load_top {n : Nat} {par : Nat → Nat} (hp : ∀ k, 0 < k → k < n → par k < k) {m : Nat} {pl : Nat → Nat} (hpl : ∀ k, k < m → pl k < n) {dr : Nat → Int} : loadF par m pl dr 0 = ((List.range m).map dr).sum := by
  unfold loadF
  refine sum_congr _ _ _ fun k hk => ?_
  rw [if_pos (way_top hp (pl k) (hpl k (List.mem_range.mp hk)))]
end HT

set_option maxHeartbeats 40000000
namespace HT
open PySem PySem.Spec PyProof.Rows L2 DL
/-- a number's test and its number, over a range -/
theorem fm_range (lo : Int) (m : Nat) (f : D → Option D) (p : Nat → Bool) (h : Nat → Int) (hf : ∀ k, k < m → f (.int (lo + (k : Nat))) = if p k = true then some (.int (h k)) else none) :
    (rangeD lo m).filterMap f = (((List.range m).filter p).map h).map D.int := by
  unfold rangeD
  rw [List.filterMap_map]
  have : ∀ l : List Nat, (∀ k ∈ l, k < m) → l.filterMap (f ∘ fun i : Nat => D.int (lo + i)) = ((l.filter p).map h).map D.int := by
    intro l
    induction l with
    | nil => intro _; rfl
    | cons k l ih =>
      intro hl
      have e := hf k (hl k List.mem_cons_self)
      have ih := ih fun j hj => hl j (List.mem_cons_of_mem _ hj)
      by_cases hp : p k = true
      · rw [if_pos hp] at e
        rw [List.filterMap_cons, List.filter_cons_of_pos hp]
        simp only [Function.comp_apply, e, ih, List.map_cons]
      · rw [if_neg hp] at e
        rw [List.filterMap_cons, List.filter_cons_of_neg hp]
        simp only [Function.comp_apply, e, ih]
  exact this _ fun k hk => List.mem_range.mp hk
theorem kids_shift {n : Nat} {par : Nat → Nat} {v : Nat} (hv : v < n) : kids n par v = ((List.range (n - (v + 1))).filter fun k => decide (par (v + 1 + k) = v)).map fun k => v + 1 + k := by
  unfold kids
  have e : List.range n = List.range (v + 1) ++ (List.range (n - (v + 1))).map (v + 1 + ·) := by
    rw [← List.range_add]
    congr 1
    omega
  rw [e, List.filter_append]
  have h1 : (List.range (v + 1)).filter (fun c => decide (v < c ∧ par c = v)) = [] := by
    rw [List.filter_eq_nil_iff]
    intro c hc
    have := List.mem_range.mp hc
    simp
    omega
  rw [h1, List.nil_append, List.filter_map]
  congr 1
  refine List.filter_congr fun k _ => ?_
  simp only [Function.comp_apply]
  by_cases h : par (v + 1 + k) = v
  · simp [h]; omega
  · simp [h]
def Sp_lload (f : Nat) (c : DF) : Prop := ∀ n par lim m pl pw (dr : Nat → Int) (v : Nat), NodesOk n par lim → PlugsOk n m pl pw → v < n → n - v ≤ f →
  c [.lst (nodesL n par lim), .lst (plugsL m pl pw), .lst (drawsL m dr), .int v] = some (.int (loadF par m pl dr v), [.lst (nodesL n par lim), .lst (plugsL m pl pw), .lst (drawsL m dr), .int v])
theorem ev_lload {c : DF} {f : Nat} (hc : Sp_lload f c) : Sp_lload (f + 1) (runD κp_law_load κl_law_load.length .sc (mb_law_load c)) := fun n par lim m pl pw dr v ok okp hv hf => by
  refine W_runE ?_
  unfold mb_law_load
  have h24 := ok.hi
  have h16 := okp.hi
  have hint : ∀ {a b : Nat}, ((a : Int) = (b : Int)) ↔ a = b := Int.ofNat_inj
  refine W_seq (fun ρ => ρ = [some (.lst (nodesL n par lim)), some (.lst (plugsL m pl pw)), some (.lst (drawsL m dr)), some (.int v), some (.int (((List.range m).filter fun k => decide (pl k = v)).map dr).sum), none]) ?_ ?_
  · rw [W_mAsg, W_eCb1, W_eLc, W_iR1]
    simp only [W_aCons, W_aNil, W_eCb1, W_eVar]
    refine ⟨_, rfl, _, cLen_lst, _, rfl, by rw [plugsL_len]; omega, by rw [plugsL_len]; omega, ?_⟩
    have e0 : ((plugsL m pl pw).length : Int).toNat = m := by rw [plugsL_len]; omega
    rw [e0]
    refine ⟨by rw [rangeD_len]; omega, ?_⟩
    refine W_compF (fun x => match x with | .int i => if pl i.toNat = v then some (.int (dr i.toNat)) else none | _ => none) (fun x hx => ?_) ?_
    · obtain ⟨k, hk, rfl⟩ := List.mem_map.mp hx
      have hk := List.mem_range.mp hk
      have hat := plugsL_at (pl := pl) (pw := pw) hk
      have hat2 : atI (drawsL m dr) (k : Int) = some (.int (dr k)) := DL.atI_nat (by simp [drawsL, hk])
      by_cases h : pl k = v
      · simp [wipeR, restore, hat, plugD, at1, h, hat2, κl_law_load]
      · simp [wipeR, restore, hat, plugD, at1, h, κl_law_load, hint]
    · rw [fm_range 0 m _ (fun k => decide (pl k = v)) dr (fun k hk => by simp)]
      refine ⟨_, cSum_ints, ?_⟩
      rw [W_setV]
      exact ⟨rfl, trivial, rfl⟩
  rintro _ rfl
  rw [W_mRet, W_eOp2, W_eVar]
  refine ⟨_, rfl, ?_⟩
  rw [W_eCb1, W_eLc, W_iR2]
  simp only [W_aCons, W_aNil, W_eCb1, W_eVar, W_eOp2, W_eC]
  refine ⟨_, rfl, _, dAdd_int, _, rfl, _, cLen_lst, _, _, rfl, by omega, by omega, by rw [nodesL_len]; omega, by rw [nodesL_len]; omega, ?_⟩
  have e0 : (((nodesL n par lim).length : Int) - ((v : Int) + 1)).toNat = n - (v + 1) := by rw [nodesL_len]; omega
  rw [e0]
  refine ⟨by rw [rangeD_len]; omega, ?_⟩
  refine W_compF (fun x => match x with | .int i => if par i.toNat = v then some (.int (loadF par m pl dr i.toNat)) else none | _ => none) (fun x hx => ?_) ?_
  · obtain ⟨k, hk, rfl⟩ := List.mem_map.mp hx
    have hk := List.mem_range.mp hk
    have ek : (v : Int) + 1 + (k : Int) = ((v + 1 + k : Nat) : Int) := by omega
    rw [ek]
    have hkn : v + 1 + k < n := by omega
    have hat := nodesL_at (par := par) (lim := lim) hkn
    have hrec := hc n par lim m pl pw dr (v + 1 + k) ok okp hkn (by omega)
    generalize v + 1 + k = u at hat hrec hkn ek
    have hu0 : u ≠ 0 := by omega
    by_cases h : par u = v
    · simp [wipeR, restore, hat, nodeD, at1, h, hrec, κp_law_load, hu0]
    · simp [wipeR, restore, hat, nodeD, at1, h, hu0, hint]
  · have hfm := fm_range ((v : Int) + 1) (n - (v + 1)) (fun x => match x with | .int i => if par i.toNat = v then some (.int (loadF par m pl dr i.toNat)) else none | _ => none) (fun k => decide (par (v + 1 + k) = v)) (fun k => loadF par m pl dr (v + 1 + k)) (fun k hk => by
      have ek : ((v : Int) + 1 + (k : Int)).toNat = v + 1 + k := by omega
      simp only [ek]
      by_cases h : par (v + 1 + k) = v <;> simp [h])
    rw [hfm]
    refine ⟨_, cSum_ints, _, dAdd_int, ?_⟩
    have := load_rec ok.par okp.pl (dr := dr) (v := v)
    rw [kids_shift hv, List.map_map] at this
    refine ⟨rfl, ?_⟩
    rw [this]
    rfl
/-! ### exactly alike -/
def gd : Nat → D → Prop
  | _, .int _ => True
  | _, .non => True
  | _, .str s => PyData.strOk s = true
  | f + 1, .lst xs => xs.length ≤ 1000 ∧ ∀ x ∈ xs, gd f x
  | f + 1, .tup xs => xs.length ≤ 1000 ∧ ∀ x ∈ xs, gd f x
  | _, _ => False
def Sp_exact (f : Nat) (c : DF) : Prop := ∀ x, gd f x → c [x, x] = some (.bl true, [x, x])
theorem exact_items {c : DF} {xs : List D} {w : D} (hw : w = .lst xs ∨ w = .tup xs) (hl : xs.length ≤ 1000) (hc : ∀ x ∈ xs, c [x, x] = some (.bl true, [x, x])) {P : D → Rho → Prop} (q : P (.bl true) [some w, some w, none, none]) :
    W (eCb1 cAll (eLc .im [3] (iR1 (aCons (eCb1 cLen (eVar 0)) aNil)) (setV 3 .im) (ret true) (eCall κp_law_exact c (aCons (eOp2 dIx (eVar 0) (eVar 3)) (aCons (eOp2 dIx (eVar 1) (eVar 3)) aNil))))) [some w, some w, none, none] P := by
  have hlen : cLen w = some (.int xs.length) := by rcases hw with rfl | rfl <;> rfl
  have hix : ∀ i : Int, dIx w (.int i) = atI xs i := by rcases hw with rfl | rfl <;> exact fun i => rfl
  rw [W_eCb1, W_eLc, W_iR1]
  simp only [W_aCons, W_aNil, W_eCb1, W_eVar]
  refine ⟨_, rfl, _, hlen, _, rfl, by omega, by omega, ?_⟩
  rw [Int.toNat_natCast]
  refine ⟨by rw [rangeD_len]; omega, ?_⟩
  refine W_compF (fun _ => some (.bl true)) (fun x hx => ?_) ?_
  · obtain ⟨k, hk, rfl⟩ := List.mem_map.mp hx
    have hk := List.mem_range.mp hk
    have hat : dIx w (.int (k : Int)) = some xs[k] := by
      rw [hix]; exact DL.atI_nat (List.getElem?_eq_getElem hk)
    have := hc _ (List.getElem_mem hk)
    simp [wipeR, restore, hat, this, κp_law_exact]
  · have e : (rangeD 0 xs.length).filterMap (fun _ => some (D.bl true)) = (List.replicate xs.length true).map D.bl := by
      show (rangeD 0 xs.length).filterMap (some ∘ fun _ => D.bl true) = _
      rw [List.filterMap_eq_map]
      unfold rangeD
      rw [List.map_map]
      apply List.ext_getElem?
      intro i
      by_cases h : i < xs.length
      · simp [h]
      · rw [List.getElem?_eq_none (by simp; omega), List.getElem?_eq_none (by simp; omega)]
    rw [e]
    refine ⟨_, cAll_bools, ?_⟩
    have : (List.replicate xs.length true).all id = true := by simp
    rw [this]
    exact q
theorem ev_exact {c : DF} {f : Nat} (hc : ∀ f', f = f' + 1 → Sp_exact f' c) : Sp_exact f (runD κp_law_exact κl_law_exact.length .sc (mb_law_exact c)) := fun x hx => by
  refine W_runE ?_
  unfold mb_law_exact
  cases x with
  | non => simp [isTy, κl_law_exact, outs, κp_law_exact]
  | int i => simp [isTy, κl_law_exact, outs, κp_law_exact]
  | bl b => cases f <;> exact hx.elim
  | scr ns => cases f <;> exact hx.elim
  | obj c fs => cases f <;> exact hx.elim
  | str s =>
    have hs : PyData.strOk s = true := by cases f <;> exact hx
    simp [isTy, κl_law_exact, outs, κp_law_exact, dEq_str hs hs]
  | lst xs =>
    cases f with
    | zero => exact hx.elim
    | succ f =>
      obtain ⟨hl, hx⟩ := hx
      have key := exact_items (c := c) (xs := xs) (w := .lst xs) (.inl rfl) hl (fun x h => hc f rfl x (hx x h)) (P := fun d ρ => outs κp_law_exact [.lst xs, .lst xs] ρ = some [.lst xs, .lst xs] ∧ d = .bl true) ⟨rfl, rfl⟩
      rw [W_mSeq, W_mIf, W_tTru, W_eIs2, W_eVar]
      refine ⟨_, rfl, _, rfl, _, rfl, ?_⟩
      rw [if_pos (by decide), W_mSeq, W_mIf, W_tOrM, W_tB1, W_eOp2, W_eIs, W_eVar]
      refine ⟨_, rfl, _, rfl, ?_⟩
      rw [W_eIs, W_eVar]
      refine ⟨_, rfl, _, rfl, _, dNe_bl, _, rfl, ?_⟩
      rw [if_neg (by decide), W_tB1, W_eOp2, W_eIs, W_eVar]
      refine ⟨_, rfl, _, rfl, ?_⟩
      rw [W_eIs, W_eVar]
      refine ⟨_, rfl, _, rfl, _, dNe_bl, _, rfl, ?_⟩
      rw [if_neg (by decide), W_ret]
      show W (mRet _) _ _
      rw [W_mRet, W_eAndM, W_eOp2, W_eCb1, W_eVar]
      refine ⟨_, rfl, _, cLen_lst, ?_⟩
      rw [W_eCb1, W_eVar]
      refine ⟨_, rfl, _, cLen_lst, _, dEq_int, _, rfl, ?_⟩
      rw [if_pos (by simp)]
      exact key
  | tup xs =>
    cases f with
    | zero => exact hx.elim
    | succ f =>
      obtain ⟨hl, hx⟩ := hx
      have key := exact_items (c := c) (xs := xs) (w := .tup xs) (.inr rfl) hl (fun x h => hc f rfl x (hx x h)) (P := fun d ρ => outs κp_law_exact [.tup xs, .tup xs] ρ = some [.tup xs, .tup xs] ∧ d = .bl true) ⟨rfl, rfl⟩
      rw [W_mSeq, W_mIf, W_tTru, W_eIs2, W_eVar]
      refine ⟨_, rfl, _, rfl, _, rfl, ?_⟩
      rw [if_pos (by decide), W_mSeq, W_mIf, W_tOrM, W_tB1, W_eOp2, W_eIs, W_eVar]
      refine ⟨_, rfl, _, rfl, ?_⟩
      rw [W_eIs, W_eVar]
      refine ⟨_, rfl, _, rfl, _, dNe_bl, _, rfl, ?_⟩
      rw [if_neg (by decide), W_tB1, W_eOp2, W_eIs, W_eVar]
      refine ⟨_, rfl, _, rfl, ?_⟩
      rw [W_eIs, W_eVar]
      refine ⟨_, rfl, _, rfl, _, dNe_bl, _, rfl, ?_⟩
      rw [if_neg (by decide), W_ret]
      show W (mRet _) _ _
      rw [W_mRet, W_eAndM, W_eOp2, W_eCb1, W_eVar]
      refine ⟨_, rfl, _, cLen_tup, ?_⟩
      rw [W_eCb1, W_eVar]
      refine ⟨_, rfl, _, cLen_tup, _, dEq_int, _, rfl, ?_⟩
      rw [if_pos (by simp)]
      exact key
end HT

set_option maxHeartbeats 40000000
namespace HT
open PySem PySem.Spec PyProof.Rows L2 DL
theorem range_fm (n : Nat) (g : Nat → D) : (rangeD 0 n).filterMap (fun x => match x with | .int i => some (g i.toNat) | _ => none) = (List.range n).map g := by
  unfold rangeD
  rw [List.filterMap_map]
  have : (fun x => match x with | D.int i => some (g i.toNat) | _ => none) ∘ (fun i : Nat => D.int (0 + (i : Int))) = some ∘ g := by
    funext i
    simp
  rw [this, List.filterMap_eq_map]
/-- [g(v) for v in range(n)] -/
theorem lcR {elt : M D} {ρ : Rho} {P : List D → Rho → Prop} {v : Nat} (n : Nat) (g : Nat → D) (h : ∀ i, i < n → W (compT .im (setV v .im) (ret true) elt (.int (i : Int))) (wipeR ρ [v]) fun o ρ2 => o = some (g i) ∧ restore ρ ρ2 [v] = ρ)
    (q : P ((List.range n).map g) ρ) : W (compM .im [v] (setV v .im) (ret true) elt (rangeD 0 n)) ρ P := by
  refine W_compF (fun x => match x with | .int i => some (g i.toNat) | _ => none) (fun x hx => ?_) ?_
  · obtain ⟨k, hk, rfl⟩ := List.mem_map.mp hx
    have := h k (List.mem_range.mp hk)
    rw [Int.zero_add]
    exact this
  · rw [range_fm]; exact q
/-- [g(x) for x in a list of numbers] -/
theorem lcI {elt : M D} {ρ : Rho} {P : List D → Rho → Prop} {v : Nat} (ts : List Int) (g : Int → Int) (h : ∀ i ∈ ts, W (compT .im (setV v .im) (ret true) elt (.int i)) (wipeR ρ [v]) fun o ρ2 => o = some (.int (g i)) ∧ restore ρ ρ2 [v] = ρ)
    (q : P ((ts.map g).map D.int) ρ) : W (compM .im [v] (setV v .im) (ret true) elt (ts.map D.int)) ρ P := by
  refine W_compF (fun x => match x with | .int i => some (.int (g i)) | _ => none) (fun x hx => ?_) ?_
  · obtain ⟨k, hk, rfl⟩ := List.mem_map.mp hx
    exact h k hk
  · rw [List.filterMap_map]
    have : (fun x => match x with | D.int i => some (D.int (g i)) | _ => none) ∘ D.int = some ∘ fun i => D.int (g i) := by funext i; rfl
    rw [this, List.filterMap_eq_map]
    rw [List.map_map] at q
    exact q
theorem head_filter (n : Nat) (p : Nat → Bool) : atI (((List.range n).filter p).map (fun k : Nat => D.int (k : Int)) ++ [D.non]) 0 = some (natD ((List.range n).find? p)) := by
  have e : (List.range n).find? p = ((List.range n).filter p).head? := by rw [List.head?_filter]
  rw [e]
  cases (List.range n).filter p with
  | nil => exact at0
  | cons a l => exact at0
theorem limF_nonneg {lim : Nat → Int} {n : Nat} {os : Ord} (ok : OrdOk n os) {v : Nat} (h : 0 ≤ lim v) (t : Int) : 0 ≤ limF lim os v t := by
  have : ∀ (l : Ord) (z : Int), (∀ o ∈ l, 0 ≤ o.2.2.2) → 0 ≤ z → 0 ≤ l.foldl (stepM v t) z := by
    intro l
    induction l with
    | nil => intro z _ h; exact h
    | cons o l ih =>
      intro z hl hz
      rw [List.foldl_cons]
      refine ih _ (fun o ho => hl o (List.mem_cons_of_mem _ ho)) ?_
      unfold stepM
      split
      · exact hl o List.mem_cons_self
      · exact hz
  exact this os _ (fun o ho => (ok.ok o ho).2.2.2.2.1) h
theorem sum_le (m : Nat) (f : Nat → Int) (q : Int) (h : ∀ k, k < m → f k ≤ q) : ((List.range m).map f).sum ≤ m * q := by
  induction m with
  | zero => simp
  | succ m ih =>
    have := ih fun k hk => h k (by omega)
    have h2 := h m (by omega)
    rw [List.range_succ, List.map_append, List.sum_append]
    simp only [List.map_cons, List.map_nil, List.sum_cons, List.sum_nil]
    have e : ((m + 1 : Nat) : Int) * q = m * q + q := by
      rw [Int.natCast_add, Int.add_mul]; omega
    omega
/-- the least draws -/
def mnF (par : Nat → Nat) (lim : Nat → Int) (os : Ord) (t : Int) (v : Nat) : Int := (leastI ((way par v).map fun u => limF lim os u t)).getD 0
def leF (par : Nat → Nat) (lim : Nat → Int) (os : Ord) (t : Int) (m : Nat) (v : Nat) : Int := if mnF par lim os t v / (m : Int) > 0 then mnF par lim os t v / (m : Int) else 0
theorem way_ne {par : Nat → Nat} {n : Nat} (hp : ∀ k, 0 < k → k < n → par k < k) {v : Nat} (hv : v < n) : way par v ≠ [] := fun h => by
  have := way_top hp v hv
  rw [h] at this
  simp at this
theorem mn_spec {par : Nat → Nat} {n : Nat} (hp : ∀ k, 0 < k → k < n → par k < k) (lim : Nat → Int) (os : Ord) (t : Int) {v : Nat} (hv : v < n) :
    leastI ((way par v).map fun u => limF lim os u t) = some (mnF par lim os t v) ∧ ∀ u ∈ way par v, mnF par lim os t v ≤ limF lim os u t := by
  obtain ⟨z, h1, h2, h3⟩ := leastI_ex (ns := (way par v).map fun u => limF lim os u t) (by simp [way_ne hp hv])
  have e : mnF par lim os t v = z := by unfold mnF; rw [h1]; rfl
  rw [e]
  exact ⟨h1, fun u hu => h3 _ (List.mem_map.mpr ⟨u, hu, rfl⟩)⟩
theorem least_none {n : Nat} {par : Nat → Nat} {lim : Nat → Int} {m : Nat} {pl : Nat → Nat} {pw : Nat → Int} {os : Ord} (ok : NodesOk n par lim) (okp : PlugsOk n m pl pw) (oko : OrdOk n os) (t : Int) :
    (List.range n).find? (overF n par lim m pl os t fun k => if 999 < leF par lim os t m (pl k) then 999 else leF par lim os t m (pl k)) = none := by
  refine find_none fun v hv => decide_eq_false ?_
  have hl := limF_nonneg oko (ok.lim0 v hv) t
  have hm : (0 : Int) < (m : Int) := by have := okp.lo; omega
  have hq : 0 ≤ limF lim os v t / (m : Int) := Int.ediv_nonneg hl (by omega)
  have hs := sum_le m (fun k => if v ∈ way par (pl k) then (if 999 < leF par lim os t m (pl k) then 999 else leF par lim os t m (pl k)) else 0) (limF lim os v t / (m : Int)) (fun k hk => by
    by_cases h : v ∈ way par (pl k)
    · rw [if_pos h]
      have h1 := (mn_spec ok.par lim os t (okp.pl k hk)).2 v h
      have h2 : mnF par lim os t (pl k) / (m : Int) ≤ limF lim os v t / (m : Int) := Int.ediv_le_ediv hm h1
      have h3 : leF par lim os t m (pl k) ≤ limF lim os v t / (m : Int) := by
        unfold leF
        split <;> omega
      split <;> omega
    · rw [if_neg h]; exact hq)
  have h4 : (m : Int) * (limF lim os v t / (m : Int)) ≤ limF lim os v t := Int.mul_ediv_self_le (by omega)
  exact Int.not_lt.mpr (Int.le_trans hs h4)
theorem gd_ints {f : Nat} {n : Nat} (h : n ≤ 1000) (g : Nat → Int) : gd (f + 1) (.lst ((List.range n).map fun k => D.int (g k))) := by
  refine ⟨by simpa using h, fun x hx => ?_⟩
  obtain ⟨k, _, rfl⟩ := List.mem_map.mp hx
  cases f <;> trivial
theorem str_nm_ok : ∀ k : Nat, k < 24 → PyData.strOk (nm k) = true := by decide +kernel
theorem str_pn_ok : ∀ k : Nat, k < 16 → PyData.strOk (pn k) = true := by decide +kernel
theorem gd_parts {n : Nat} {par : Nat → Nat} {lim : Nat → Int} {m : Nat} {pl : Nat → Nat} {pw : Nat → Int} {os : Ord} (ok : NodesOk n par lim) (okp : PlugsOk n m pl pw) (oko : OrdOk n os) :
    gd 3 (.tup [.tup (nodesL n par lim), .tup (plugsL m pl pw), .tup (os.map orderD)]) := by
  have h1 := ok.hi
  have h2 := okp.hi
  have h3 := oko.len
  refine ⟨by simp, fun x hx => ?_⟩
  simp only [List.mem_cons, List.not_mem_nil, or_false] at hx
  rcases hx with rfl | rfl | rfl
  · refine ⟨by rw [nodesL_len]; omega, fun x hx => ?_⟩
    obtain ⟨k, hk, rfl⟩ := List.mem_map.mp hx
    have hk := List.mem_range.mp hk
    refine ⟨by simp, fun x hx => ?_⟩
    simp only [List.mem_cons, List.not_mem_nil, or_false] at hx
    rcases hx with rfl | rfl | rfl
    · exact str_nm_ok k (by omega)
    · trivial
    · trivial
  · refine ⟨by rw [plugsL_len]; omega, fun x hx => ?_⟩
    obtain ⟨k, hk, rfl⟩ := List.mem_map.mp hx
    have hk := List.mem_range.mp hk
    refine ⟨by simp, fun x hx => ?_⟩
    simp only [List.mem_cons, List.not_mem_nil, or_false] at hx
    rcases hx with rfl | rfl | rfl
    · exact str_pn_ok k (by omega)
    · trivial
    · trivial
  · refine ⟨by rw [List.length_map]; omega, fun x hx => ?_⟩
    obtain ⟨o, _, rfl⟩ := List.mem_map.mp hx
    refine ⟨by simp, fun x hx => ?_⟩
    simp only [List.mem_cons, List.not_mem_nil, or_false] at hx
    rcases hx with rfl | rfl | rfl | rfl <;> trivial
end HT

set_option maxHeartbeats 40000000
namespace HT
open PySem PySem.Spec PyProof.Rows L2 DL
structure Alls (cN cO cD cI cL clo cE cll cli cex cw cab cp : DF) : Prop where
  N : Sp_nodes cN
  O : Sp_orders cO
  D : Sp_draw cD
  I : Sp_init cI
  L : Sp_lload 24 cL
  lo : Sp_loads clo
  E : Sp_exact 3 cE
  ll : Sp_llimit cll
  li : Sp_limit cli
  ex : Sp_excess cex
  w : Sp_way 24 cw
  ab : Sp_above cab
  p : Sp_parts cp
theorem ints_app (a b : List Int) : dCat .im (.lst (a.map D.int)) (.lst (b.map D.int)) = (if a.length + b.length ≤ 100000 then some (.lst ((a ++ b).map D.int)) else none) := by
  by_cases h : a.length + b.length ≤ 100000
  · rw [if_pos h, dCat_im (by simpa using h), List.map_append]
  · rw [if_neg h]
    exact if_neg (by simpa using h)
theorem exact1 {cE : DF} (h : Sp_exact 3 cE) {x : D} (g : gd 3 x) : cE [x, x] = some (.bl true, [x, x]) := h x g
theorem gd_up : ∀ {f : Nat} {x : D}, gd f x → gd (f + 1) x
  | 0, .int _, _ => trivial
  | 0, .non, _ => trivial
  | 0, .str _, h => h
  | _ + 1, .int _, _ => trivial
  | _ + 1, .non, _ => trivial
  | _ + 1, .str _, h => h
  | f + 1, .lst xs, h => ⟨h.1, fun x hx => gd_up (h.2 x hx)⟩
  | f + 1, .tup xs, h => ⟨h.1, fun x hx => gd_up (h.2 x hx)⟩
  | 0, .lst _, h => h.elim
  | 0, .tup _, h => h.elim
  | 0, .bl _, h => h.elim
  | 0, .obj _ _, h => h.elim
  | 0, .scr _, h => h.elim
  | _ + 1, .bl _, h => h.elim
  | _ + 1, .obj _ _, h => h.elim
  | _ + 1, .scr _, h => h.elim
section
variable {cN cO cD cI cL clo cE cll cli cex cw cab cp : DF} {n : Nat} {par : Nat → Nat} {lim : Nat → Int} {m : Nat} {pl : Nat → Nat} {pw : Nat → Int} {os : Ord} {dr : Nat → Int} {ns : List Int}
/-- a tick -/
theorem tick_ok (A : Alls cN cO cD cI cL clo cE cll cli cex cw cab cp) (ok : NodesOk n par lim) (okp : PlugsOk n m pl pw) (oko : OrdOk n os) {st k0 dr0 ti told nd0 l0 o0 le0 w0 on : Option D} {t : Int} {P : Fl → Rho → Prop}
    (q : ∀ (a b c : Option D), P .nx [some (.scr ns), st, some (.lst (nodesL n par lim)), some (.lst (os.map orderD)), some (.lst (plugsL m pl pw)), k0, dr0, some (siteD n par lim m pl pw os), ti, some (.lst (loadsL n par m pl dr)), some (.lst (drawsL m dr)), told, some (.int t), nd0, a, b, c, w0, on]) :
    W ((mSeq (mAsg (eLc .im [13] (iR1 (aCons (eCb1 cLen (eVar 2)) aNil)) (setV 13 .im) (ret true) (eCall κp_law_limit cll (aCons (eVar 2) (aCons (eVar 3) (aCons (eVar 13) (aCons (eVar 12) aNil)))))) (setV 14 .im))
  (mSeq (mIf (tNotM (tTru (eCall κp_law_exact cE (aCons (eVar 14) (aCons (eLc .im [13] (iR1 (aCons (eCb1 cLen (eVar 2)) aNil)) (setV 13 .im) (ret true) (eMeth "Site" "limit" κp_Site_limit cli (eVar 7) (aCons (eVar 13) (aCons (eVar 12) aNil)))) aNil))))) (mRet (eC (.bl false))) (ret .nx))
  (mSeq (mAsg (eOp2 (dCat .im) (eLc .im [13] (iR1 (aCons (eCb1 cLen (eVar 2)) aNil)) (setV 13 .im) (tB1 (eOp2 dGt (eOp2 dIx (eVar 9) (eVar 13)) (eOp2 dIx (eVar 14) (eVar 13)))) (eVar 13)) (eLst .im (aCons (eC .non) aNil))) (setV 15 .im))
  (mSeq (mIf (tNotM (tTru (eCall κp_law_exact cE (aCons (eOp2 dIx (eVar 15) (eC (.int 0))) (aCons (eMeth "Site" "excess" κp_Site_excess cex (eVar 7) (aCons (eVar 12) (aCons (eVar 10) aNil))) aNil))))) (mRet (eC (.bl false))) (ret .nx))
  (mSeq (mAsgN 16 (eLc .im [5] (iR1 (aCons (eCb1 cLen (eVar 4)) aNil)) (setV 5 .im) (ret true) (eCb cMax2 (aCons (eC (.int 0)) (aCons (eOp2 dDiv (eCb1 cMin (eLc .im [13] (iSeq (eCall κp_law_way cw (aCons (eVar 2) (aCons (eOp2 dIx (eOp2 dIxO (eVar 4) (eVar 5)) (eC (.int 1))) aNil)))) (setV 13 .im) (ret true) (eOp2 dIx (eVar 14) (eVar 13)))) (eCb1 cLen (eVar 4))) aNil)))))
  (mIf (tNotM (tTru (eCall κp_law_exact cE (aCons (eC .non) (aCons (eMeth "Site" "excess" κp_Site_excess cex (eVar 7) (aCons (eVar 12) (aCons (eLc .im [18] (iSeq (eVar 16)) (setV 18 .im) (ret true) (eCb cMin2 (aCons (eVar 18) (aCons (eC (.int 999)) aNil)))) aNil))) aNil))))) (mRet (eC (.bl false))) (ret .nx))))))))
      [some (.scr ns), st, some (.lst (nodesL n par lim)), some (.lst (os.map orderD)), some (.lst (plugsL m pl pw)), k0, dr0, some (siteD n par lim m pl pw os), ti, some (.lst (loadsL n par m pl dr)), some (.lst (drawsL m dr)), told, some (.int t), nd0, l0, o0, le0, w0, on] P := by
  have h24 := ok.hi
  have h16 := okp.hi
  have h12 := oko.len
  have hm1 := okp.lo
  have en : ((nodesL n par lim).length : Int).toNat = n := by rw [nodesL_len]; omega
  have em : ((plugsL m pl pw).length : Int).toNat = m := by rw [plugsL_len]; omega
  -- the limits
  refine W_seq (fun ρ => ρ = [some (.scr ns), st, some (.lst (nodesL n par lim)), some (.lst (os.map orderD)), some (.lst (plugsL m pl pw)), k0, dr0, some (siteD n par lim m pl pw os), ti, some (.lst (loadsL n par m pl dr)), some (.lst (drawsL m dr)), told, some (.int t), nd0, some (.lst ((List.range n).map fun v => D.int (limF lim os v t))), o0, le0, w0, on]) ?_ ?_
  · rw [W_mAsg, W_eLc, W_iR1]
    simp only [W_aCons, W_aNil, W_eCb1, W_eVar]
    refine ⟨_, rfl, _, cLen_lst, _, rfl, by rw [nodesL_len]; omega, by rw [nodesL_len]; omega, ?_⟩
    rw [en]
    refine ⟨by rw [rangeD_len]; omega, ?_⟩
    refine lcR n (fun v => D.int (limF lim os v t)) (fun i hi => ?_) ?_
    · have := A.ll n par lim os i t hi (by omega)
      simp [wipeR, restore, this, κp_law_limit]
    · rw [W_setV]
      exact ⟨rfl, trivial, rfl⟩
  rintro _ rfl
  refine W_seq (fun ρ => ρ = [some (.scr ns), st, some (.lst (nodesL n par lim)), some (.lst (os.map orderD)), some (.lst (plugsL m pl pw)), k0, dr0, some (siteD n par lim m pl pw os), ti, some (.lst (loadsL n par m pl dr)), some (.lst (drawsL m dr)), told, some (.int t), nd0, some (.lst ((List.range n).map fun v => D.int (limF lim os v t))), o0, le0, w0, on]) ?_ ?_
  · rw [W_mIf, W_tNotM, W_tTru, W_eCall]
    simp only [W_aCons, W_aNil, W_eVar]
    refine ⟨_, rfl, ?_⟩
    rw [W_eLc, W_iR1]
    simp only [W_aCons, W_aNil, W_eCb1, W_eVar]
    refine ⟨_, rfl, _, cLen_lst, _, rfl, by rw [nodesL_len]; omega, by rw [nodesL_len]; omega, ?_⟩
    rw [en]
    refine ⟨by rw [rangeD_len]; omega, ?_⟩
    refine lcR n (fun v => D.int (limF lim os v t)) (fun i hi => ?_) ?_
    · have := A.li n par lim m pl pw os i t hi
      rw [W_compT, W_setV]
      refine ⟨rfl, ?_⟩
      rw [W_ret, if_pos rfl, W_eMeth, W_eVar]
      refine ⟨_, rfl, rfl, ?_⟩
      simp only [W_aCons, W_aNil, W_eVar]
      refine ⟨_, rfl, _, rfl, rfl, ?_⟩
      rw [this, CR1_some]
      exact ⟨rfl, rfl, rfl⟩
    · refine ⟨rfl, ?_⟩
      rw [exact1 A.E (gd_ints (f := 2) (by omega) _), CR1_some]
      exact ⟨_, rfl, by simp⟩
  rintro _ rfl
  -- what is above
  have hcat : ∀ xs : List D, xs.length ≤ 99999 → dCat .im (.lst xs) (.lst [.non]) = some (.lst (xs ++ [.non])) := fun xs h => dCat_im (by simp; omega)
  refine W_seq (fun ρ => ρ = [some (.scr ns), st, some (.lst (nodesL n par lim)), some (.lst (os.map orderD)), some (.lst (plugsL m pl pw)), k0, dr0, some (siteD n par lim m pl pw os), ti, some (.lst (loadsL n par m pl dr)), some (.lst (drawsL m dr)), told, some (.int t), nd0, some (.lst ((List.range n).map fun v => D.int (limF lim os v t))), some (.lst (((List.range n).filter (overF n par lim m pl os t dr)).map (fun k : Nat => D.int (k : Int)) ++ [.non])), le0, w0, on]) ?_ ?_
  · rw [W_mAsg, W_eOp2, W_eLc, W_iR1]
    simp only [W_aCons, W_aNil, W_eCb1, W_eVar]
    refine ⟨_, rfl, _, cLen_lst, _, rfl, by rw [nodesL_len]; omega, by rw [nodesL_len]; omega, ?_⟩
    rw [en]
    refine ⟨by rw [rangeD_len]; omega, ?_⟩
    refine W_compF (fun x => match x with | .int i => if overF n par lim m pl os t dr i.toNat = true then some (.int i) else none | _ => none) (fun x hx => ?_) ?_
    · obtain ⟨k, hk, rfl⟩ := List.mem_map.mp hx
      have hk := List.mem_range.mp hk
      have h1 : atI (loadsL n par m pl dr) (k : Int) = some (.int (loadF par m pl dr k)) := DL.atI_nat (by simp [loadsL, hk])
      have h2 : atI ((List.range n).map fun v => D.int (limF lim os v t)) (k : Int) = some (.int (limF lim os k t)) := DL.atI_nat (by simp [hk])
      by_cases h : limF lim os k t < loadF par m pl dr k
      · simp [wipeR, restore, h1, h2, h, overF]
      · simp [wipeR, restore, h1, h2, h, overF]
    · have e := fm_range 0 n (fun x => match x with | .int i => if overF n par lim m pl os t dr i.toNat = true then some (.int i) else none | _ => none) (overF n par lim m pl os t dr) (fun k => (k : Int)) (fun k hk => by simp)
      rw [e, List.map_map]
      simp only [W_eLst, W_aCons, W_aNil, W_eC]
      refine ⟨rfl, _, hcat _ ?_, ?_⟩
      · rw [List.length_map]
        have := List.length_filter_le (overF n par lim m pl os t dr) (List.range n)
        rw [List.length_range] at this
        omega
      · rw [W_setV]
        exact ⟨rfl, trivial, rfl⟩
  rintro _ rfl
  refine W_seq (fun ρ => ρ = [some (.scr ns), st, some (.lst (nodesL n par lim)), some (.lst (os.map orderD)), some (.lst (plugsL m pl pw)), k0, dr0, some (siteD n par lim m pl pw os), ti, some (.lst (loadsL n par m pl dr)), some (.lst (drawsL m dr)), told, some (.int t), nd0, some (.lst ((List.range n).map fun v => D.int (limF lim os v t))), some (.lst (((List.range n).filter (overF n par lim m pl os t dr)).map (fun k : Nat => D.int (k : Int)) ++ [.non])), le0, w0, on]) ?_ ?_
  · rw [W_mIf, W_tNotM, W_tTru, W_eCall]
    simp only [W_aCons, W_aNil, W_eVar, W_eOp2, W_eC]
    refine ⟨_, rfl, _, head_filter n _, ?_⟩
    rw [W_eMeth, W_eVar]
    refine ⟨_, rfl, rfl, ?_⟩
    simp only [W_aCons, W_aNil, W_eVar]
    refine ⟨_, rfl, _, rfl, rfl, ?_⟩
    rw [A.ex n par lim m pl pw os t dr ok okp, CR1_some]
    refine ⟨rfl, ?_⟩
    have hg : gd 3 (natD ((List.range n).find? (overF n par lim m pl os t dr))) := by
      cases (List.range n).find? (overF n par lim m pl os t dr) <;> trivial
    rw [exact1 A.E hg, CR1_some]
    exact ⟨_, rfl, by simp⟩
  rintro _ rfl
  -- the least
  have hlen := List.length_range (n := m)
  refine W_seq (fun ρ => ρ = [some (.scr ns), st, some (.lst (nodesL n par lim)), some (.lst (os.map orderD)), some (.lst (plugsL m pl pw)), k0, dr0, some (siteD n par lim m pl pw os), ti, some (.lst (loadsL n par m pl dr)), some (.lst (drawsL m dr)), told, some (.int t), nd0, some (.lst ((List.range n).map fun v => D.int (limF lim os v t))), some (.lst (((List.range n).filter (overF n par lim m pl os t dr)).map (fun k : Nat => D.int (k : Int)) ++ [.non])), some (.lst (((List.range m).map fun k => leF par lim os t m (pl k)).map D.int)), w0, on]) ?_ ?_
  · rw [W_mAsgN, W_eLc, W_iR1]
    simp only [W_aCons, W_aNil, W_eCb1, W_eVar]
    refine ⟨_, rfl, _, cLen_lst, _, rfl, by rw [plugsL_len]; omega, by rw [plugsL_len]; omega, ?_⟩
    rw [em]
    refine ⟨by rw [rangeD_len]; omega, ?_⟩
    refine lcR m (fun k => D.int (leF par lim os t m (pl k))) (fun i hi => ?_) ?_
    · have hpl := okp.pl i hi
      have hw := A.w n par lim (pl i) ok hpl (by omega)
      have hat := plugsL_at (pl := pl) (pw := pw) hi
      rw [W_compT, W_setV]
      refine ⟨rfl, ?_⟩
      rw [W_ret, if_pos rfl, W_eCb]
      simp only [W_aCons, W_aNil, W_eC, W_eOp2]
      rw [W_eCb1, W_eLc, W_iSeq, W_eCall]
      simp only [W_aCons, W_aNil, W_eVar, W_eOp2, W_eC]
      refine ⟨_, rfl, _, rfl, _, rfl, _, hat, _, at1, rfl, ?_⟩
      rw [hw, CR1_some]
      refine ⟨_, rfl, by rw [intsN, List.length_map]; have := way_len ok.par (pl i) hpl; omega, ?_⟩
      have hway : intsN (way par (pl i)) = ((way par (pl i)).map fun u : Nat => (u : Int)).map D.int := by rw [List.map_map]; rfl
      rw [hway]
      refine lcI _ (fun u => limF lim os u.toNat t) (fun u hu => ?_) ?_
      · obtain ⟨k, hk, rfl⟩ := List.mem_map.mp hu
        have hkn : k < n := by have := way_le ok.par (pl i) hpl k hk; omega
        have h2 : atI ((List.range n).map fun v => D.int (limF lim os v t)) (k : Int) = some (.int (limF lim os k t)) := DL.atI_nat (by simp [hkn])
        simp [wipeR, restore, h2]
      · have e : ((way par (pl i)).map fun u : Nat => (u : Int)).map (fun u => limF lim os u.toNat t) = (way par (pl i)).map fun u => limF lim os u t := by
          rw [List.map_map]
          refine List.map_congr_left fun u _ => ?_
          simp
        rw [e]
        refine ⟨_, cMin_ints (mn_spec ok.par lim os t hpl).1, ?_⟩
        rw [W_eCb1, W_eVar]
        refine ⟨_, rfl, _, cLen_lst, _, dDiv_int.mpr ⟨by rw [plugsL_len]; omega, rfl⟩, _, cMax2_int, rfl, ?_, rfl⟩
        rw [plugsL_len]
        rfl
    · refine ⟨trivial, ?_⟩
      rw [List.map_map]
      rfl
  rintro _ rfl
  rw [W_mIf, W_tNotM, W_tTru, W_eCall]
  simp only [W_aCons, W_aNil, W_eC]
  rw [W_eMeth, W_eVar]
  refine ⟨_, rfl, rfl, ?_⟩
  simp only [W_aCons, W_aNil, W_eVar]
  refine ⟨_, rfl, ?_⟩
  rw [W_eLc, W_iSeq, W_eVar]
  refine ⟨_, rfl, _, rfl, by simp; omega, ?_⟩
  refine lcI _ (fun z => if 999 < z then 999 else z) (fun u hu => ?_) ?_
  · simp [wipeR, restore]
  · refine ⟨rfl, ?_⟩
    have e : (((List.range m).map fun k => leF par lim os t m (pl k)).map fun z => if (999 : Int) < z then 999 else z).map D.int = drawsL m fun k => if 999 < leF par lim os t m (pl k) then 999 else leF par lim os t m (pl k) := by
      rw [List.map_map, List.map_map]
      rfl
    rw [e, A.ex n par lim m pl pw os t _ ok okp, CR1_some, least_none ok okp oko t]
    refine ⟨rfl, ?_⟩
    show CR1 (cE [.non, .non]) _
    rw [exact1 A.E (x := .non) (show gd 3 .non from trivial), CR1_some]
    refine ⟨_, rfl, ?_⟩
    rw [if_neg (by simp), W_ret]
    exact q _ _ _
end
end HT

set_option maxHeartbeats 40000000
namespace HT
open PySem PySem.Spec PyProof.Rows L2 DL
theorem plugsL_snoc {m : Nat} {pl pl' : Nat → Nat} {pw pw' : Nat → Int} (h : ∀ k, k < m → pl' k = pl k ∧ pw' k = pw k) : plugsL (m + 1) pl' pw' = plugsL m pl pw ++ [plugD pl' pw' m] := by
  unfold plugsL
  rw [List.range_succ, List.map_append]
  congr 1
  refine List.map_congr_left fun k hk => ?_
  obtain ⟨e1, e2⟩ := h k (List.mem_range.mp hk)
  unfold plugD
  rw [e1, e2]
theorem drawsL_snoc {m : Nat} {dr dr' : Nat → Int} (h : ∀ k, k < m → dr' k = dr k) : drawsL (m + 1) dr' = drawsL m dr ++ [.int (dr' m)] := by
  unfold drawsL
  rw [List.range_succ, List.map_append]
  congr 1
  refine List.map_congr_left fun k hk => ?_
  rw [h k (List.mem_range.mp hk)]
section
variable {cN cO cD cI cL clo cE cll cli cex cw cab cp : DF}
theorem ev_law (A : Alls cN cO cD cI cL clo cE cll cli cex cw cab cp) (ns : List Int) : ∃ o, runD κp_law κl_law.length .sc (mb_law cN cO cD cI cL clo cE cll cli cex cw cab cp) [.scr ns] = some (.bl true, o) := by
  have : ∃ r o, runD κp_law κl_law.length .sc (mb_law cN cO cD cI cL clo cE cll cli cex cw cab cp) [.scr ns] = some (r, o) ∧ r = .bl true := by
    refine W_run ?_
    unfold mb_law
    refine W_seq (fun ρ => ρ = [some (.scr ns), some (.lst [.int 0, .int 0]), none, none, none, none, none, none, none, none, none, none, none, none, none, none, none, none, none]) (by simp [κl_law]) ?_
    rintro _ rfl
    -- the nodes
    obtain ⟨a, b, n, par, lim, eN, ok⟩ := A.N ns 0 0
    refine W_seq (fun ρ => ρ = [some (.scr ns), some (.lst [.int a, .int b]), some (.lst (nodesL n par lim)), none, none, none, none, none, none, none, none, none, none, none, none, none, none, none, none]) (by simp [κr_law_nodes, eN]) ?_
    rintro _ rfl
    have h24 := ok.hi
    have hn1 := ok.lo
    -- the orders
    obtain ⟨a1, b1, os, eO, oko⟩ := A.O ns a b n hn1 h24
    have h12 := oko.len
    refine W_seq (fun ρ => ρ = [some (.scr ns), some (.lst [.int a1, .int b1]), some (.lst (nodesL n par lim)), some (.lst (os.map orderD)), none, none, none, none, none, none, none, none, none, none, none, none, none, none, none]) (by simp [κr_law_orders, nodesL_len, eO]) ?_
    rintro _ rfl
    refine W_seq (fun ρ => ρ = [some (.scr ns), some (.lst [.int a1, .int b1]), some (.lst (nodesL n par lim)), some (.lst (os.map orderD)), some (.lst []), none, none, none, none, none, none, none, none, none, none, none, none, none, none]) (by simp) ?_
    rintro _ rfl
    -- the plugs
    refine W_seq (fun ρ => ∃ (a b : Int) (m : Nat) (pl : Nat → Nat) (pw : Nat → Int) (k : Option D), PlugsOk n m pl pw ∧ ρ = [some (.scr ns), some (.lst [.int a, .int b]), some (.lst (nodesL n par lim)), some (.lst (os.map orderD)), some (.lst (plugsL m pl pw)), k, none, none, none, none, none, none, none, none, none, none, none, none, none]) ?_ ?_
    · obtain ⟨d1, a2, b2, e1, h0, h1⟩ := A.D ns a1 b1 3 (by decide) (by decide)
      have hq : ∃ m : Nat, (1 ≤ m ∧ m ≤ 16) ∧ atI [D.int 1, D.int 4, D.int 16] d1 = some (.int (m : Int)) := by
        obtain rfl | rfl | rfl : d1 = 0 ∨ d1 = 1 ∨ d1 = 2 := by omega
        · exact ⟨1, by omega, at0⟩
        · exact ⟨4, by omega, at1⟩
        · exact ⟨16, by omega, at2⟩
      obtain ⟨m, hm, hat⟩ := hq
      refine W_mForI (R := [some (.scr ns), some (.lst [.int a2, .int b2]), some (.lst (nodesL n par lim)), some (.lst (os.map orderD)), some (.lst []), none, none, none, none, none, none, none, none, none, none, none, none, none, none]) (xs := rangeD 0 m) (by simp [κr_law_draw, e1, hat]; omega) ?_
      obtain ⟨I, hI⟩ : ∃ I : Nat → Rho → Prop, ∀ i ρ, I i ρ ↔ ∃ (a b : Int) (pl : Nat → Nat) (pw : Nat → Int) (k : Option D), ((∀ k, k < i → pl k < n) ∧ (∀ k, k < i → 1 ≤ pw k) ∧ ∀ k, k < i → pw k ≤ 99) ∧
          ρ = [some (.scr ns), some (.lst [.int a, .int b]), some (.lst (nodesL n par lim)), some (.lst (os.map orderD)), some (.lst (plugsL i pl pw)), k, none, none, none, none, none, none, none, none, none, none, none, none, none] := ⟨_, fun _ _ => Iff.rfl⟩
      refine W_for I ((hI _ _).mpr ⟨a2, b2, fun _ => 0, fun _ => 0, none, ⟨fun _ h => by omega, fun _ h => by omega, fun _ h => by omega⟩, rfl⟩) ?_ ?_
      · intro i x ρ hx hh
        obtain ⟨a, b, pl, pw, k, ⟨g1, g2, g3⟩, rfl⟩ := (hI _ _).mp hh
        have hi : i < m := by
          have := (List.getElem?_eq_some_iff.mp hx).1
          rwa [rangeD_len] at this
        rw [rangeD_get 0 m i hi, Int.zero_add] at hx
        cases hx
        obtain ⟨d1, a3, b3, e1, h0, h1⟩ := A.D ns a b n (by omega) (by omega)
        obtain ⟨d2, a4, b4, e2, h2, h3⟩ := A.D ns a3 b3 99 (by decide) (by decide)
        obtain ⟨p1, rfl⟩ := Int.eq_ofNat_of_zero_le h0
        obtain ⟨t, s1, s2⟩ := str_pn (k := i) (by omega)
        have hl : (plugsL i pl pw).length < 100000 := by rw [plugsL_len]; omega
        have snoc : plugsL (i + 1) (fun k => if k = i then p1 else pl k) (fun k => if k = i then 1 + d2 else pw k) = plugsL i pl pw ++ [.tup [.str (pn i), .int (p1 : Int), .int (1 + d2)]] := by
          rw [plugsL_snoc (pl := pl) (pw := pw) fun k hk => ⟨if_neg (by omega), if_neg (by omega)⟩]
          simp [plugD]
        simp [κr_law_draw, nodesL_len, e1, e2, s1, s2, hl]
        refine (hI _ _).mpr ⟨a4, b4, fun k => if k = i then p1 else pl k, fun k => if k = i then 1 + d2 else pw k, some (.int (i : Int)), ⟨fun k hk => ?_, fun k hk => ?_, fun k hk => ?_⟩, by rw [snoc]⟩
        · show (if k = i then p1 else pl k) < n
          by_cases h : k = i
          · rw [if_pos h]; omega
          · rw [if_neg h]; exact g1 k (by omega)
        · show 1 ≤ if k = i then 1 + d2 else pw k
          by_cases h : k = i
          · rw [if_pos h]; omega
          · rw [if_neg h]; exact g2 k (by omega)
        · show (if k = i then 1 + d2 else pw k) ≤ 99
          by_cases h : k = i
          · rw [if_pos h]; omega
          · rw [if_neg h]; exact g3 k (by omega)
      · intro ρ hh
        obtain ⟨a, b, pl, pw, k, ⟨g1, g2, g3⟩, rfl⟩ := (hI _ _).mp hh
        rw [rangeD_len] at g1 g2 g3 ⊢
        exact And.intro rfl ⟨a, b, m, pl, pw, k, ⟨hm.1, hm.2, g1, g2, g3⟩, rfl⟩
    rintro _ ⟨a2, b2, m, pl, pw, k0, okp, rfl⟩
    have h16 := okp.hi
    have hm1 := okp.lo
    have en : ((nodesL n par lim).length : Int).toNat = n := by rw [nodesL_len]; omega
    have em : ((plugsL m pl pw).length : Int).toNat = m := by rw [plugsL_len]; omega
    -- the draws
    refine W_seq (fun ρ => ∃ (a b : Int) (dr : Nat → Int), ρ = [some (.scr ns), some (.lst [.int a, .int b]), some (.lst (nodesL n par lim)), some (.lst (os.map orderD)), some (.lst (plugsL m pl pw)), k0, some (.lst (drawsL m dr)), none, none, none, none, none, none, none, none, none, none, none, none]) ?_ ?_
    · rw [W_mAsg, W_eLc, W_iR1]
      simp only [W_aCons, W_aNil, W_eCb1, W_eVar]
      refine ⟨_, rfl, _, cLen_lst, _, rfl, by rw [plugsL_len]; omega, by rw [plugsL_len]; omega, ?_⟩
      rw [em]
      refine ⟨by rw [rangeD_len]; omega, ?_⟩
      obtain ⟨I, hI⟩ : ∃ I : Nat → List D → Rho → Prop, ∀ i acc ρ, I i acc ρ ↔ ∃ (a b : Int) (dr : Nat → Int), acc = drawsL i dr ∧ ρ = [some (.scr ns), some (.lst [.int a, .int b]), some (.lst (nodesL n par lim)), some (.lst (os.map orderD)), some (.lst (plugsL m pl pw)), k0, none, none, none, none, none, none, none, none, none, none, none, none, none] := ⟨_, fun _ _ _ => Iff.rfl⟩
      refine W_comp I ((hI _ _ _).mpr ⟨a2, b2, fun _ => 0, rfl, rfl⟩) ?_ ?_
      · intro i x acc ρ hx hh
        obtain ⟨a, b, dr, rfl, rfl⟩ := (hI _ _ _).mp hh
        have hi : i < m := by
          have := (List.getElem?_eq_some_iff.mp hx).1
          rwa [rangeD_len] at this
        obtain ⟨d1, a3, b3, e1, h0, h1⟩ := A.D ns a b 3 (by decide) (by decide)
        have hq : ∃ f : Int, (0 < f ∧ f < 1073741824) ∧ atI [D.int 4, D.int 100, D.int 1000] d1 = some (.int f) := by
          obtain rfl | rfl | rfl : d1 = 0 ∨ d1 = 1 ∨ d1 = 2 := by omega
          · exact ⟨4, by omega, at0⟩
          · exact ⟨100, by omega, at1⟩
          · exact ⟨1000, by omega, at2⟩
        obtain ⟨f, hf, hat⟩ := hq
        obtain ⟨d2, a4, b4, e2, h2, h3⟩ := A.D ns a3 b3 f hf.1 hf.2
        simp [wipeR, restore, κr_law_draw, e1, hat, e2, optL]
        refine (hI _ _ _).mpr ⟨a4, b4, fun k => if k = i then d2 else dr k, ?_, rfl⟩
        rw [drawsL_snoc (dr := dr) fun k hk => if_neg (by omega)]
        simp
      · intro acc ρ hh
        obtain ⟨a, b, dr, rfl, rfl⟩ := (hI _ _ _).mp hh
        rw [rangeD_len, W_setV]
        exact ⟨rfl, trivial, a, b, dr, rfl⟩
    rintro _ ⟨a3, b3, dr, rfl⟩
    -- the site
    obtain ⟨rest, eI⟩ := A.I n par lim m pl pw os ok okp oko
    refine W_seq (fun ρ => ρ = [some (.scr ns), some (.lst [.int a3, .int b3]), some (.lst (nodesL n par lim)), some (.lst (os.map orderD)), some (.lst (plugsL m pl pw)), k0, some (.lst (drawsL m dr)), some (siteD n par lim m pl pw os), none, none, none, none, none, none, none, none, none, none, none]) (by simp [κr_Site_init, eI]) ?_
    rintro _ rfl
    -- the ticks
    refine W_seq (fun ρ => ∃ ts : List Int, ts.length ≤ 1000 ∧ ρ = [some (.scr ns), some (.lst [.int a3, .int b3]), some (.lst (nodesL n par lim)), some (.lst (os.map orderD)), some (.lst (plugsL m pl pw)), k0, some (.lst (drawsL m dr)), some (siteD n par lim m pl pw os), some (.lst (ts.map D.int)), none, none, none, none, none, none, none, none, none, none]) ?_ ?_
    · rw [W_mAsg, W_eOp2, W_eOp2, W_eLst]
      simp only [W_aCons, W_aNil, W_eC]
      refine ⟨rfl, ?_⟩
      rw [W_eLc, W_iSeq, W_eVar]
      refine ⟨_, rfl, _, rfl, by rw [List.length_map]; omega, ?_⟩
      refine W_compF (fun x => match x with | .tup [_, .int i, _, _] => some (.int i) | _ => none) (fun x hx => ?_) ?_
      · obtain ⟨o, _, rfl⟩ := List.mem_map.mp hx
        simp [wipeR, restore, orderD, at1]
      have f1 : (os.map orderD).filterMap (fun x => match x with | .tup [_, .int i, _, _] => some (D.int i) | _ => none) = (os.map fun o => o.2.1).map D.int := by
        rw [List.filterMap_map, List.map_map]
        exact List.filterMap_eq_map (f := fun o : Nat × Int × Int × Int => D.int o.2.1) ▸ rfl
      rw [f1]
      refine ⟨_, (show dCat .im (.lst [.int 0, .int 96]) (.lst ((os.map fun (o : Nat × Int × Int × Int) => o.2.1).map D.int)) = some (.lst (([0, 96] ++ os.map fun (o : Nat × Int × Int × Int) => o.2.1).map D.int)) from (ints_app [0, 96] _).trans (if_pos (by simp; omega))), ?_⟩
      rw [W_eLc, W_iSeq, W_eVar]
      refine ⟨_, rfl, _, rfl, by rw [List.length_map]; omega, ?_⟩
      refine W_compF (fun x => match x with | .tup [_, _, .int i, _] => some (.int i) | _ => none) (fun x hx => ?_) ?_
      · obtain ⟨o, _, rfl⟩ := List.mem_map.mp hx
        simp [wipeR, restore, orderD, at2]
      have f2 : (os.map orderD).filterMap (fun x => match x with | .tup [_, _, .int i, _] => some (D.int i) | _ => none) = (os.map fun o => o.2.2.1).map D.int := by
        rw [List.filterMap_map, List.map_map]
        exact List.filterMap_eq_map (f := fun o : Nat × Int × Int × Int => D.int o.2.2.1) ▸ rfl
      rw [f2]
      refine ⟨_, (ints_app _ _).trans (if_pos (by simp; omega)), ?_⟩
      rw [W_setV]
      exact ⟨rfl, trivial, _, by simp; omega, rfl⟩
    rintro _ ⟨ts, hts, rfl⟩
    refine W_seq (fun ρ => ∃ ts : List Int, ρ = [some (.scr ns), some (.lst [.int a3, .int b3]), some (.lst (nodesL n par lim)), some (.lst (os.map orderD)), some (.lst (plugsL m pl pw)), k0, some (.lst (drawsL m dr)), some (siteD n par lim m pl pw os), some (.lst (ts.map D.int)), none, none, none, none, none, none, none, none, none, none]) ?_ ?_
    · rw [W_mAsg, W_eOp2, W_eVar]
      refine ⟨_, rfl, ?_⟩
      rw [W_eLc, W_iSeq, W_eVar]
      refine ⟨_, rfl, _, rfl, by rw [List.length_map]; omega, ?_⟩
      refine lcI ts (fun z => if z - 1 > 0 then z - 1 else 0) (fun z hz => ?_) ?_
      · simp [wipeR, restore]
      refine ⟨_, (ints_app _ _).trans (if_pos (by simp; omega)), ?_⟩
      rw [W_setV]
      exact ⟨rfl, rfl, _, rfl⟩
    rintro _ ⟨ts, rfl⟩
    -- the loads
    refine W_seq (fun ρ => ρ = [some (.scr ns), some (.lst [.int a3, .int b3]), some (.lst (nodesL n par lim)), some (.lst (os.map orderD)), some (.lst (plugsL m pl pw)), k0, some (.lst (drawsL m dr)), some (siteD n par lim m pl pw os), some (.lst (ts.map D.int)), some (.lst (loadsL n par m pl dr)), none, none, none, none, none, none, none, none, none]) ?_ ?_
    · rw [W_mAsg, W_eLc, W_iR1]
      simp only [W_aCons, W_aNil, W_eCb1, W_eVar]
      refine ⟨_, rfl, _, cLen_lst, _, rfl, by rw [nodesL_len]; omega, by rw [nodesL_len]; omega, ?_⟩
      rw [en]
      refine ⟨by rw [rangeD_len]; omega, ?_⟩
      refine lcR n (fun v => D.int (loadF par m pl dr v)) (fun i hi => ?_) ?_
      · have := A.L n par lim m pl pw dr i ok okp hi (by omega)
        simp [wipeR, restore, this, κp_law_load]
      · rw [W_setV]
        exact ⟨rfl, trivial, rfl⟩
    rintro _ rfl
    refine W_seq (fun ρ => ρ = [some (.scr ns), some (.lst [.int a3, .int b3]), some (.lst (nodesL n par lim)), some (.lst (os.map orderD)), some (.lst (plugsL m pl pw)), k0, some (.lst (drawsL m dr)), some (siteD n par lim m pl pw os), some (.lst (ts.map D.int)), some (.lst (loadsL n par m pl dr)), some (.lst (drawsL m dr)), none, none, none, none, none, none, none, none]) (by simp) ?_
    rintro _ rfl
    have hlo := A.lo n par lim m pl pw os dr ok okp
    refine W_seq (fun ρ => ρ = [some (.scr ns), some (.lst [.int a3, .int b3]), some (.lst (nodesL n par lim)), some (.lst (os.map orderD)), some (.lst (plugsL m pl pw)), k0, some (.lst (drawsL m dr)), some (siteD n par lim m pl pw os), some (.lst (ts.map D.int)), some (.lst (loadsL n par m pl dr)), some (.lst (drawsL m dr)), some (.lst (loadsL n par m pl dr)), none, none, none, none, none, none, none]) ?_ ?_
    · rw [W_mAsgN, W_eMeth, W_eVar]
      refine ⟨_, rfl, rfl, ?_⟩
      simp only [W_aCons, W_aNil, W_eVar]
      refine ⟨_, rfl, rfl, ?_⟩
      rw [hlo, CR1_some]
      exact ⟨trivial, rfl⟩
    rintro _ rfl
    have gl : gd 3 (.lst (loadsL n par m pl dr)) := gd_ints (f := 2) (by omega) _
    have hexL := exact1 A.E gl
    have hsum : cSum (.lst (drawsL m dr)) = some (.int (loadF par m pl dr 0)) := by
      have : drawsL m dr = ((List.range m).map dr).map D.int := by rw [List.map_map]; rfl
      rw [this, cSum_ints, load_top ok.par okp.pl]
    have hat0 : atI (loadsL n par m pl dr) 0 = some (.int (loadF par m pl dr 0)) := DL.atI_nat (n := 0) (by unfold loadsL; rw [getElem_range n 0 _ (by omega)])
    have hne : dNe (.lst (drawsL m dr)) (.lst (drawsL m dr)) = some (.bl false) := by
      have : drawsL m dr = ((List.range m).map dr).map D.int := by rw [List.map_map]; rfl
      rw [this, dNe_ints]; simp
    have heq : dEq (.lst (drawsL m dr)) (.lst (drawsL m dr)) = some (.bl true) := by
      have : drawsL m dr = ((List.range m).map dr).map D.int := by rw [List.map_map]; rfl
      rw [this, dEq_ints]; simp
    refine W_seq (fun ρ => ρ = [some (.scr ns), some (.lst [.int a3, .int b3]), some (.lst (nodesL n par lim)), some (.lst (os.map orderD)), some (.lst (plugsL m pl pw)), k0, some (.lst (drawsL m dr)), some (siteD n par lim m pl pw os), some (.lst (ts.map D.int)), some (.lst (loadsL n par m pl dr)), some (.lst (drawsL m dr)), some (.lst (loadsL n par m pl dr)), none, none, none, none, none, none, none]) ?_ ?_
    · simp [κp_law_exact, hexL, hat0, hsum, hne]
    rintro _ rfl
    have hll : (loadsL n par m pl dr).length < 100000 := by simp [loadsL]; omega
    refine W_seq (fun ρ => ρ = [some (.scr ns), some (.lst [.int a3, .int b3]), some (.lst (nodesL n par lim)), some (.lst (os.map orderD)), some (.lst (plugsL m pl pw)), k0, some (.lst (drawsL m dr)), some (siteD n par lim m pl pw os), some (.lst (ts.map D.int)), some (.lst (loadsL n par m pl dr)), some (.lst (drawsL m dr)), some (.lst (loadsL n par m pl dr ++ [.int 7])), none, none, none, none, none, none, none]) (by simp [hll]) ?_
    rintro _ rfl
    -- tick by tick
    refine W_seq (fun ρ => ∃ x1 x2 x3 x4 x5 x6 x7 : Option D, ρ = [some (.scr ns), some (.lst [.int a3, .int b3]), some (.lst (nodesL n par lim)), some (.lst (os.map orderD)), some (.lst (plugsL m pl pw)), k0, some (.lst (drawsL m dr)), some (siteD n par lim m pl pw os), some (.lst (ts.map D.int)), some (.lst (loadsL n par m pl dr)), some (.lst (drawsL m dr)), some (.lst (loadsL n par m pl dr ++ [.int 7])), x1, x2, x3, x4, x5, x6, x7]) ?_ ?_
    · refine W_mForI (R := [some (.scr ns), some (.lst [.int a3, .int b3]), some (.lst (nodesL n par lim)), some (.lst (os.map orderD)), some (.lst (plugsL m pl pw)), k0, some (.lst (drawsL m dr)), some (siteD n par lim m pl pw os), some (.lst (ts.map D.int)), some (.lst (loadsL n par m pl dr)), some (.lst (drawsL m dr)), some (.lst (loadsL n par m pl dr ++ [.int 7])), none, none, none, none, none, none, none]) (xs := ts.map D.int) (by simp) ?_
      refine W_for (fun _ ρ => ∃ x1 x2 x3 x4 x5 x6 x7 : Option D, ρ = [some (.scr ns), some (.lst [.int a3, .int b3]), some (.lst (nodesL n par lim)), some (.lst (os.map orderD)), some (.lst (plugsL m pl pw)), k0, some (.lst (drawsL m dr)), some (siteD n par lim m pl pw os), some (.lst (ts.map D.int)), some (.lst (loadsL n par m pl dr)), some (.lst (drawsL m dr)), some (.lst (loadsL n par m pl dr ++ [.int 7])), x1, x2, x3, x4, x5, x6, x7]) ⟨_, _, _, _, _, _, _, rfl⟩ ?_ ?_
      · rintro i x _ hx ⟨x1, x2, x3, x4, x5, x6, x7, rfl⟩
        obtain ⟨t, ht⟩ : ∃ t : Int, x = .int t := by
          rw [List.getElem?_map] at hx
          obtain ⟨t, _, e⟩ := Option.map_eq_some_iff.mp hx
          exact ⟨t, e.symm⟩
        subst ht
        rw [W_setV]
        refine ⟨rfl, ?_⟩
        exact tick_ok A ok okp oko fun a b c => ⟨_, _, _, _, _, _, _, rfl⟩
      · intro ρ hh
        exact And.intro rfl hh
    rintro _ ⟨x1, x2, x3, x4, x5, x6, x7, rfl⟩
    -- node by node
    refine W_seq (fun ρ => ∃ x1 x2 x3 x4 x5 x6 x7 : Option D, ρ = [some (.scr ns), some (.lst [.int a3, .int b3]), some (.lst (nodesL n par lim)), some (.lst (os.map orderD)), some (.lst (plugsL m pl pw)), k0, some (.lst (drawsL m dr)), some (siteD n par lim m pl pw os), some (.lst (ts.map D.int)), some (.lst (loadsL n par m pl dr)), some (.lst (drawsL m dr)), some (.lst (loadsL n par m pl dr ++ [.int 7])), x1, x2, x3, x4, x5, x6, x7]) ?_ ?_
    · refine W_mForI (R := [some (.scr ns), some (.lst [.int a3, .int b3]), some (.lst (nodesL n par lim)), some (.lst (os.map orderD)), some (.lst (plugsL m pl pw)), k0, some (.lst (drawsL m dr)), some (siteD n par lim m pl pw os), some (.lst (ts.map D.int)), some (.lst (loadsL n par m pl dr)), some (.lst (drawsL m dr)), some (.lst (loadsL n par m pl dr ++ [.int 7])), x1, x2, x3, x4, x5, x6, x7]) (xs := rangeD 0 n) (by simp [nodesL_len]; omega) ?_
      refine W_for (fun _ ρ => ∃ x1 x2 x3 x4 x5 x6 x7 : Option D, ρ = [some (.scr ns), some (.lst [.int a3, .int b3]), some (.lst (nodesL n par lim)), some (.lst (os.map orderD)), some (.lst (plugsL m pl pw)), k0, some (.lst (drawsL m dr)), some (siteD n par lim m pl pw os), some (.lst (ts.map D.int)), some (.lst (loadsL n par m pl dr)), some (.lst (drawsL m dr)), some (.lst (loadsL n par m pl dr ++ [.int 7])), x1, x2, x3, x4, x5, x6, x7]) ⟨_, _, _, _, _, _, _, rfl⟩ ?_ ?_
      · rintro i x _ hx ⟨x1, x2, x3, x4, x5, x6, x7, rfl⟩
        have hi : i < n := by
          have := (List.getElem?_eq_some_iff.mp hx).1
          rwa [rangeD_len] at this
        rw [rangeD_get 0 n i hi, Int.zero_add] at hx
        cases hx
        have hw := A.w n par lim i ok hi (by omega)
        have hab := A.ab n par lim m pl pw os i ok hi
        have hlen : (intsN (way par i)).length < 100000 := by
          rw [intsN, List.length_map]; have := way_len ok.par i hi; omega
        have gw : gd 3 (.lst (intsN (way par i))) := by
          refine ⟨by rw [intsN, List.length_map]; have := way_len ok.par i hi; omega, fun x hx => ?_⟩
          obtain ⟨k, _, rfl⟩ := List.mem_map.mp hx
          trivial
        have hexW := exact1 A.E gw
        rw [W_setV]
        refine ⟨rfl, ?_⟩
        refine W_seq (fun ρ => ρ = [some (.scr ns), some (.lst [.int a3, .int b3]), some (.lst (nodesL n par lim)), some (.lst (os.map orderD)), some (.lst (plugsL m pl pw)), k0, some (.lst (drawsL m dr)), some (siteD n par lim m pl pw os), some (.lst (ts.map D.int)), some (.lst (loadsL n par m pl dr)), some (.lst (drawsL m dr)), some (.lst (loadsL n par m pl dr ++ [.int 7])), x1, some (.int (i : Int)), x3, x4, x5, some (.lst (intsN (way par i))), x7]) ?_ ?_
        · rw [W_mAsgN, W_eMeth, W_eVar]
          refine ⟨_, rfl, rfl, ?_⟩
          simp only [W_aCons, W_aNil, W_eVar]
          refine ⟨_, rfl, rfl, ?_⟩
          rw [hab, CR1_some]
          exact ⟨trivial, rfl⟩
        rintro _ rfl
        refine W_seq (fun ρ => ρ = [some (.scr ns), some (.lst [.int a3, .int b3]), some (.lst (nodesL n par lim)), some (.lst (os.map orderD)), some (.lst (plugsL m pl pw)), k0, some (.lst (drawsL m dr)), some (siteD n par lim m pl pw os), some (.lst (ts.map D.int)), some (.lst (loadsL n par m pl dr)), some (.lst (drawsL m dr)), some (.lst (loadsL n par m pl dr ++ [.int 7])), x1, some (.int (i : Int)), x3, x4, x5, some (.lst (intsN (way par i))), x7]) ?_ ?_
        · simp [κp_law_exact, κp_law_way, hw, hexW]
        rintro _ rfl
        simp [hlen]
      · intro ρ hh
        exact And.intro rfl hh
    rintro _ ⟨y1, y2, y3, y4, y5, y6, y7, rfl⟩
    have hp := A.p n par lim m pl pw os
    have gp := exact1 A.E (gd_parts ok okp oko)
    rw [W_mRet, W_eAndM, W_eCall]
    simp only [W_aCons, W_aNil, W_eVar]
    refine ⟨_, rfl, ?_⟩
    rw [W_eMeth, W_eVar]
    refine ⟨_, rfl, rfl, ?_⟩
    simp only [W_aCons, W_aNil, W_eVar]
    refine ⟨_, rfl, rfl, ?_⟩
    rw [hlo, CR1_some]
    refine ⟨rfl, ?_⟩
    rw [hexL, CR1_some]
    refine ⟨_, rfl, ?_⟩
    rw [if_pos rfl, W_eAndM, W_eOp2, W_eVar]
    refine ⟨_, rfl, ?_⟩
    rw [W_eVar]
    refine ⟨_, rfl, _, heq, _, rfl, ?_⟩
    rw [if_pos rfl, W_eSc, W_eCall]
    simp only [W_aCons, W_aNil, W_eTup, W_eTuple, W_eTupleO, W_eVar]
    refine ⟨_, rfl, _, rfl, _, rfl, _, rfl, _, rfl, _, rfl, ?_⟩
    rw [W_eMeth, W_eVar]
    refine ⟨_, rfl, rfl, ?_⟩
    rw [W_aNil]
    refine ⟨rfl, ?_⟩
    rw [hp, CR1_some]
    refine ⟨rfl, ?_⟩
    rw [gp, CR1_some]
    exact ⟨rfl, _, rfl, rfl⟩
  obtain ⟨r, o, h, rfl⟩ := this
  exact ⟨o, h⟩
end
end HT

set_option maxHeartbeats 0
namespace HT
open PySem PySem.Spec PyProof.Rows L2 DL
def d_require : He.DefD := ⟨("require", none), "require", "require", defArgs (top 13), defBody (top 13), defScope (top 13), [], []⟩
def d_is_name : He.DefD := ⟨("is_name", none), "is_name", "is_name", defArgs (top 14), defBody (top 14), defScope (top 14), [], []⟩
def d_check_nodes : He.DefD := ⟨("check_nodes", none), "check_nodes", "check_nodes", defArgs (top 15), defBody (top 15), defScope (top 15), [], []⟩
def d_check_plugs : He.DefD := ⟨("check_plugs", none), "check_plugs", "check_plugs", defArgs (top 16), defBody (top 16), defScope (top 16), [], []⟩
def d_check_orders : He.DefD := ⟨("check_orders", none), "check_orders", "check_orders", defArgs (top 17), defBody (top 17), defScope (top 17), [], []⟩
def d_check_site : He.DefD := ⟨("check_site", none), "check_site", "check_site", defArgs (top 18), defBody (top 18), defScope (top 18), [], []⟩
def d_Site_init : He.DefD := ⟨("Site", some "__init__"), "__init__", "Site.__init__", defArgs (inClass (top 19) 0), defBody (inClass (top 19) 0), defScope (inClass (top 19) 0), [], []⟩
def d_Site_parts : He.DefD := ⟨("Site", some "parts"), "parts", "Site.parts", defArgs (inClass (top 19) 1), defBody (inClass (top 19) 1), defScope (inClass (top 19) 1), [], []⟩
def d_Site_limit : He.DefD := ⟨("Site", some "limit"), "limit", "Site.limit", defArgs (inClass (top 19) 2), defBody (inClass (top 19) 2), defScope (inClass (top 19) 2), [], []⟩
def d_Site_above : He.DefD := ⟨("Site", some "above"), "above", "Site.above", defArgs (inClass (top 19) 3), defBody (inClass (top 19) 3), defScope (inClass (top 19) 3), [], []⟩
def d_Site_loads : He.DefD := ⟨("Site", some "loads"), "loads", "Site.loads", defArgs (inClass (top 19) 4), defBody (inClass (top 19) 4), defScope (inClass (top 19) 4), [], []⟩
def d_Site_excess : He.DefD := ⟨("Site", some "excess"), "excess", "Site.excess", defArgs (inClass (top 19) 5), defBody (inClass (top 19) 5), defScope (inClass (top 19) 5), [], []⟩
def d_law_refill : He.DefD := ⟨("_law_refill", none), "_law_refill", "_law_refill", defArgs (top 21), defBody (top 21), defScope (top 21), [], []⟩
def d_law_draw : He.DefD := ⟨("_law_draw", none), "_law_draw", "_law_draw", defArgs (top 22), defBody (top 22), defScope (top 22), [], []⟩
def d_law_exact : He.DefD := ⟨("_law_exact", none), "_law_exact", "_law_exact", defArgs (top 23), defBody (top 23), defScope (top 23), [], []⟩
def d_law_nodes : He.DefD := ⟨("_law_nodes", none), "_law_nodes", "_law_nodes", defArgs (top 24), defBody (top 24), defScope (top 24), [], []⟩
def d_law_orders : He.DefD := ⟨("_law_orders", none), "_law_orders", "_law_orders", defArgs (top 25), defBody (top 25), defScope (top 25), [], []⟩
def d_law_load : He.DefD := ⟨("_law_load", none), "_law_load", "_law_load", defArgs (top 26), defBody (top 26), defScope (top 26), [], []⟩
def d_law_limit : He.DefD := ⟨("_law_limit", none), "_law_limit", "_law_limit", defArgs (top 27), defBody (top 27), defScope (top 27), [], []⟩
def d_law_way : He.DefD := ⟨("_law_way", none), "_law_way", "_law_way", defArgs (top 28), defBody (top 28), defScope (top 28), [], []⟩
def d_law : He.DefD := ⟨("law", none), "law", "law", defArgs (top 29), defBody (top 29), defScope (top 29), [], []⟩
def fn : List He.DefD := [d_require, d_is_name, d_check_nodes, d_check_plugs, d_check_orders, d_check_site, d_Site_init, d_Site_parts, d_Site_limit, d_Site_above, d_Site_loads, d_Site_excess, d_law_refill, d_law_draw, d_law_exact, d_law_nodes, d_law_orders, d_law_load, d_law_limit, d_law_way, d_law]
def fa : List He.Fa := [.glo "require", .glo "is_name", .glo "check_nodes", .glo "check_plugs", .glo "check_orders", .glo "check_site", .meth "Site" "parts", .meth "Site" "limit", .meth "Site" "above", .meth "Site" "loads", .meth "Site" "excess", .glo "_law_refill", .glo "_law_draw", .glo "_law_exact", .glo "_law_nodes", .glo "_law_orders", .glo "_law_load", .glo "_law_limit", .glo "_law_way", .glo "law", .glo "Site", .cls "Site", .mkr "Site", .free "len", .free "range", .free "min", .free "max", .free "sum", .free "all", .free "isinstance", .free "int", .free "str", .free "bool", .free "list", .free "tuple", .free "enumerate", .free "zip", .int "LAST_TICK" 96, .str "LETTERS" "abcdefghijklmnopqrstuvwxyz", .int "MOST_LIMIT" 999, .int "MOST_NODES" 24, .int "MOST_ORDERS" 12, .int "MOST_PLUGS" 16, .int "MOST_POWER" 99, .noat "Site" "nodes", .noat "Site" "orders", .noat "Site" "plugs", .str "SIGNS" "abcdefghijklmnopqrstuvwxyz0123456789"]
abbrev R : PySem.W.OpenRow := PySem.W.OpenLaw.row PySem.Challenge.rw_pledgedwatts_k71_limits_and_loads
def ex : PySem.W.Frag → Bool := fun _ => true
def tf : List He.Defn := [("is_name", none)]
abbrev hk : PySem.W.Hook := He.hookX 6 fa fn [] tf ex
def ob (s : PySem.W.SharedT) : He.AlX := He.obsX 6 fa fn [] tf ex (HandSHeadRun.getT s)
theorem ob_eq (s : PySem.W.SharedT) : ob s = hk.obs s.abs := He.obsX_eq (HandSHeadRun.getT_eq s)
def names : List PySem.Str := ["_wall", "PledgeError", "SiteError", "MOST_NODES", "MOST_PLUGS", "MOST_ORDERS", "MOST_LIMIT", "MOST_POWER", "LAST_TICK", "LETTERS", "SIGNS", "require", "is_name", "check_nodes", "check_plugs", "check_orders", "check_site", "Site", "_law_refill", "_law_draw", "_law_exact", "_law_nodes", "_law_orders", "_law_load", "_law_limit", "_law_way"]
theorem run (w : World) : HandSHeadRun.RunEq R (PySem.W.view R.prog [29]) hk ob 3000 names w := by
  intro os
  kernel_rfl
structure Mx (K : PySem.W.Frag) (mg : Str → Option Value) : Prop where
  m_require : mg "require" = some (.ref (He.ga K "require"))
  m_is_name : mg "is_name" = some (.ref (He.ga K "is_name"))
  m_check_nodes : mg "check_nodes" = some (.ref (He.ga K "check_nodes"))
  m_check_plugs : mg "check_plugs" = some (.ref (He.ga K "check_plugs"))
  m_check_orders : mg "check_orders" = some (.ref (He.ga K "check_orders"))
  m_check_site : mg "check_site" = some (.ref (He.ga K "check_site"))
  h_Site_parts : Meth K (He.ga K "Site") "parts" (He.ma K (He.ga K "Site") "parts")
  h_Site_limit : Meth K (He.ga K "Site") "limit" (He.ma K (He.ga K "Site") "limit")
  h_Site_above : Meth K (He.ga K "Site") "above" (He.ma K (He.ga K "Site") "above")
  h_Site_loads : Meth K (He.ga K "Site") "loads" (He.ma K (He.ga K "Site") "loads")
  h_Site_excess : Meth K (He.ga K "Site") "excess" (He.ma K (He.ga K "Site") "excess")
  m_law_refill : mg "_law_refill" = some (.ref (He.ga K "_law_refill"))
  m_law_draw : mg "_law_draw" = some (.ref (He.ga K "_law_draw"))
  m_law_exact : mg "_law_exact" = some (.ref (He.ga K "_law_exact"))
  m_law_nodes : mg "_law_nodes" = some (.ref (He.ga K "_law_nodes"))
  m_law_orders : mg "_law_orders" = some (.ref (He.ga K "_law_orders"))
  m_law_load : mg "_law_load" = some (.ref (He.ga K "_law_load"))
  m_law_limit : mg "_law_limit" = some (.ref (He.ga K "_law_limit"))
  m_law_way : mg "_law_way" = some (.ref (He.ga K "_law_way"))
  m_law : mg "law" = some (.ref (He.ga K "law"))
  c_Site : mg "Site" = some (.ref (He.ga K "Site"))
  k_Site : Mk K (He.ga K "Site") (He.ma K (He.ga K "Site") "__init__")
section
variable {K : PySem.W.Frag} {h : Heap} {mg : Str → Option Value}
theorem tx_of (X : K.In h) (G : h.Ns mainGlobals mg) (c : He.SaysD fa fn K) : Tx K mg where
  b_len := He.free_ok X G (c.fact 23 (f := .free "len") rfl)
  b_range := He.free_ok X G (c.fact 24 (f := .free "range") rfl)
  b_min := He.free_ok X G (c.fact 25 (f := .free "min") rfl)
  b_max := He.free_ok X G (c.fact 26 (f := .free "max") rfl)
  b_sum := He.free_ok X G (c.fact 27 (f := .free "sum") rfl)
  b_all := He.free_ok X G (c.fact 28 (f := .free "all") rfl)
  b_isinstance := He.free_ok X G (c.fact 29 (f := .free "isinstance") rfl)
  b_int := He.free_ok X G (c.fact 30 (f := .free "int") rfl)
  b_str := He.free_ok X G (c.fact 31 (f := .free "str") rfl)
  b_bool := He.free_ok X G (c.fact 32 (f := .free "bool") rfl)
  b_list := He.free_ok X G (c.fact 33 (f := .free "list") rfl)
  b_tuple := He.free_ok X G (c.fact 34 (f := .free "tuple") rfl)
  b_enumerate := He.free_ok X G (c.fact 35 (f := .free "enumerate") rfl)
  b_zip := He.free_ok X G (c.fact 36 (f := .free "zip") rfl)
  g_LAST_TICK := let ⟨t, e⟩ := He.int_ok X G (c.fact 37 (f := .int "LAST_TICK" 96) rfl); ⟨_, e, t, rfl⟩
  g_LETTERS := let ⟨t, e⟩ := He.str_ok X G (c.fact 38 (f := .str "LETTERS" "abcdefghijklmnopqrstuvwxyz") rfl); ⟨_, e, t, rfl⟩
  g_MOST_LIMIT := let ⟨t, e⟩ := He.int_ok X G (c.fact 39 (f := .int "MOST_LIMIT" 999) rfl); ⟨_, e, t, rfl⟩
  g_MOST_NODES := let ⟨t, e⟩ := He.int_ok X G (c.fact 40 (f := .int "MOST_NODES" 24) rfl); ⟨_, e, t, rfl⟩
  g_MOST_ORDERS := let ⟨t, e⟩ := He.int_ok X G (c.fact 41 (f := .int "MOST_ORDERS" 12) rfl); ⟨_, e, t, rfl⟩
  g_MOST_PLUGS := let ⟨t, e⟩ := He.int_ok X G (c.fact 42 (f := .int "MOST_PLUGS" 16) rfl); ⟨_, e, t, rfl⟩
  g_MOST_POWER := let ⟨t, e⟩ := He.int_ok X G (c.fact 43 (f := .int "MOST_POWER" 99) rfl); ⟨_, e, t, rfl⟩
  n_Site_nodes := He.noat_ok (c.fact 44 (f := .noat "Site" "nodes") rfl)
  n_Site_orders := He.noat_ok (c.fact 45 (f := .noat "Site" "orders") rfl)
  n_Site_plugs := He.noat_ok (c.fact 46 (f := .noat "Site" "plugs") rfl)
  k_Site := He.cls_ok (c.fact 21 (f := .cls "Site") rfl)
theorem mx_of (X : K.In h) (G : h.Ns mainGlobals mg) (c : He.SaysD fa fn K) : Mx K mg where
  m_require := He.glo_ok X G (c.fact 0 (f := .glo "require") rfl)
  m_is_name := He.glo_ok X G (c.fact 1 (f := .glo "is_name") rfl)
  m_check_nodes := He.glo_ok X G (c.fact 2 (f := .glo "check_nodes") rfl)
  m_check_plugs := He.glo_ok X G (c.fact 3 (f := .glo "check_plugs") rfl)
  m_check_orders := He.glo_ok X G (c.fact 4 (f := .glo "check_orders") rfl)
  m_check_site := He.glo_ok X G (c.fact 5 (f := .glo "check_site") rfl)
  h_Site_parts := He.meth_ok (c.fact 6 (f := .meth "Site" "parts") rfl)
  h_Site_limit := He.meth_ok (c.fact 7 (f := .meth "Site" "limit") rfl)
  h_Site_above := He.meth_ok (c.fact 8 (f := .meth "Site" "above") rfl)
  h_Site_loads := He.meth_ok (c.fact 9 (f := .meth "Site" "loads") rfl)
  h_Site_excess := He.meth_ok (c.fact 10 (f := .meth "Site" "excess") rfl)
  m_law_refill := He.glo_ok X G (c.fact 11 (f := .glo "_law_refill") rfl)
  m_law_draw := He.glo_ok X G (c.fact 12 (f := .glo "_law_draw") rfl)
  m_law_exact := He.glo_ok X G (c.fact 13 (f := .glo "_law_exact") rfl)
  m_law_nodes := He.glo_ok X G (c.fact 14 (f := .glo "_law_nodes") rfl)
  m_law_orders := He.glo_ok X G (c.fact 15 (f := .glo "_law_orders") rfl)
  m_law_load := He.glo_ok X G (c.fact 16 (f := .glo "_law_load") rfl)
  m_law_limit := He.glo_ok X G (c.fact 17 (f := .glo "_law_limit") rfl)
  m_law_way := He.glo_ok X G (c.fact 18 (f := .glo "_law_way") rfl)
  m_law := He.glo_ok X G (c.fact 19 (f := .glo "law") rfl)
  c_Site := He.glo_ok X G (c.fact 20 (f := .glo "Site") rfl)
  k_Site := He.mkr_ok (c.fact 22 (f := .mkr "Site") rfl)
end
noncomputable def X_require : DF := runD κp_require κl_require.length .sc (mb_require )
noncomputable def X_is_name : DF := runD κp_is_name κl_is_name.length .sc (mb_is_name )
noncomputable def X_check_nodes : DF := runD κp_check_nodes κl_check_nodes.length .sc (mb_check_nodes X_require X_is_name)
noncomputable def X_check_plugs : DF := runD κp_check_plugs κl_check_plugs.length .sc (mb_check_plugs X_require X_is_name)
noncomputable def X_check_orders : DF := runD κp_check_orders κl_check_orders.length .sc (mb_check_orders X_require)
noncomputable def X_check_site : DF := runD κp_check_site κl_check_site.length .sc (mb_check_site X_check_nodes X_check_plugs X_check_orders)
noncomputable def X_Site_init : DF := runD κp_Site_init κl_Site_init.length .sc (mb_Site_init X_check_site)
noncomputable def X_Site_parts : DF := runD κp_Site_parts κl_Site_parts.length .im (mb_Site_parts )
noncomputable def X_Site_limit : DF := runD κp_Site_limit κl_Site_limit.length .sc (mb_Site_limit )
noncomputable def X_Site_above : DF := runD κp_Site_above κl_Site_above.length (.lst .sc) (mb_Site_above )
noncomputable def X_Site_loads : DF := runD κp_Site_loads κl_Site_loads.length (.lst .sc) (mb_Site_loads X_Site_above)
noncomputable def X_Site_excess : DF := runD κp_Site_excess κl_Site_excess.length .sc (mb_Site_excess X_Site_loads X_Site_limit)
noncomputable def X_law_refill : DF := runD κp_law_refill κl_law_refill.length .sc (mb_law_refill )
noncomputable def X_law_draw : DF := runD κp_law_draw κl_law_draw.length .sc (mb_law_draw X_law_refill)
noncomputable def X_law_exact : Nat → DF
  | 0 => dfNone
  | i + 1 => runD κp_law_exact κl_law_exact.length .sc (mb_law_exact (X_law_exact i))
noncomputable def X_law_nodes : DF := runD κp_law_nodes κl_law_nodes.length (.lst .im) (mb_law_nodes X_law_draw)
noncomputable def X_law_orders : DF := runD κp_law_orders κl_law_orders.length (.lst .im) (mb_law_orders X_law_draw)
noncomputable def X_law_load : Nat → DF
  | 0 => dfNone
  | i + 1 => runD κp_law_load κl_law_load.length .sc (mb_law_load (X_law_load i))
noncomputable def X_law_limit : DF := runD κp_law_limit κl_law_limit.length .sc (mb_law_limit )
noncomputable def X_law_way : Nat → DF
  | 0 => dfNone
  | i + 1 => runD κp_law_way κl_law_way.length (.lst .im) (mb_law_way (X_law_way i))
noncomputable def X_law : DF := runD κp_law κl_law.length .sc (mb_law X_law_nodes X_law_orders X_law_draw X_Site_init (X_law_load 24) X_Site_loads (X_law_exact 4) X_law_limit X_Site_limit X_Site_excess (X_law_way 24) X_Site_above X_Site_parts)
theorem law_ok {P : Program} {w : World} {K : PySem.W.Frag} {mg : Str → Option Value} {base : Heap} (T : Tx K mg) (M : Mx K mg) (c : He.SaysD fa fn K) {fd : FuncData} (F : FunD K "law" "law" (defArgs (top 29)) (defBody (top 29)) (defScope (top 29)) [] [] (He.ga K "law") fd)
    (TB : GxR.TabB base mg (He.cT K ("is_name", none)).1 (He.cT K ("is_name", none)).2) (hns : base.Ns mainGlobals mg) {tS : Tok} (hS : mg "SIGNS" = some (.str "abcdefghijklmnopqrstuvwxyz0123456789" tS)) : FnOk P w K mg base CX0 25 (He.ga K "law") fd ["script"] (spM K (gx K) κp_law .sc X_law) := by
  obtain ⟨f0, F0⟩ := c.def_ 0 (d := d_require) rfl
  have C_require : Cal P w K mg base 1 "require" (spM K (gx K) κp_require .sc X_require) := cal_mk (κl := κl_require) F0 M.m_require sc_require (fun cdv A outer s H E hr => bx_require (n := 0) (fd := f0) T  cdv A outer s H E hr) (fun _ _ _ _ _ _ us hl => match us, hl with | [_, _, _, _], _ => rfl)
  obtain ⟨f1, F1⟩ := c.def_ 1 (d := d_is_name) rfl
  have C_is_name : Cal P w K mg base 1 "is_name" (spM K (gx K) κp_is_name .sc X_is_name) := cal_mkT (p := ("is_name", none)) (κl := κl_is_name) F1 M.m_is_name sc_is_name (fun cdv A outer s H E hc hr => bx_is_name (n := 0) (fd := f1) T TB hns hS cdv A outer s H E hc hr) (fun _ _ _ _ _ _ us hl => match us, hl with | [_], _ => rfl)
  obtain ⟨f2, F2⟩ := c.def_ 2 (d := d_check_nodes) rfl
  have C_check_nodes : Cal P w K mg base 2 "check_nodes" (spM K (gx K) κp_check_nodes .sc X_check_nodes) := cal_mk (κl := κl_check_nodes) F2 M.m_check_nodes sc_check_nodes (fun cdv A outer s H E hr => bx_check_nodes (n := 0) (fd := f2) T C_require C_is_name cdv A outer s H E hr) (fun _ _ _ _ _ _ us hl => match us, hl with | [_], _ => rfl)
  obtain ⟨f3, F3⟩ := c.def_ 3 (d := d_check_plugs) rfl
  have C_check_plugs : Cal P w K mg base 2 "check_plugs" (spM K (gx K) κp_check_plugs .sc X_check_plugs) := cal_mk (κl := κl_check_plugs) F3 M.m_check_plugs sc_check_plugs (fun cdv A outer s H E hr => bx_check_plugs (n := 0) (fd := f3) T C_require C_is_name cdv A outer s H E hr) (fun _ _ _ _ _ _ us hl => match us, hl with | [_, _], _ => rfl)
  obtain ⟨f4, F4⟩ := c.def_ 4 (d := d_check_orders) rfl
  have C_check_orders : Cal P w K mg base 2 "check_orders" (spM K (gx K) κp_check_orders .sc X_check_orders) := cal_mk (κl := κl_check_orders) F4 M.m_check_orders sc_check_orders (fun cdv A outer s H E hr => bx_check_orders (n := 0) (fd := f4) T C_require cdv A outer s H E hr) (fun _ _ _ _ _ _ us hl => match us, hl with | [_, _], _ => rfl)
  obtain ⟨f5, F5⟩ := c.def_ 5 (d := d_check_site) rfl
  have C_check_site : Cal P w K mg base 3 "check_site" (spM K (gx K) κp_check_site .sc X_check_site) := cal_mk (κl := κl_check_site) F5 M.m_check_site sc_check_site (fun cdv A outer s H E hr => bx_check_site (n := 0) (fd := f5) T C_check_nodes C_check_plugs C_check_orders cdv A outer s H E hr) (fun _ _ _ _ _ _ us hl => match us, hl with | [_, _, _], _ => rfl)
  obtain ⟨f6, F6⟩ := c.def_ 6 (d := d_Site_init) rfl
  have C_Site_init : Mak P w K mg base 4 "Site" ((gx K).cl "Site") (spM K (gx K) κp_Site_init .sc X_Site_init) := mak_mk (κl := κl_Site_init) F6 M.k_Site M.c_Site sc_Site_init (fun cdv A outer s H E hr => bx_Site_init (n := 0) (fd := f6) T C_check_site cdv A outer s H E hr) (fun _ _ _ _ _ _ us hl => match us, hl with | [_, _, _, _], _ => rfl)
  obtain ⟨f7, F7⟩ := c.def_ 7 (d := d_Site_parts) rfl
  have C_Site_parts : Met P w K mg base 1 ((gx K).cl "Site") "parts" (spM K (gx K) κp_Site_parts .im X_Site_parts) := met_mk (κl := κl_Site_parts) F7 T.k_Site M.h_Site_parts sc_Site_parts (fun cdv A outer s H E hr => bx_Site_parts (n := 0) (fd := f7) T  cdv A outer s H E hr) (fun _ _ _ _ _ _ us hl => match us, hl with | [_], _ => rfl)
  obtain ⟨f8, F8⟩ := c.def_ 8 (d := d_Site_limit) rfl
  have C_Site_limit : Met P w K mg base 1 ((gx K).cl "Site") "limit" (spM K (gx K) κp_Site_limit .sc X_Site_limit) := met_mk (κl := κl_Site_limit) F8 T.k_Site M.h_Site_limit sc_Site_limit (fun cdv A outer s H E hr => bx_Site_limit (n := 0) (fd := f8) T  cdv A outer s H E hr) (fun _ _ _ _ _ _ us hl => match us, hl with | [_, _, _], _ => rfl)
  obtain ⟨f9, F9⟩ := c.def_ 9 (d := d_Site_above) rfl
  have C_Site_above : Met P w K mg base 1 ((gx K).cl "Site") "above" (spM K (gx K) κp_Site_above (.lst .sc) X_Site_above) := met_mk (κl := κl_Site_above) F9 T.k_Site M.h_Site_above sc_Site_above (fun cdv A outer s H E hr => bx_Site_above (n := 0) (fd := f9) T  cdv A outer s H E hr) (fun _ _ _ _ _ _ us hl => match us, hl with | [_, _], _ => rfl)
  obtain ⟨f10, F10⟩ := c.def_ 10 (d := d_Site_loads) rfl
  have C_Site_loads : Met P w K mg base 2 ((gx K).cl "Site") "loads" (spM K (gx K) κp_Site_loads (.lst .sc) X_Site_loads) := met_mk (κl := κl_Site_loads) F10 T.k_Site M.h_Site_loads sc_Site_loads (fun cdv A outer s H E hr => bx_Site_loads (n := 0) (fd := f10) T C_Site_above cdv A outer s H E hr) (fun _ _ _ _ _ _ us hl => match us, hl with | [_, _], _ => rfl)
  obtain ⟨f11, F11⟩ := c.def_ 11 (d := d_Site_excess) rfl
  have C_Site_excess : Met P w K mg base 3 ((gx K).cl "Site") "excess" (spM K (gx K) κp_Site_excess .sc X_Site_excess) := met_mk (κl := κl_Site_excess) F11 T.k_Site M.h_Site_excess sc_Site_excess (fun cdv A outer s H E hr => bx_Site_excess (n := 0) (fd := f11) T C_Site_loads C_Site_limit cdv A outer s H E hr) (fun _ _ _ _ _ _ us hl => match us, hl with | [_, _, _], _ => rfl)
  obtain ⟨f12, F12⟩ := c.def_ 12 (d := d_law_refill) rfl
  have C_law_refill : Cal P w K mg base 1 "_law_refill" (spM K (gx K) κp_law_refill .sc X_law_refill) := cal_mk (κl := κl_law_refill) F12 M.m_law_refill sc_law_refill (fun cdv A outer s H E hr => bx_law_refill (n := 0) (fd := f12) T  cdv A outer s H E hr) (fun _ _ _ _ _ _ us hl => match us, hl with | [_, _], _ => rfl)
  obtain ⟨f13, F13⟩ := c.def_ 13 (d := d_law_draw) rfl
  have C_law_draw : Cal P w K mg base 2 "_law_draw" (spM K (gx K) κp_law_draw .sc X_law_draw) := cal_mk (κl := κl_law_draw) F13 M.m_law_draw sc_law_draw (fun cdv A outer s H E hr => bx_law_draw (n := 0) (fd := f13) T C_law_refill cdv A outer s H E hr) (fun _ _ _ _ _ _ us hl => match us, hl with | [_, _, _], _ => rfl)
  obtain ⟨f14, F14⟩ := c.def_ 14 (d := d_law_exact) rfl
  have C_law_exact : ∀ i, Cal P w K mg base (i + 0) "_law_exact" (spM K (gx K) κp_law_exact .sc (X_law_exact i)) := fun i => by
    induction i with
    | zero => exact (Cal.none M.m_law_exact F14.kp (F14.bindsN (ps := ["first", "second"]) (fun _ _ _ _ _ _ us hl => match us, hl with | [_, _], _ => rfl))).up (Nat.zero_le _)
    | succ i ih => exact cal_mk (κl := κl_law_exact) F14 M.m_law_exact sc_law_exact (fun cdv A outer s H E hr => bx_law_exact (n := i) (fd := f14) T  ih cdv A outer s H E hr) (fun _ _ _ _ _ _ us hl => match us, hl with | [_, _], _ => rfl)
  obtain ⟨f15, F15⟩ := c.def_ 15 (d := d_law_nodes) rfl
  have C_law_nodes : Cal P w K mg base 3 "_law_nodes" (spM K (gx K) κp_law_nodes (.lst .im) X_law_nodes) := cal_mk (κl := κl_law_nodes) F15 M.m_law_nodes sc_law_nodes (fun cdv A outer s H E hr => bx_law_nodes (n := 0) (fd := f15) T C_law_draw cdv A outer s H E hr) (fun _ _ _ _ _ _ us hl => match us, hl with | [_, _], _ => rfl)
  obtain ⟨f16, F16⟩ := c.def_ 16 (d := d_law_orders) rfl
  have C_law_orders : Cal P w K mg base 3 "_law_orders" (spM K (gx K) κp_law_orders (.lst .im) X_law_orders) := cal_mk (κl := κl_law_orders) F16 M.m_law_orders sc_law_orders (fun cdv A outer s H E hr => bx_law_orders (n := 0) (fd := f16) T C_law_draw cdv A outer s H E hr) (fun _ _ _ _ _ _ us hl => match us, hl with | [_, _, _], _ => rfl)
  obtain ⟨f17, F17⟩ := c.def_ 17 (d := d_law_load) rfl
  have C_law_load : ∀ i, Cal P w K mg base (i + 0) "_law_load" (spM K (gx K) κp_law_load .sc (X_law_load i)) := fun i => by
    induction i with
    | zero => exact (Cal.none M.m_law_load F17.kp (F17.bindsN (ps := ["nodes", "plugs", "draws", "node"]) (fun _ _ _ _ _ _ us hl => match us, hl with | [_, _, _, _], _ => rfl))).up (Nat.zero_le _)
    | succ i ih => exact cal_mk (κl := κl_law_load) F17 M.m_law_load sc_law_load (fun cdv A outer s H E hr => bx_law_load (n := i) (fd := f17) T  ih cdv A outer s H E hr) (fun _ _ _ _ _ _ us hl => match us, hl with | [_, _, _, _], _ => rfl)
  obtain ⟨f18, F18⟩ := c.def_ 18 (d := d_law_limit) rfl
  have C_law_limit : Cal P w K mg base 1 "_law_limit" (spM K (gx K) κp_law_limit .sc X_law_limit) := cal_mk (κl := κl_law_limit) F18 M.m_law_limit sc_law_limit (fun cdv A outer s H E hr => bx_law_limit (n := 0) (fd := f18) T  cdv A outer s H E hr) (fun _ _ _ _ _ _ us hl => match us, hl with | [_, _, _, _], _ => rfl)
  obtain ⟨f19, F19⟩ := c.def_ 19 (d := d_law_way) rfl
  have C_law_way : ∀ i, Cal P w K mg base (i + 0) "_law_way" (spM K (gx K) κp_law_way (.lst .im) (X_law_way i)) := fun i => by
    induction i with
    | zero => exact (Cal.none M.m_law_way F19.kp (F19.bindsN (ps := ["nodes", "node"]) (fun _ _ _ _ _ _ us hl => match us, hl with | [_, _], _ => rfl))).up (Nat.zero_le _)
    | succ i ih => exact cal_mk (κl := κl_law_way) F19 M.m_law_way sc_law_way (fun cdv A outer s H E hr => bx_law_way (n := i) (fd := f19) T  ih cdv A outer s H E hr) (fun _ _ _ _ _ _ us hl => match us, hl with | [_, _], _ => rfl)
  exact fn_okM (κl := κl_law) F sc_law rfl rfl rfl rfl fun cdv A outer s H E hr => bx_law (n := 0) (fd := fd) T C_law_nodes C_law_orders C_law_draw C_Site_init (C_law_load 24) C_Site_loads (C_law_exact 4) C_law_limit C_Site_limit C_Site_excess (C_law_way 24) C_Site_above C_Site_parts cdv A outer s H E hr
end HT

namespace HT
open PySem PySem.Spec PyProof.Rows L2 DL
theorem way_all : ∀ f, Sp_way f (X_law_way f)
  | 0 => fun n par lim v ok hv hf => by omega
  | f + 1 => ev_way (way_all f)
theorem load_all : ∀ f, Sp_lload f (X_law_load f)
  | 0 => fun n par lim m pl pw dr v ok okp hv hf => by omega
  | f + 1 => ev_lload (load_all f)
theorem exact_all : ∀ f, Sp_exact f (X_law_exact (f + 1))
  | 0 => ev_exact fun f' e => by omega
  | f + 1 => ev_exact fun f' e => by
    have : f' = f := by omega
    subst this
    exact exact_all f'
theorem draw_all : Sp_draw X_law_draw := ev_draw ev_refill
theorem name_all : Sp_is_name X_is_name := ev_is_name
theorem law_true (ns : List Int) : ∃ o, X_law [.scr ns] = some (.bl true, o) :=
  ev_law ⟨ev_nodes draw_all, ev_orders draw_all, draw_all, ev_init (ev_check_site (ev_check_nodes ev_require name_all) (ev_check_plugs ev_require name_all) (ev_check_orders ev_require)), load_all 24, ev_loads ev_above, exact_all 3, ev_llimit, ev_limit, ev_excess (ev_loads ev_above) ev_limit, way_all 24, ev_above, ev_parts⟩ ns
theorem law_at {w : World} {mg : Str → Option Value} {fad : Addr} {h : Heap} (Y : hk.says w h) (G : h.Ns mainGlobals mg) (hmg : mg "law" = some (.ref fad)) :
    ∃ K : PySem.W.Frag, K.In h ∧ LamX.LawAtS PySem.Challenge.rw_pledgedwatts_k71_limits_and_loads w K L2.CX0 25 63 "script" mg fad h := by
  obtain ⟨K, KX, c⟩ := Y
  have e := hmg.symm.trans (He.glo_ok KX G (c.t.d.fact 19 (f := .glo "law") rfl))
  cases e
  obtain ⟨fd, F⟩ := c.t.d.def_ 20 (d := d_law) rfl
  obtain ⟨tS, hS⟩ := He.str_ok KX G (c.t.d.fact 47 (f := .str "SIGNS" "abcdefghijklmnopqrstuvwxyz0123456789") rfl)
  have b := FunD.bindsA (ps := ["script"]) F fun _ _ _ _ _ _ us hl => match us, hl with | [_], _ => rfl
  refine ⟨K, KX, fd, [He.cT K ("is_name", none)], spM K (gx K) κp_law .sc X_law, fun p hp => ?_, fun p hp => ?_, fun p hp => ?_, fun s u => b s [u] rfl, fun H a ns hl hb hH hS => ?_, fun base Xb Gb TB => ?_⟩
  · rw [List.mem_singleton.mp hp]; exact c.empty ("is_name", none) (by simp [tf])
  · rw [List.mem_singleton.mp hp]; exact c.out ("is_name", none) (by simp [tf])
  · rw [List.mem_singleton.mp hp]; exact PySem.W.codeHd_of_K KX (c.hd ("is_name", none) (by simp [tf]))
  · exact law_sp (cs := [He.cT K ("is_name", none)]) (fun P hP => ⟨_, List.mem_singleton.mpr rfl, hP⟩) hH hS (law_true ns)
  · exact law_ok (tx_of KX G c.t.d) (mx_of KX G c.t.d) c.t.d F (let t := TB _ (List.mem_singleton.mpr rfl); ⟨t.code, t.bm, t.gP⟩) Gb hS
end HT
open PySem PySem.W PySem.Calls PyProof.Rows
theorem PySem.Challenge.cw_pledgedwatts_k71_limits_and_loads_holds : PySem.Challenge.rw_pledgedwatts_k71_limits_and_loads.Holds := by
  w_on; o_law
  refine HandSHeadRun.head_any (r := OpenLaw.row PySem.Challenge.rw_pledgedwatts_k71_limits_and_loads) (q := view (OpenLaw.row PySem.Challenge.rw_pledgedwatts_k71_limits_and_loads).prog [29]) (H := HT.hk) (ob := HT.ob) (M := 3000) (loose := HT.names) (d := HandSHeadRun.topDef (OpenLaw.row PySem.Challenge.rw_pledgedwatts_k71_limits_and_loads).prog 29) (kwd := []) HT.ob_eq
    (by kernel_rfl) (fun s => by kernel_rfl) HT.run (by kernel_rfl) (by kernel_rfl) (by kernel_rfl) (by rfl) (by first | assumption | decide +kernel) (by decide +kernel) ⟨rfl, rfl, rfl, rfl, rfl, by decide +kernel⟩ ?hw ?hc
  case hw => w_witness2
  case hc =>
    refine LamX.walk_ofTsE (l := PySem.Challenge.rw_pledgedwatts_k71_limits_and_loads) (n := 63) (k := 25) (x := "script") (CX := fun _ => L2.CX0) rfl (by decide) (by kernel_rfl) ⟨rfl, by decide, by decide⟩ ?F (fun _ _ _ _ _ z => z)
    intro w mg fad h Y G hmg0
    refine HT.law_at Y G ?_
    have e : (HandSHeadRun.topDef (OpenLaw.row PySem.Challenge.rw_pledgedwatts_k71_limits_and_loads).prog 29).name = ("law" : PySem.Str) := by kernel_rfl
    rw [← e]
    exact hmg0

