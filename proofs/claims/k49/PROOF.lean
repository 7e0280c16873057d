import PyProof.Rows.All
import Wide.All
import OpenK.AllK
import Wide.FinOn
import HandS.ForMost
import HandS.Deep
import HandS.Wide
import HandS.Flow
import HandS.TupAny
import HandS.IsInst
import HandS.RaiseMore
import HandS.StrMore
import PyProof.StrLawsRepr
import PyProof.Rows.StrMul
import HandS.Text
import HandS.More
import HandS.SortInts
import HandS.Sort
import PyProof.ListStr
import HandS.SetKeys
import HandS.Zip
import HandS.SetBool
import HandS.Strs
import HandS.Evl
import PySem.Challenge.RW_wordlands_k49_whole_names_that_are_of_us
set_option Elab.async false
set_option linter.all false
set_option maxRecDepth 100000
namespace VS
open PySem PySem.Spec PyProof.Rows L2

/-! ### plain data -/
inductive D where
  | non | bl (b : Bool) | int (i : Int) | str (s : List Nat) | tup (l : List D) | lst (l : List D) | dct (t : Bool) (l : List (D × D)) | scr (l : List Int)

/-- the top may change -/
def D.top : D → Bool
  | .lst _ => true
  | .dct _ _ => true
  | _ => false

/-- signs that are signs -/
def SOk (l : List Nat) : Prop := ∀ c ∈ l, c < 1114112

def kD : Key → D
  | .inl i => .int i
  | .inr s => .str s.cps.toList

/-- the script's list: locked, or of the written part -/
def SqF (K : PySem.W.Frag) (H : Hp) (a : Addr) (xs : List V) : Prop :=
  (∃ o, H a = some (.frz o (.lst xs))) ∨ ∃ (o : Obj) (its : Array Value) (n : Nat), K.lookup a = some o ∧ o.cls = .type "list" ∧ o.dict = none ∧ o.data = .seq its n ∧ its.size ≤ sizeLine ∧ Vals xs its.toList
theorem SqF.sql {K : PySem.W.Frag} {H : Hp} {a : Addr} {xs : List V} (h : SqF K H a xs) : SqL K H a xs := by
  rcases h with h | h
  · exact .inl (.inr h)
  · exact .inr h

mutual
inductive Rep (K : PySem.W.Frag) (Z : Addr → Prop) (H : Hp) : V → D → Prop
  | non : Rep K Z H .non .non
  | bl (b : Bool) : Rep K Z H (.bl b) (.bl b)
  | int (i : Int) : Rep K Z H (.int i) (.int i)
  | str (s : Str) (h : SOk s.cps.toList) : Rep K Z H (.str s) (.str s.cps.toList)
  | tup {a : Addr} {xs : List V} {ds : List D} : H a = some (.tup xs) → Reps K Z H xs ds → Rep K Z H (.ref a) (.tup ds)
  | lst {a : Addr} {xs : List V} {ds : List D} : Z a → H a = some (.lst xs) → Reps K Z H xs ds → Rep K Z H (.ref a) (.lst ds)
  | scr {a : Addr} {ns : List Int} : SqF K H a (ns.map V.int) → Rep K Z H (.ref a) (.scr ns)
  | dK {a : Addr} {kvs : List (Key × V)} {l : List (D × D)} : Z a → Rd H a (.dK kvs) → RepK K Z H kvs l → Rep K Z H (.ref a) (.dct false l)
  | dT {a : Addr} {kvs : List (List Key × V)} {l : List (D × D)} : Z a → Rd H a (.dT kvs) → RepT K Z H kvs l → Rep K Z H (.ref a) (.dct true l)
inductive Reps (K : PySem.W.Frag) (Z : Addr → Prop) (H : Hp) : List V → List D → Prop
  | nil : Reps K Z H [] []
  | cons {v : V} {vs : List V} {d : D} {ds : List D} : Rep K Z H v d → Reps K Z H vs ds → Reps K Z H (v :: vs) (d :: ds)
inductive RepK (K : PySem.W.Frag) (Z : Addr → Prop) (H : Hp) : List (Key × V) → List (D × D) → Prop
  | nil : RepK K Z H [] []
  | cons {k : Key} {v : V} {kvs : List (Key × V)} {d : D} {l : List (D × D)} : Rep K Z H v d → RepK K Z H kvs l → RepK K Z H ((k, v) :: kvs) ((kD k, d) :: l)
inductive RepT (K : PySem.W.Frag) (Z : Addr → Prop) (H : Hp) : List (List Key × V) → List (D × D) → Prop
  | nil : RepT K Z H [] []
  | cons {k : List Key} {v : V} {kvs : List (List Key × V)} {d : D} {l : List (D × D)} : Rep K Z H v d → RepT K Z H kvs l → RepT K Z H ((k, v) :: kvs) ((.tup (k.map kD), d) :: l)
end

/-- what is kept of what is frozen -/
structure Mv (K : PySem.W.Frag) (Z Z' : Addr → Prop) (H H' : Hp) : Prop where
  z : ∀ a, Z a → Z' a
  r : ∀ a u, Z a → Rd H a u → Rd H' a u
  l : ∀ a xs, Z a → H a = some (.lst xs) → H' a = some (.lst xs)
  t : ∀ a xs, H a = some (.tup xs) → H' a = some (.tup xs)
  f : ∀ a xs, SqF K H a xs → SqF K H' a xs
section
variable {K : PySem.W.Frag} {Z Z' : Addr → Prop} {H H' : Hp}
theorem Mv.ghost (h : ∀ a, Z a → Z' a) : Mv K Z Z' H H := ⟨h, fun _ _ _ q => q, fun _ _ _ q => q, fun _ _ q => q, fun _ _ q => q⟩
mutual
theorem Rep.mono (m : Mv K Z Z' H H') : ∀ {v : V} {d : D}, Rep K Z H v d → Rep K Z' H' v d
  | _, _, .non => .non
  | _, _, .bl b => .bl b
  | _, _, .int i => .int i
  | _, _, .str s h => .str s h
  | _, _, .tup h r => .tup (m.t _ _ h) (Reps.mono m r)
  | _, _, .lst z h r => .lst (m.z _ z) (m.l _ _ z h) (Reps.mono m r)
  | _, _, .scr h => .scr (m.f _ _ h)
  | _, _, .dK z h r => .dK (m.z _ z) (m.r _ _ z h) (RepK.mono m r)
  | _, _, .dT z h r => .dT (m.z _ z) (m.r _ _ z h) (RepT.mono m r)
theorem Reps.mono (m : Mv K Z Z' H H') : ∀ {v : List V} {d : List D}, Reps K Z H v d → Reps K Z' H' v d
  | _, _, .nil => .nil
  | _, _, .cons h r => .cons (Rep.mono m h) (Reps.mono m r)
theorem RepK.mono (m : Mv K Z Z' H H') : ∀ {v : List (Key × V)} {d : List (D × D)}, RepK K Z H v d → RepK K Z' H' v d
  | _, _, .nil => .nil
  | _, _, .cons h r => .cons (Rep.mono m h) (RepK.mono m r)
theorem RepT.mono (m : Mv K Z Z' H H') : ∀ {v : List (List Key × V)} {d : List (D × D)}, RepT K Z H v d → RepT K Z' H' v d
  | _, _, .nil => .nil
  | _, _, .cons h r => .cons (Rep.mono m h) (RepT.mono m r)
end
theorem Reps.length : ∀ {xs : List V} {ds : List D}, Reps K Z H xs ds → xs.length = ds.length
  | _, _, .nil => rfl
  | _, _, .cons _ r => by simp [r.length]
theorem Reps.append : ∀ {xs ys : List V} {ds es : List D}, Reps K Z H xs ds → Reps K Z H ys es → Reps K Z H (xs ++ ys) (ds ++ es)
  | _, _, _, _, .nil, s => s
  | _, _, _, _, .cons h r, s => .cons h (r.append s)
theorem Reps.get : ∀ {xs : List V} {ds : List D} {i : Nat} {d : D}, Reps K Z H xs ds → ds[i]? = some d → ∃ v, xs[i]? = some v ∧ Rep K Z H v d
  | _, _, _, _, .nil, e => by simp at e
  | _, _, 0, _, .cons h _, e => by simp at e; subst e; exact ⟨_, rfl, h⟩
  | _, _, i + 1, _, .cons _ r, e => by
    obtain ⟨v, a, b⟩ := r.get (i := i) (by simpa using e)
    exact ⟨v, by simpa using a, b⟩
theorem Reps.getV : ∀ {xs : List V} {ds : List D} {i : Nat} {v : V}, Reps K Z H xs ds → xs[i]? = some v → ∃ d, ds[i]? = some d ∧ Rep K Z H v d
  | _, _, _, _, .nil, e => by simp at e
  | _, _, 0, _, .cons h _, e => by simp at e; subst e; exact ⟨_, rfl, h⟩
  | _, _, i + 1, _, .cons _ r, e => by
    obtain ⟨v, a, b⟩ := r.getV (i := i) (by simpa using e)
    exact ⟨v, by simpa using a, b⟩
theorem Reps.take : ∀ {xs : List V} {ds : List D} (n : Nat), Reps K Z H xs ds → Reps K Z H (xs.take n) (ds.take n)
  | _, _, 0, _ => .nil
  | _, _, n + 1, .nil => .nil
  | _, _, n + 1, .cons h r => .cons h (r.take n)
theorem Reps.drop : ∀ {xs : List V} {ds : List D} (n : Nat), Reps K Z H xs ds → Reps K Z H (xs.drop n) (ds.drop n)
  | _, _, 0, r => r
  | _, _, n + 1, .nil => .nil
  | _, _, n + 1, .cons h r => r.drop n
theorem Reps.set {v : V} {d : D} (h : Rep K Z H v d) : ∀ {xs : List V} {ds : List D} (n : Nat), Reps K Z H xs ds → Reps K Z H (xs.set n v) (ds.set n d)
  | _, _, _, .nil => .nil
  | _, _, 0, .cons _ r => .cons h r
  | _, _, n + 1, .cons q r => .cons q (r.set h n)
theorem Reps.eraseIdx : ∀ {xs : List V} {ds : List D} (n : Nat), Reps K Z H xs ds → Reps K Z H (xs.eraseIdx n) (ds.eraseIdx n)
  | _, _, _, .nil => .nil
  | _, _, 0, .cons _ r => r
  | _, _, n + 1, .cons q r => .cons q (r.eraseIdx n)
theorem Reps.dropLast {xs : List V} {ds : List D} (h : Reps K Z H xs ds) : Reps K Z H xs.dropLast ds.dropLast := by
  rw [List.dropLast_eq_take, List.dropLast_eq_take, h.length]
  exact h.take _
theorem Reps.reverse : ∀ {xs : List V} {ds : List D}, Reps K Z H xs ds → Reps K Z H xs.reverse ds.reverse
  | _, _, .nil => .nil
  | _, _, .cons h r => by
    rw [List.reverse_cons, List.reverse_cons]
    exact r.reverse.append (.cons h .nil)
theorem Reps.ints : ∀ {xs : List V} {ns : List Int}, Reps K Z H xs (ns.map D.int) → xs = ns.map V.int
  | [], [], _ => rfl
  | _ :: _, _ :: _, .cons h r => by cases h; rw [Reps.ints r]; rfl
  | [], _ :: _, h => by cases h
  | _ :: _, [], h => by cases h
theorem Reps.of_ints : ∀ {ns : List Int}, Reps K Z H (ns.map V.int) (ns.map D.int)
  | [] => .nil
  | _ :: _ => .cons (.int _) Reps.of_ints
theorem Reps.bls : ∀ {xs : List V} {ns : List Bool}, Reps K Z H xs (ns.map D.bl) → xs = ns.map V.bl
  | [], [], _ => rfl
  | _ :: _, _ :: _, .cons h r => by cases h; rw [Reps.bls r]; rfl
  | [], _ :: _, h => by cases h
  | _ :: _, [], h => by cases h
end

/-! ### slots and temporaries -/
inductive Sl where
  | no | fz (d : D) | own (d : D) | mu (d : D) | lent (d : D)
abbrev Rho := List Sl
def Sl.mine : Sl → Bool
  | .own _ => true
  | .mu _ => true
  | _ => false
def Sl.used : Sl → Bool
  | .own _ => true
  | .mu _ => true
  | .lent _ => true
  | _ => false
def Sl.dat : Sl → Option D
  | .no => none
  | .fz d => some d
  | .own d => some d
  | .mu d => some d
  | .lent d => some d
def gt : Rho → Nat → Sl
  | [], _ => .no
  | x :: _, 0 => x
  | _ :: r, n + 1 => gt r n
def st : Rho → Nat → Sl → Rho
  | [], _, _ => []
  | _ :: r, 0, y => y :: r
  | x :: r, n + 1, y => x :: st r n y
theorem st_length : ∀ (ρ : Rho) (i : Nat) (y : Sl), (st ρ i y).length = ρ.length
  | [], _, _ => rfl
  | _ :: _, 0, _ => rfl
  | _ :: r, n + 1, y => by simp [st, st_length r n y]
theorem gt_st_same : ∀ {ρ : Rho} {i : Nat} {y : Sl}, i < ρ.length → gt (st ρ i y) i = y
  | [], _, _, h => by simp at h
  | _ :: _, 0, _, _ => rfl
  | _ :: r, n + 1, y, h => by simp only [st, gt]; exact gt_st_same (by simpa using h)
theorem gt_st_ne : ∀ {ρ : Rho} {i j : Nat} {y : Sl}, i ≠ j → gt (st ρ i y) j = gt ρ j
  | [], _, _, _, _ => rfl
  | _ :: _, 0, 0, _, h => absurd rfl h
  | _ :: _, 0, _ + 1, _, _ => rfl
  | _ :: _, _ + 1, 0, _, _ => rfl
  | _ :: r, n + 1, m + 1, y, h => by simp only [st, gt]; exact gt_st_ne (fun e => h (by rw [e]))
theorem gt_len : ∀ {ρ : Rho} {i : Nat}, gt ρ i ≠ .no → i < ρ.length
  | [], _, h => absurd rfl h
  | _ :: _, 0, _ => by simp
  | _ :: r, n + 1, h => by
    have := gt_len (ρ := r) (i := n) h
    simpa using this

inductive T where
  | val (d : D) | tmp (d : D) | bor (i : Nat)
def rd (ρ : Rho) : T → Option D
  | .val d => some d
  | .tmp d => some d
  | .bor i => (gt ρ i).dat

/-! ### what a slot's object holds -/
def OwnAt (K : PySem.W.Frag) (Z : Addr → Prop) (H : Hp) (a : Addr) : D → Prop
  | .lst ds => ∃ xs, H a = some (.lst xs) ∧ Reps K Z H xs ds
  | .dct false l => ∃ kvs, H a = some (.dK kvs) ∧ RepK K Z H kvs l
  | .dct true l => ∃ kvs, H a = some (.dT kvs) ∧ RepT K Z H kvs l
  | _ => False
/-- it may be read as d -/
def LentAt (K : PySem.W.Frag) (Z : Addr → Prop) (H : Hp) (v : V) : D → Prop
  | .lst ds => ∃ a xs, v = .ref a ∧ H a = some (.lst xs) ∧ Reps K Z H xs ds
  | .dct false l => ∃ a kvs, v = .ref a ∧ Rd H a (.dK kvs) ∧ RepK K Z H kvs l
  | .dct true l => ∃ a kvs, v = .ref a ∧ Rd H a (.dT kvs) ∧ RepT K Z H kvs l
  | d => Rep K Z H v d
section
variable {K : PySem.W.Frag} {Z Z' : Addr → Prop} {H H' : Hp} {a : Addr} {v : V} {d : D}
theorem Rep.lent (h : Rep K Z H v d) : LentAt K Z H v d := by
  cases h with
  | non => exact .non
  | bl b => exact .bl b
  | int i => exact .int i
  | str s h => exact .str s h
  | tup h r => exact .tup h r
  | lst z h r => exact ⟨_, _, rfl, h, r⟩
  | scr h => exact .scr h
  | dK z h r => exact ⟨_, _, rfl, h, r⟩
  | dT z h r => exact ⟨_, _, rfl, h, r⟩
theorem OwnAt.lent (h : OwnAt K Z H a d) : LentAt K Z H (.ref a) d := by
  match d, h with
  | .lst ds, ⟨xs, e, r⟩ => exact ⟨a, xs, rfl, e, r⟩
  | .dct false l, ⟨xs, e, r⟩ => exact ⟨a, xs, rfl, .inl e, r⟩
  | .dct true l, ⟨xs, e, r⟩ => exact ⟨a, xs, rfl, .inl e, r⟩
theorem OwnAt.freeze (h : OwnAt K Z H a d) (hz : Z a) : Rep K Z H (.ref a) d := by
  match d, h with
  | .lst ds, ⟨xs, e, r⟩ => exact .lst hz e r
  | .dct false l, ⟨xs, e, r⟩ => exact .dK hz (.inl e) r
  | .dct true l, ⟨xs, e, r⟩ => exact .dT hz (.inl e) r
theorem OwnAt.here (h : OwnAt K Z H a d) : H a ≠ none := by
  match d, h with
  | .lst ds, ⟨xs, e, r⟩ => rw [e]; simp
  | .dct false l, ⟨xs, e, r⟩ => rw [e]; simp
  | .dct true l, ⟨xs, e, r⟩ => rw [e]; simp
theorem OwnAt.top (h : OwnAt K Z H a d) : d.top = true := by
  match d, h with
  | .lst ds, _ => rfl
  | .dct false l, _ => rfl
  | .dct true l, _ => rfl
/-- it is of a kind that changes: no tuple, nothing locked -/
def Chg : Option HO → Prop
  | some (.lst _) => True
  | some (.dK _) => True
  | some (.dT _) => True
  | _ => False
theorem OwnAt.chg (h : OwnAt K Z H a d) : Chg (H a) := by
  match d, h with
  | .lst ds, ⟨xs, e, r⟩ => rw [e]; trivial
  | .dct false l, ⟨xs, e, r⟩ => rw [e]; trivial
  | .dct true l, ⟨xs, e, r⟩ => rw [e]; trivial
theorem OwnAt.mono (m : Mv K Z Z' H H') (ha : ∀ u, H a = some u → H' a = some u) (h : OwnAt K Z H a d) : OwnAt K Z' H' a d := by
  match d, h with
  | .lst ds, ⟨xs, e, r⟩ => exact ⟨xs, ha _ e, r.mono m⟩
  | .dct false l, ⟨xs, e, r⟩ => exact ⟨xs, ha _ e, r.mono m⟩
  | .dct true l, ⟨xs, e, r⟩ => exact ⟨xs, ha _ e, r.mono m⟩
theorem LentAt.mono (m : Mv K Z Z' H H') (ha : ∀ a u, v = .ref a → Rd H a u → Rd H' a u) (hl : ∀ a xs, v = .ref a → H a = some (.lst xs) → H' a = some (.lst xs)) (h : LentAt K Z H v d) : LentAt K Z' H' v d := by
  match d, h with
  | .lst ds, ⟨a, xs, e, q, r⟩ => exact ⟨a, xs, e, hl _ _ e q, r.mono m⟩
  | .dct false l, ⟨a, xs, e, q, r⟩ => exact ⟨a, xs, e, ha _ _ e q, r.mono m⟩
  | .dct true l, ⟨a, xs, e, q, r⟩ => exact ⟨a, xs, e, ha _ _ e q, r.mono m⟩
  | .non, h => exact Rep.mono m h
  | .bl b, h => exact Rep.mono m h
  | .int i, h => exact Rep.mono m h
  | .str s, h => exact Rep.mono m h
  | .tup l, h => exact Rep.mono m h
  | .scr l, h => exact Rep.mono m h
theorem LentAt.rep (h : LentAt K Z H v d) (t : d.top = false) : Rep K Z H v d := by
  match d, h with
  | .lst ds, _ => cases t
  | .dct _ _, _ => cases t
  | .non, h => exact h
  | .bl b, h => exact h
  | .int i, h => exact h
  | .str s, h => exact h
  | .tup l, h => exact h
  | .scr l, h => exact h
end

/-! ### the state -/
structure G where
  H0 : Hp
  M0 : Addr → Prop
  Z0 : Addr → Prop
/-- a slot's address that the frame may change -/
def Mine (ρ : Rho) (σ : L2.St) (a : Addr) : Prop := ∃ i, (gt ρ i).mine = true ∧ σ[i]? = some (some (.ref a))
def Used (ρ : Rho) (σ : L2.St) (a : Addr) : Prop := ∃ i, (gt ρ i).used = true ∧ σ[i]? = some (some (.ref a))
structure Rel (K : PySem.W.Frag) (g : G) (Z : Addr → Prop) (σ : L2.St) (H : Hp) (ρ : Rho) : Prop where
  len : ρ.length = σ.length
  fz : ∀ i d, gt ρ i = .fz d → ∃ v, σ[i]? = some (some v) ∧ Rep K Z H v d
  own : ∀ i d, gt ρ i = .own d → ∃ a, σ[i]? = some (some (.ref a)) ∧ OwnAt K Z H a d ∧ ¬ Z a ∧ g.H0 a = none
  mu : ∀ i d, gt ρ i = .mu d → ∃ a, σ[i]? = some (some (.ref a)) ∧ OwnAt K Z H a d ∧ ¬ Z a ∧ g.M0 a
  lent : ∀ i d, gt ρ i = .lent d → ∃ v, σ[i]? = some (some v) ∧ LentAt K Z H v d ∧ d.top = true
  uniq : ∀ i j a, (gt ρ i).mine = true → (gt ρ j).used = true → σ[i]? = some (some (.ref a)) → σ[j]? = some (some (.ref a)) → i = j
  frame : ∀ a o, g.H0 a = some o → ¬ g.M0 a → H a = some o
  zfr : ∀ a, Z a → g.Z0 a ∨ g.H0 a = none
  ztr : ∀ a, Z a → H a ≠ none
  mz : ∀ a, g.M0 a → ¬ Z a
  mt : ∀ a, g.M0 a → g.H0 a ≠ none
  mh : ∀ a, g.M0 a → H a ≠ none

theorem Mine.used {ρ : Rho} {σ : L2.St} {a : Addr} (h : Mine ρ σ a) : Used ρ σ a := by
  obtain ⟨i, m, e⟩ := h
  refine ⟨i, ?_, e⟩
  cases q : gt ρ i <;> rw [q] at m <;> first | rfl | cases m
section
variable {K : PySem.W.Frag} {g : G} {Z Z' Z1 Z2 : Addr → Prop} {σ σ' σ1 σ2 : L2.St} {H H' H1 H2 : Hp} {ρ ρ' ρ1 ρ2 : Rho} {a : Addr} {v : V} {d : D} {t : T}
theorem Rel.mineChg (R : Rel K g Z σ H ρ) (h : Mine ρ σ a) : Chg (H a) ∧ ¬ Z a ∧ (g.M0 a ∨ g.H0 a = none) := by
  obtain ⟨i, m, e⟩ := h
  cases q : gt ρ i with
  | own d =>
    obtain ⟨b, e', o, z, f⟩ := R.own i d q
    rw [e] at e'; cases e'
    exact ⟨o.chg, z, .inr f⟩
  | mu d =>
    obtain ⟨b, e', o, z, f⟩ := R.mu i d q
    rw [e] at e'; cases e'
    exact ⟨o.chg, z, .inl f⟩
  | no => rw [q] at m; cases m
  | fz d => rw [q] at m; cases m
  | lent d => rw [q] at m; cases m
theorem Chg.here {x : Option HO} (h : Chg x) : x ≠ none := by
  intro e; subst e; exact h

/-- what may have happened -/
structure Step (Z : Addr → Prop) (H : Hp) (σ : L2.St) (ρ : Rho) (Z' : Addr → Prop) (H' : Hp) (σ' : L2.St) (ρ' : Rho) : Prop where
  keep : ∀ a o, H a = some o → ¬ Mine ρ σ a → H' a = some o
  zin : ∀ a, Z a → Z' a
  znew : ∀ a, Z' a → Z a ∨ H a = none ∨ Mine ρ σ a
  mine : ∀ a, Mine ρ' σ' a → Mine ρ σ a ∨ H a = none
  lent : ∀ i d, gt ρ' i = .lent d → gt ρ i = .lent d ∧ σ'[i]? = σ[i]?
  mus : ∀ i d, gt ρ' i = .mu d → (∃ e, gt ρ i = .mu e) ∧ σ'[i]? = σ[i]?
  there : ∀ a, H a ≠ none → H' a ≠ none
theorem Step.refl : Step Z H σ ρ Z H σ ρ := ⟨fun _ _ e _ => e, fun _ z => z, fun _ z => .inl z, fun _ z => .inl z, fun _ _ e => ⟨e, rfl⟩, fun _ _ e => ⟨⟨_, e⟩, rfl⟩, fun _ h => h⟩
theorem Step.trans (a : Step Z H σ ρ Z1 H1 σ1 ρ1) (b : Step Z1 H1 σ1 ρ1 Z2 H2 σ2 ρ2) : Step Z H σ ρ Z2 H2 σ2 ρ2 where
  keep := fun x o e n => b.keep x o (a.keep x o e n) fun m => by
    rcases a.mine x m with h | h
    · exact n h
    · rw [e] at h; cases h
  zin := fun x z => b.zin x (a.zin x z)
  znew := fun x z => by
    have back : H1 x = none → H x = none := fun h => Classical.byContradiction fun q => a.there x q h
    rcases b.znew x z with h | h | h
    · exact a.znew x h
    · exact .inr (.inl (back h))
    · rcases a.mine x h with h | h
      · exact .inr (.inr h)
      · exact .inr (.inl h)
  mine := fun x m => by
    rcases b.mine x m with h | h
    · exact a.mine x h
    · exact .inr (Classical.byContradiction fun q => a.there x q h)
  lent := fun i d e => by
    obtain ⟨e1, e2⟩ := b.lent i d e
    obtain ⟨e3, e4⟩ := a.lent i d e1
    exact ⟨e3, e2.trans e4⟩
  mus := fun i d e => by
    obtain ⟨⟨d1, e1⟩, e2⟩ := b.mus i d e
    obtain ⟨e3, e4⟩ := a.mus i d1 e1
    exact ⟨e3, e2.trans e4⟩
  there := fun x h => b.there x (a.there x h)
theorem Step.un (s : Step Z H σ ρ Z' H' σ' ρ') (R : Rel K g Z σ H ρ) {u : HO} (h : H a = some u) (c : ¬ Chg (some u)) : H' a = some u := s.keep _ _ h fun m => c (by have := (R.mineChg m).1; rw [h] at this; exact this)
theorem Step.zk (s : Step Z H σ ρ Z' H' σ' ρ') (R : Rel K g Z σ H ρ) {u : HO} (z : Z a) (h : H a = some u) : H' a = some u := s.keep _ _ h fun m => (R.mineChg m).2.1 z
theorem Step.mv (s : Step Z H σ ρ Z' H' σ' ρ') (R : Rel K g Z σ H ρ) : Mv K Z Z' H H' where
  z := s.zin
  r := fun a u z h => by
    rcases h with h | ⟨o, h⟩
    · exact .inl (s.zk R z h)
    · exact .inr ⟨o, s.zk R z h⟩
  l := fun a u z h => s.zk R z h
  t := fun a xs h => s.un R h fun z => z
  f := fun a xs h => by
    rcases h with ⟨o, h⟩ | h
    · exact .inl ⟨o, s.un R h fun z => z⟩
    · exact .inr h
theorem Step.rep (s : Step Z H σ ρ Z' H' σ' ρ') (R : Rel K g Z σ H ρ) (h : Rep K Z H v d) : Rep K Z' H' v d := h.mono (s.mv R)
theorem Step.reps (s : Step Z H σ ρ Z' H' σ' ρ') (R : Rel K g Z σ H ρ) {vs : List V} {ds : List D} (h : Reps K Z H vs ds) : Reps K Z' H' vs ds := h.mono (s.mv R)

theorem Rel.fresh (R : Rel K g Z σ H ρ) (n : H a = none) : ¬ Z a ∧ ¬ Used ρ σ a ∧ g.H0 a = none := by
  refine ⟨fun z => R.ztr a z n, fun u => ?_, ?_⟩
  · obtain ⟨i, u, e⟩ := u
    cases q : gt ρ i with
    | own d =>
      obtain ⟨b, x, o, _⟩ := R.own i d q
      rw [e] at x; cases x
      exact o.here n
    | mu d =>
      obtain ⟨b, x, o, _⟩ := R.mu i d q
      rw [e] at x; cases x
      exact o.here n
    | lent d =>
      obtain ⟨b, x, o, t⟩ := R.lent i d q
      rw [e] at x; cases x
      have rn : ∀ u, ¬ Rd H a u := fun u r => by
        rcases r with r | ⟨_, r⟩ <;> (rw [n] at r; cases r)
      match d, o, t with
      | .lst ds, ⟨b, xs, e1, r, _⟩, _ => cases e1; exact rn _ (.inl r)
      | .dct false l, ⟨b, xs, e1, r, _⟩, _ => cases e1; exact rn _ r
      | .dct true l, ⟨b, xs, e1, r, _⟩, _ => cases e1; exact rn _ r
    | no => rw [q] at u; cases u
    | fz d => rw [q] at u; cases u
  · cases x : g.H0 a with
    | none => rfl
    | some o =>
      by_cases m : g.M0 a
      · exact absurd n (R.mh a m)
      · rw [R.frame a o x m] at n; cases n

/-- the heap has grown alone -/
def Ext (H H' : Hp) : Prop := ∀ a o, H a = some o → H' a = some o
theorem Ext.refl : Ext H H := fun _ _ h => h
theorem Ext.trans (a : Ext H H1) (b : Ext H1 H2) : Ext H H2 := fun x o h => b x o (a x o h)
theorem Ext.new {o : HO} (h : H a = none) : Ext H (upd H a o) := fun b u e => by rw [upd_ne (ne_of_none e h)]; exact e
theorem Ext.rd (e : Ext H H') {u : HO} (h : Rd H a u) : Rd H' a u := by
  rcases h with h | ⟨o, h⟩
  · exact .inl (e _ _ h)
  · exact .inr ⟨o, e _ _ h⟩
theorem Ext.sqt (e : Ext H H') {xs : List V} (h : SqT K H a xs) : SqT K H' a xs := by
  rcases h with h | h
  · exact .inl (e.rd h)
  · exact .inr h
theorem Ext.mv (e : Ext H H') : Mv K Z Z H H' := ⟨fun _ z => z, fun _ _ _ h => e.rd h, fun _ _ _ h => e _ _ h, fun _ _ h => e _ _ h, fun a xs h => by
  rcases h with ⟨o, h⟩ | h
  · exact .inl ⟨o, e _ _ h⟩
  · exact .inr h⟩
theorem Ext.rep (e : Ext H H') (h : Rep K Z H v d) : Rep K Z H' v d := h.mono e.mv
theorem Ext.reps (e : Ext H H') {vs : List V} {ds : List D} (h : Reps K Z H vs ds) : Reps K Z H' vs ds := h.mono e.mv
theorem Ext.own (e : Ext H H') (h : OwnAt K Z H a d) : OwnAt K Z H' a d := h.mono e.mv (fun _ q => e _ _ q)
theorem Ext.lent (e : Ext H H') (h : LentAt K Z H v d) : LentAt K Z H' v d := h.mono e.mv (fun _ _ _ q => e.rd q) (fun _ _ _ q => e _ _ q)
theorem Ext.step (e : Ext H H') : Step Z H σ ρ Z H' σ ρ := ⟨fun a o h _ => e a o h, fun _ z => z, fun _ z => .inl z, fun _ z => .inl z, fun _ _ h => ⟨h, rfl⟩, fun _ _ h => ⟨⟨_, h⟩, rfl⟩, fun a h q => by
  cases x : H a with
  | none => exact h x
  | some o => rw [e a o x] at q; cases q⟩
theorem Ext.rel (e : Ext H H') (R : Rel K g Z σ H ρ) : Rel K g Z σ H' ρ where
  len := R.len
  fz := fun i d q => let ⟨v, a, b⟩ := R.fz i d q; ⟨v, a, e.rep b⟩
  own := fun i d q => let ⟨v, a, b, c⟩ := R.own i d q; ⟨v, a, e.own b, c⟩
  mu := fun i d q => let ⟨v, a, b, c⟩ := R.mu i d q; ⟨v, a, e.own b, c⟩
  lent := fun i d q => let ⟨v, a, b, c⟩ := R.lent i d q; ⟨v, a, e.lent b, c⟩
  uniq := R.uniq
  frame := fun a o h m => e _ _ (R.frame a o h m)
  zfr := R.zfr
  ztr := fun a z q => by
    cases x : H a with
    | none => exact R.ztr a z x
    | some o => rw [e a o x] at q; cases q
  mz := R.mz
  mt := R.mt
  mh := fun a m q => by
    cases x : H a with
    | none => exact R.mh a m x
    | some o => rw [e a o x] at q; cases q

/-! ### a temporary -/
/-- H: the heap ahead of the expression; H', .. behind it -/
def TOk (K : PySem.W.Frag) (g : G) (H : Hp) (Z' : Addr → Prop) (σ : L2.St) (H' : Hp) (ρ' : Rho) (v : V) : T → Prop
  | .val d => Rep K Z' H' v d
  | .tmp d => ∃ a, v = .ref a ∧ OwnAt K Z' H' a d ∧ ¬ Z' a ∧ H a = none ∧ ¬ Used ρ' σ a ∧ g.H0 a = none
  | .bor i => σ[i]? = some (some v)
theorem Step.used (s : Step Z H σ ρ Z' H' σ ρ') (h : Used ρ' σ a) : Used ρ σ a ∨ H a = none := by
  obtain ⟨i, u, e⟩ := h
  cases q : gt ρ' i with
  | lent d => exact .inl ⟨i, by rw [(s.lent i d q).1]; rfl, e⟩
  | own d =>
    rcases s.mine a ⟨i, by rw [q]; rfl, e⟩ with h | h
    · exact .inl h.used
    · exact .inr h
  | mu d =>
    rcases s.mine a ⟨i, by rw [q]; rfl, e⟩ with h | h
    · exact .inl h.used
    · exact .inr h
  | no => rw [q] at u; cases u
  | fz d => rw [q] at u; cases u
theorem TOk.move (s : Step Z1 H1 σ ρ1 Z2 H2 σ ρ2) (R : Rel K g Z1 σ H1 ρ1) (h : TOk K g H Z1 σ H1 ρ1 v t) : TOk K g H Z2 σ H2 ρ2 v t := by
  cases t with
  | val d => exact s.rep R h
  | tmp d =>
    obtain ⟨a, e, o, z, n, u, f⟩ := h
    have nm : ¬ Mine ρ1 σ a := fun m => u m.used
    have ts : H1 a ≠ none := o.here
    refine ⟨a, e, o.mono (s.mv R) (fun u q => s.keep _ _ q nm), fun q => ?_, n, fun q => ?_, f⟩
    · rcases s.znew a q with h | h | h
      · exact z h
      · exact ts h
      · exact nm h
    · rcases s.used q with h | h
      · exact u h
      · exact ts h
  | bor i => exact h
/-- what a temporary reads as -/
theorem TOk.read (R : Rel K g Z' σ H' ρ') (h : TOk K g H Z' σ H' ρ' v t) (e : rd ρ' t = some d) : LentAt K Z' H' v d := by
  cases t with
  | val d' => cases e; exact Rep.lent h
  | tmp d' =>
    cases e
    obtain ⟨a, rfl, o, _⟩ := h
    exact o.lent
  | bor i =>
    have h1 : σ[i]? = some (some v) := h
    have e : (gt ρ' i).dat = some d := e
    cases q : gt ρ' i with
    | own d' =>
      rw [q] at e; cases e
      obtain ⟨a, h, o, _⟩ := R.own i _ q
      rw [h1] at h; cases h
      exact o.lent
    | mu d' =>
      rw [q] at e; cases e
      obtain ⟨a, h, o, _⟩ := R.mu i _ q
      rw [h1] at h; cases h
      exact o.lent
    | lent d' =>
      rw [q] at e; cases e
      obtain ⟨a, h, o, _⟩ := R.lent i _ q
      rw [h1] at h; cases h
      exact o
    | no => rw [q] at e; cases e
    | fz d' =>
      rw [q] at e; cases e
      obtain ⟨a, h, o⟩ := R.fz i _ q
      rw [h1] at h; cases h
      exact o.lent
end
end VS
namespace VS
open PySem PySem.Spec PyProof.Rows L2

abbrev WE := Rho → (T → Rho → Prop) → Prop
abbrev WT := Rho → (Bool → Rho → Prop) → Prop
abbrev WA := Rho → (List T → Rho → Prop) → Prop
structure WEnds where
  nx : Rho → Prop
  rt : T → Rho → Prop
  bk : Rho → Prop
  ct : Rho → Prop
abbrev WS := WEnds → Rho → Prop

def isTmp : T → Bool
  | .tmp _ => true
  | _ => false
inductive TsOk (K : PySem.W.Frag) (g : G) (H : Hp) (Z' : Addr → Prop) (σ : L2.St) (H' : Hp) (ρ' : Rho) : List V → List T → Prop
  | nil : TsOk K g H Z' σ H' ρ' [] []
  | cons {v : V} {vs : List V} {t : T} {ts : List T} : TOk K g H Z' σ H' ρ' v t → TsOk K g H Z' σ H' ρ' vs ts → (isTmp t = true → ∀ (i : Nat) (u : T), ts[i]? = some u → isTmp u = true → vs[i]? ≠ some v) → TsOk K g H Z' σ H' ρ' (v :: vs) (t :: ts)

def liftE (K : PySem.W.Frag) (g : G) (w : WE) : TE := fun σ H Q => ∃ Z ρ P, Rel K g Z σ H ρ ∧ w ρ P ∧ ∀ t v Z' H' ρ', Rel K g Z' σ H' ρ' → Step Z H σ ρ Z' H' σ ρ' → TOk K g H Z' σ H' ρ' v t → P t ρ' → Q v H'
def liftT (K : PySem.W.Frag) (g : G) (w : WT) : TT := fun σ H Q => ∃ Z ρ P, Rel K g Z σ H ρ ∧ w ρ P ∧ ∀ b Z' H' ρ', Rel K g Z' σ H' ρ' → Step Z H σ ρ Z' H' σ ρ' → P b ρ' → Q b H'
def liftA (K : PySem.W.Frag) (g : G) (w : WA) : TA := fun σ H Q => ∃ Z ρ P, Rel K g Z σ H ρ ∧ w ρ P ∧ ∀ ts vs Z' H' ρ', Rel K g Z' σ H' ρ' → Step Z H σ ρ Z' H' σ ρ' → TsOk K g H Z' σ H' ρ' vs ts → P ts ρ' → Q vs H'
def liftS (K : PySem.W.Frag) (g : G) (w : WS) : TS := fun D σ H => ∃ Z ρ P, Rel K g Z σ H ρ ∧ w P ρ ∧
  (∀ Z' σ' H' ρ', Rel K g Z' σ' H' ρ' → Step Z H σ ρ Z' H' σ' ρ' → P.nx ρ' → D.nx σ' H') ∧
  (∀ t v Z' σ' H' ρ' Hs, Rel K g Z' σ' H' ρ' → Step Z H σ ρ Z' H' σ' ρ' → TOk K g Hs Z' σ' H' ρ' v t → P.rt t ρ' → D.rt v H') ∧
  (∀ Z' σ' H' ρ', Rel K g Z' σ' H' ρ' → Step Z H σ ρ Z' H' σ' ρ' → P.bk ρ' → D.bk σ' H') ∧
  (∀ Z' σ' H' ρ', Rel K g Z' σ' H' ρ' → Step Z H σ ρ Z' H' σ' ρ' → P.ct ρ' → D.ct σ' H')
structure DE (X : Cx) (g : G) (e : Expr) (w : WE) : Prop where
  pe : PE X e (liftE X.K g w)
structure DT (X : Cx) (g : G) (e : Expr) (w : WT) : Prop where
  pt : PT X e (liftT X.K g w)
structure DW (X : Cx) (g : G) (e : Expr) (w : WT) : Prop where
  pw : PW X e (liftT X.K g w)
structure DA (X : Cx) (g : G) (es : List Expr) (w : WA) : Prop where
  pa : PA X es (liftA X.K g w)
structure DS (X : Cx) (g : G) (s : Stmt) (w : WS) : Prop where
  ps : PS X s (liftS X.K g w)
structure DSs (X : Cx) (g : G) (s : List Stmt) (w : WS) : Prop where
  ps : PSs X s (liftS X.K g w)

theorem _root_.L2.PE.imp {X : Cx} {e : Expr} {t t' : TE} (h : PE X e t) (m : ∀ σ H Q, t' σ H Q → t σ H Q) : PE X e t' := ⟨fun pins s σ H Q I q => h.run pins s σ H Q I (m σ H Q q)⟩
theorem _root_.L2.PT.imp {X : Cx} {e : Expr} {t t' : TT} (h : PT X e t) (m : ∀ σ H Q, t' σ H Q → t σ H Q) : PT X e t' := ⟨fun pins s σ H Q I q => h.run pins s σ H Q I (m σ H Q q)⟩
theorem _root_.L2.PW.imp {X : Cx} {e : Expr} {t t' : TT} (h : PW X e t) (m : ∀ σ H Q, t' σ H Q → t σ H Q) : PW X e t' := ⟨fun wh pins s σ H Q I q => h.run wh pins s σ H Q I (m σ H Q q)⟩
theorem _root_.L2.PA.imp {X : Cx} {e : List Expr} {t t' : TA} (h : PA X e t) (m : ∀ σ H Q, t' σ H Q → t σ H Q) : PA X e t' := ⟨fun pos pins s σ H Q I q => h.run pos pins s σ H Q I (m σ H Q q)⟩
theorem _root_.L2.PS.imp {X : Cx} {e : Stmt} {t t' : TS} (h : PS X e t) (m : ∀ D σ H, t' D σ H → t D σ H) : PS X e t' := ⟨fun pins s σ H Q I q => h.run pins s σ H Q I (m Q σ H q)⟩
theorem _root_.L2.PSs.imp {X : Cx} {e : List Stmt} {t t' : TS} (h : PSs X e t) (m : ∀ D σ H, t' D σ H → t D σ H) : PSs X e t' := ⟨fun pins s σ H Q I q => h.run pins s σ H Q I (m Q σ H q)⟩

section
variable {K : PySem.W.Frag} {g : G} {Z Z' Z1 Z2 : Addr → Prop} {σ σ' σ1 σ2 : L2.St} {H H' H1 H2 Hs : Hp} {ρ ρ' ρ1 ρ2 : Rho} {a : Addr} {v : V} {vs : List V} {d : D} {t : T} {ts : List T}
/-- an earlier heap -/
theorem TOk.since (h : TOk K g H1 Z σ H' ρ v t) (hb : ∀ a, H a ≠ none → H1 a ≠ none) : TOk K g H Z σ H' ρ v t := by
  cases t with
  | val d => exact h
  | tmp d =>
    obtain ⟨a, e, o, z, n, u, f⟩ := h
    exact ⟨a, e, o, z, Classical.byContradiction fun q => hb a q n, u, f⟩
  | bor i => exact h
theorem TsOk.since (h : TsOk K g H1 Z σ H' ρ vs ts) (hb : ∀ a, H a ≠ none → H1 a ≠ none) : TsOk K g H Z σ H' ρ vs ts := by
  induction h with
  | nil => exact .nil
  | cons h _ d ih => exact .cons (h.since hb) ih d
theorem TsOk.move (s : Step Z1 H1 σ ρ1 Z2 H2 σ ρ2) (R : Rel K g Z1 σ H1 ρ1) (h : TsOk K g H Z1 σ H1 ρ1 vs ts) : TsOk K g H Z2 σ H2 ρ2 vs ts := by
  induction h with
  | nil => exact .nil
  | cons h _ d ih => exact .cons (h.move s R) ih d
theorem TsOk.length (h : TsOk K g H Z σ H' ρ vs ts) : vs.length = ts.length := by
  induction h with
  | nil => rfl
  | cons _ _ _ ih => simp [ih]

/-! ### giving away -/
def cap : T → Rho → (D → Rho → Prop) → Prop
  | .val d, ρ, Q => Q d ρ
  | .tmp d, ρ, Q => Q d ρ
  | .bor i, ρ, Q => match gt ρ i with
    | .own d => Q d (st ρ i (.fz d))
    | .fz d => Q d ρ
    | _ => False
def capAll : List T → Rho → (List D → Rho → Prop) → Prop
  | [], ρ, Q => Q [] ρ
  | t :: ts, ρ, Q => cap t ρ fun d ρ1 => capAll ts ρ1 fun ds ρ2 => Q (d :: ds) ρ2

theorem gt_st {i j : Nat} {y : Sl} : gt (st ρ i y) j = if i = j ∧ i < ρ.length then y else gt ρ j := by
  by_cases e : i = j
  · subst e
    by_cases h : i < ρ.length
    · rw [gt_st_same h, if_pos ⟨rfl, h⟩]
    · rw [if_neg (fun q => h q.2)]
      have e1 : gt (st ρ i y) i = .no := by
        apply Classical.byContradiction
        intro q
        have := gt_len q
        rw [st_length] at this
        exact h this
      have e2 : gt ρ i = .no := by
        apply Classical.byContradiction
        intro q
        exact h (gt_len q)
      rw [e1, e2]
  · rw [gt_st_ne e, if_neg (fun q => e q.1)]

/-- one more address is frozen: it is a temporary's -/
theorem Rel.freezeTmp (R : Rel K g Z σ H ρ) (o : OwnAt K Z H a d) (u : ¬ Used ρ σ a) (f : g.H0 a = none) : Rel K g (fun b => Z b ∨ b = a) σ H ρ where
  len := R.len
  fz := fun i d q => let ⟨v, x, y⟩ := R.fz i d q; ⟨v, x, y.mono (.ghost fun _ z => .inl z)⟩
  own := fun i d q => by
    obtain ⟨b, x, y, z, w⟩ := R.own i d q
    refine ⟨b, x, y.mono (.ghost fun _ z => .inl z) (fun _ h => h), ?_, w⟩
    rintro (h | h)
    · exact z h
    · exact u ⟨i, by rw [q]; rfl, by rw [← h]; exact x⟩
  mu := fun i d q => by
    obtain ⟨b, x, y, z, w⟩ := R.mu i d q
    refine ⟨b, x, y.mono (.ghost fun _ z => .inl z) (fun _ h => h), ?_, w⟩
    rintro (h | h)
    · exact z h
    · exact u ⟨i, by rw [q]; rfl, by rw [← h]; exact x⟩
  lent := fun i d q => let ⟨v, x, y, t⟩ := R.lent i d q; ⟨v, x, y.mono (.ghost fun _ z => .inl z) (fun _ _ _ h => h) (fun _ _ _ h => h), t⟩
  uniq := R.uniq
  frame := R.frame
  zfr := fun b h => by
    rcases h with h | h
    · exact R.zfr b h
    · rw [h]; exact .inr f
  ztr := fun b h => by
    rcases h with h | h
    · exact R.ztr b h
    · rw [h]; exact o.here
  mz := fun b m h => by
    rcases h with h | h
    · exact R.mz b m h
    · rw [h] at m; exact R.mt a m f
  mt := R.mt
  mh := R.mh
/-- an own slot is frozen -/
theorem Rel.freezeSlot {i : Nat} (R : Rel K g Z σ H ρ) (q : gt ρ i = .own d) (e : σ[i]? = some (some (.ref a))) : Rel K g (fun b => Z b ∨ b = a) σ H (st ρ i (.fz d)) := by
  obtain ⟨a', e', o, z, f⟩ := R.own i d q
  rw [e] at e'; cases e'
  have hi : i < ρ.length := gt_len (by rw [q]; exact fun h => nomatch h)
  have other : ∀ j, j ≠ i → gt (st ρ i (.fz d)) j = gt ρ j := fun j h => gt_st_ne (Ne.symm h)
  have self : gt (st ρ i (.fz d)) i = .fz d := gt_st_same hi
  have mono : ∀ {v d}, Rep K Z H v d → Rep K (fun b => Z b ∨ b = a) H v d := fun h => h.mono (.ghost fun _ z => .inl z)
  have monoO : ∀ {v d}, OwnAt K Z H v d → OwnAt K (fun b => Z b ∨ b = a) H v d := fun h => h.mono (.ghost fun _ z => .inl z) (fun _ h => h)
  have apart : ∀ j b, j ≠ i → (gt ρ j).used = true → σ[j]? = some (some (.ref b)) → b ≠ a := fun j b h u x y => by
    subst y
    exact h (R.uniq i j b (by rw [q]; rfl) u e x).symm
  exact {
    len := by rw [st_length]; exact R.len
    fz := fun j d' h => by
      by_cases hj : j = i
      · subst hj
        rw [self] at h; cases h
        exact ⟨_, e, (monoO o).freeze (.inr rfl)⟩
      · rw [other j hj] at h
        obtain ⟨v, x, y⟩ := R.fz j d' h
        exact ⟨v, x, mono y⟩
    own := fun j d' h => by
      by_cases hj : j = i
      · subst hj
        rw [self] at h; cases h
      · rw [other j hj] at h
        obtain ⟨b, x, y, z', w⟩ := R.own j d' h
        refine ⟨b, x, monoO y, ?_, w⟩
        rintro (k | k)
        · exact z' k
        · exact apart j b hj (by rw [h]; rfl) x k
    mu := fun j d' h => by
      by_cases hj : j = i
      · subst hj
        rw [self] at h; cases h
      · rw [other j hj] at h
        obtain ⟨b, x, y, z', w⟩ := R.mu j d' h
        refine ⟨b, x, monoO y, ?_, w⟩
        rintro (k | k)
        · exact z' k
        · exact apart j b hj (by rw [h]; rfl) x k
    lent := fun j d' h => by
      by_cases hj : j = i
      · subst hj
        rw [self] at h; cases h
      · rw [other j hj] at h
        obtain ⟨v, x, y, t⟩ := R.lent j d' h
        exact ⟨v, x, y.mono (.ghost fun _ z => .inl z) (fun _ _ _ h => h) (fun _ _ _ h => h), t⟩
    uniq := fun j k b m u x y => by
      by_cases hj : j = i
      · subst hj
        rw [self] at m; cases m
      · by_cases hk : k = i
        · subst hk
          rw [self] at u; cases u
        · rw [other j hj] at m
          rw [other k hk] at u
          exact R.uniq j k b m u x y
    frame := R.frame
    zfr := fun b h => by
      rcases h with h | h
      · exact R.zfr b h
      · rw [h]; exact .inr f
    ztr := fun b h => by
      rcases h with h | h
      · exact R.ztr b h
      · rw [h]; exact o.here
    mz := fun b m h => by
      rcases h with h | h
      · exact R.mz b m h
      · rw [h] at m; exact R.mt a m f
    mt := R.mt
    mh := R.mh }
/-- fewer slots are used -/
theorem used_st_fz {i : Nat} (h : Used (st ρ i (.fz d)) σ a) : Used ρ σ a := by
  obtain ⟨j, u, e⟩ := h
  rw [gt_st] at u
  split at u
  · cases u
  · exact ⟨j, u, e⟩
theorem mine_st_fz {i : Nat} (h : Mine (st ρ i (.fz d)) σ a) : Mine ρ σ a := by
  obtain ⟨j, u, e⟩ := h
  rw [gt_st] at u
  split at u
  · cases u
  · exact ⟨j, u, e⟩

/-- THE RULE of giving away: s: from the start of the whole expression; the other temporaries stay -/
theorem cap_ok {P : D → Rho → Prop} (R : Rel K g Z σ H ρ) (s : Step Z1 Hs σ ρ1 Z H σ ρ) (h : TOk K g Hs Z σ H ρ v t) (q : cap t ρ P) :
    ∃ d Z' ρ', P d ρ' ∧ Rel K g Z' σ H ρ' ∧ Step Z1 Hs σ ρ1 Z' H σ ρ' ∧ Rep K Z' H v d ∧ (∀ a, Z a → Z' a) ∧
      ∀ vs ts, TsOk K g Hs Z σ H ρ vs ts → (isTmp t = true → ∀ (i : Nat) (u : T), ts[i]? = some u → isTmp u = true → vs[i]? ≠ some v) → TsOk K g Hs Z' σ H ρ' vs ts := by
  cases t with
  | val d => exact ⟨d, Z, ρ, q, R, s, h, fun _ z => z, fun _ _ h _ => h⟩
  | tmp d =>
    obtain ⟨a, rfl, o, z, n, u, f⟩ := h
    refine ⟨d, fun b => Z b ∨ b = a, ρ, q, R.freezeTmp o u f, ⟨s.keep, fun b z => .inl (s.zin b z), fun b z => ?_, s.mine, s.lent, s.mus, s.there⟩, (o.mono (.ghost fun _ z => .inl z) (fun _ h => h)).freeze (.inr rfl), fun _ z => .inl z, fun vs ts h dis => ?_⟩
    · rcases z with z | z
      · exact s.znew b z
      · rw [z]; exact .inr (.inl n)
    · clear q
      induction h with
      | nil => exact .nil
      | @cons v' vs' t' ts' h0 hr hd ih =>
        refine .cons ?_ (ih fun _ i u e1 e2 => by have := dis rfl (i + 1) u (by simpa using e1) e2; simpa using this) hd
        cases t' with
        | val d' => exact Rep.mono (.ghost fun _ z => .inl z) h0
        | tmp d' =>
          obtain ⟨b, e, o', z', n', u', f'⟩ := h0
          refine ⟨b, e, o'.mono (.ghost fun _ z => .inl z) (fun _ h => h), ?_, n', u', f'⟩
          rintro (k | k)
          · exact z' k
          · subst k
            exact dis rfl 0 (.tmp d') rfl rfl (by simpa using e)
        | bor i => exact h0
  | bor i =>
    have e : σ[i]? = some (some v) := h
    have q' : (match gt ρ i with
      | .own d => P d (st ρ i (.fz d))
      | .fz d => P d ρ
      | _ => False) := q
    cases c : gt ρ i with
    | own d =>
      rw [c] at q'
      obtain ⟨a, e', o, z, f⟩ := R.own i d c
      rw [e] at e'; cases e'
      refine ⟨d, fun b => Z b ∨ b = a, _, q', R.freezeSlot c e, ⟨s.keep, fun b z => .inl (s.zin b z), fun b z => ?_, fun b m => s.mine b (mine_st_fz m), fun j d' x => ?_, fun j d' x => ?_, s.there⟩, (o.mono (.ghost fun _ z => .inl z) (fun _ h => h)).freeze (.inr rfl), fun _ z => .inl z, fun vs ts h _ => ?_⟩
      · rcases z with z | z
        · exact s.znew b z
        · subst z
          rcases s.mine b ⟨i, by rw [c]; rfl, e⟩ with k | k
          · exact .inr (.inr k)
          · exact .inr (.inl k)
      · rw [gt_st] at x
        split at x
        · cases x
        · exact s.lent j d' x
      · rw [gt_st] at x
        split at x
        · cases x
        · exact s.mus j d' x
      · clear q
        induction h with
        | nil => exact .nil
        | @cons v' vs' t' ts' h0 hr hd ih =>
          refine .cons ?_ (ih fun z => nomatch z) hd
          cases t' with
          | val d' => exact Rep.mono (.ghost fun _ z => .inl z) h0
          | tmp d' =>
            obtain ⟨b, e2, o', z', n', u', f'⟩ := h0
            refine ⟨b, e2, o'.mono (.ghost fun _ z => .inl z) (fun _ h => h), ?_, n', fun k => u' (used_st_fz k), f'⟩
            rintro (k | k)
            · exact z' k
            · subst k
              exact u' ⟨i, by rw [c]; rfl, e⟩
          | bor i => exact h0
    | fz d =>
      rw [c] at q'
      obtain ⟨v', e', r⟩ := R.fz i d c
      rw [e] at e'; cases e'
      exact ⟨d, Z, ρ, q', R, s, r, fun _ z => z, fun _ _ h _ => h⟩
    | no => rw [c] at q'; exact q'.elim
    | mu d => rw [c] at q'; exact q'.elim
    | lent d => rw [c] at q'; exact q'.elim
theorem capAll_ok {P : List D → Rho → Prop} (R : Rel K g Z σ H ρ) (s : Step Z1 Hs σ ρ1 Z H σ ρ) (h : TsOk K g Hs Z σ H ρ vs ts) (q : capAll ts ρ P) :
    ∃ ds Z' ρ', P ds ρ' ∧ Rel K g Z' σ H ρ' ∧ Step Z1 Hs σ ρ1 Z' H σ ρ' ∧ Reps K Z' H vs ds ∧ (∀ a, Z a → Z' a) := by
  induction ts generalizing Z ρ vs P with
  | nil =>
    cases h
    exact ⟨[], Z, ρ, q, R, s, .nil, fun _ z => z⟩
  | cons t ts ih =>
    cases h with
    | cons h0 hr hd =>
      obtain ⟨d, Za, ρa, qa, Ra, sa, ra, za, mv⟩ := cap_ok R s h0 q
      obtain ⟨ds, Zb, ρb, qb, Rb, sb, rb, zb⟩ := ih Ra sa (mv _ _ hr hd) qa
      exact ⟨d :: ds, Zb, ρb, qb, Rb, sb, .cons (ra.mono (.ghost zb)) rb, fun a z => zb a (za a z)⟩
end

/-! ### reading lists of temporaries -/
def rds (ρ : Rho) : List T → Option (List D)
  | [] => some []
  | t :: ts => (rd ρ t).bind fun d => (rds ρ ts).bind fun ds => some (d :: ds)
inductive Lents (K : PySem.W.Frag) (Z : Addr → Prop) (H : Hp) : List V → List D → Prop
  | nil : Lents K Z H [] []
  | cons {v : V} {vs : List V} {d : D} {ds : List D} : LentAt K Z H v d → Lents K Z H vs ds → Lents K Z H (v :: vs) (d :: ds)
theorem TsOk.read {K : PySem.W.Frag} {g : G} {Z : Addr → Prop} {σ : L2.St} {H H' : Hp} {ρ : Rho} (R : Rel K g Z σ H' ρ) : ∀ {vs : List V} {ts : List T} {ds : List D}, TsOk K g H Z σ H' ρ vs ts → rds ρ ts = some ds → Lents K Z H' vs ds
  | _, _, _, .nil, e => by cases e; exact .nil
  | _, _, _, .cons h r _, e => by
    simp only [rds, Option.bind_eq_some_iff] at e
    obtain ⟨d, e1, ds', e2, e3⟩ := e
    cases e3
    exact .cons (h.read R e1) (TsOk.read R r e2)
end VS
namespace VS
open PySem PySem.Spec PyProof.Rows L2
section
variable {K : PySem.W.Frag} {g : G} {Z Z' Z1 Z2 : Addr → Prop} {σ σ' σ1 σ2 : L2.St} {H H' H1 H2 Hs : Hp} {ρ ρ' ρ1 ρ2 : Rho} {a : Addr} {v : V} {vs : List V} {d d' : D} {t : T} {ts : List T} {o : HO}

/-! ### an object is written that nobody holds on to -/
/-- the address may be written -/
def Loose (Z : Addr → Prop) (H : Hp) (a : Addr) : Prop := ¬ Z a ∧ (H a = none ∨ Chg (H a))
theorem Loose.ne (l : Loose Z H a) {b : Addr} {u : HO} (e : H b = some u) (c : ¬ Chg (some u)) : b ≠ a := fun q => by
  subst q
  rcases l.2 with k | k
  · rw [e] at k; cases k
  · rw [e] at k; exact c k
theorem Loose.mv (l : Loose Z H a) : Mv K Z Z H (upd H a o) where
  z := fun _ z => z
  r := fun b u z h => by
    have ne : b ≠ a := fun e => l.1 (e ▸ z)
    rcases h with h | ⟨x, h⟩
    · exact .inl (by rw [upd_ne ne]; exact h)
    · exact .inr ⟨x, by rw [upd_ne ne]; exact h⟩
  l := fun b u z h => by
    have ne : b ≠ a := fun e => l.1 (e ▸ z)
    rw [upd_ne ne]; exact h
  t := fun b xs h => by rw [upd_ne (l.ne h fun z => z)]; exact h
  f := fun b xs h => by
    rcases h with ⟨x, h⟩ | h
    · exact .inl ⟨x, by rw [upd_ne (l.ne h fun z => z)]; exact h⟩
    · exact .inr h
theorem Loose.rep (l : Loose Z H a) (h : Rep K Z H v d) : Rep K Z (upd H a o) v d := h.mono l.mv
theorem Loose.reps (l : Loose Z H a) {ds : List D} (h : Reps K Z H vs ds) : Reps K Z (upd H a o) vs ds := h.mono l.mv
theorem Loose.repk (l : Loose Z H a) {x : List (Key × V)} {y : List (D × D)} (h : RepK K Z H x y) : RepK K Z (upd H a o) x y := h.mono l.mv
theorem Loose.rept (l : Loose Z H a) {x : List (List Key × V)} {y : List (D × D)} (h : RepT K Z H x y) : RepT K Z (upd H a o) x y := h.mono l.mv
theorem Loose.own (l : Loose Z H a) {b : Addr} (ne : b ≠ a) (h : OwnAt K Z H b d) : OwnAt K Z (upd H a o) b d := h.mono l.mv (fun u e => by rw [upd_ne ne]; exact e)
theorem Loose.lent (l : Loose Z H a) (ne : v ≠ .ref a) (h : LentAt K Z H v d) : LentAt K Z (upd H a o) v d := h.mono l.mv (fun b u e q => by
    have nb : b ≠ a := fun z => ne (by rw [e, z])
    rcases q with q | ⟨x, q⟩
    · exact .inl (by rw [upd_ne nb]; exact q)
    · exact .inr ⟨x, by rw [upd_ne nb]; exact q⟩) fun b xs e q => by
    have nb : b ≠ a := fun z => ne (by rw [e, z])
    rw [upd_ne nb]; exact q
theorem Rel.loose (R : Rel K g Z σ H ρ) (z : ¬ Z a) (c : H a = none ∨ Chg (H a)) (u : ¬ Used ρ σ a) (f : g.H0 a = none) : Rel K g Z σ (upd H a o) ρ where
  len := R.len
  fz := fun i d q => let ⟨v, x, y⟩ := R.fz i d q; ⟨v, x, Loose.rep ⟨z, c⟩ y⟩
  own := fun i d q => let ⟨b, x, y, w⟩ := R.own i d q; ⟨b, x, Loose.own ⟨z, c⟩ (fun e => u ⟨i, by rw [q]; rfl, by rw [← e]; exact x⟩) y, w⟩
  mu := fun i d q => let ⟨b, x, y, w⟩ := R.mu i d q; ⟨b, x, Loose.own ⟨z, c⟩ (fun e => u ⟨i, by rw [q]; rfl, by rw [← e]; exact x⟩) y, w⟩
  lent := fun i d q => let ⟨v, x, y, t⟩ := R.lent i d q; ⟨v, x, Loose.lent ⟨z, c⟩ (fun e => u ⟨i, by rw [q]; rfl, by rw [← e]; exact x⟩) y, t⟩
  uniq := R.uniq
  frame := fun b u e m => by rw [upd_ne (fun q => by rw [q] at e; rw [f] at e; cases e)]; exact R.frame b u e m
  zfr := R.zfr
  ztr := fun b q => by rw [upd_ne (fun e => z (by rw [← e]; exact q))]; exact R.ztr b q
  mz := R.mz
  mt := R.mt
  mh := fun b m => by
    by_cases k : b = a
    · subst k; rw [upd_same]; simp
    · rw [upd_ne k]; exact R.mh b m
/-- a slot's own object is written -/
theorem Rel.write {i : Nat} {y : Sl} (R : Rel K g Z σ H ρ) (m : (gt ρ i).mine = true) (e : σ[i]? = some (some (.ref a))) (hn : OwnAt K Z (upd H a o) a d') (hy : y = (match gt ρ i with | .mu _ => .mu d' | _ => .own d')) :
    Rel K g Z σ (upd H a o) (st ρ i y) := by
  obtain ⟨ch, z, f⟩ := R.mineChg ⟨i, m, e⟩
  have l : Loose Z H a := ⟨z, .inr ch⟩
  have hi : i < ρ.length := gt_len (fun h => by rw [h] at m; cases m)
  have other : ∀ j, j ≠ i → gt (st ρ i y) j = gt ρ j := fun j h => gt_st_ne (Ne.symm h)
  have self : gt (st ρ i y) i = y := gt_st_same hi
  have ym : y.mine = true := by
    subst hy
    cases c : gt ρ i <;> rw [c] at m <;> first | rfl | cases m
  have apart : ∀ j b, j ≠ i → (gt ρ j).used = true → σ[j]? = some (some (.ref b)) → b ≠ a := fun j b h u x q => by
    subst q
    exact h (R.uniq i j b m u e x).symm
  have yu : ∀ s : Sl, s.mine = true → s.used = true := fun s h => by cases s <;> first | rfl | cases h
  exact {
    len := by rw [st_length]; exact R.len
    fz := fun j d2 h => by
      by_cases hj : j = i
      · subst hj
        rw [self] at h
        rw [h] at ym; cases ym
      · rw [other j hj] at h
        obtain ⟨v, x, w⟩ := R.fz j d2 h
        exact ⟨v, x, l.rep w⟩
    own := fun j d2 h => by
      by_cases hj : j = i
      · subst hj
        rw [self] at h
        rw [h] at hy
        cases c : gt ρ j with
        | own d0 =>
          rw [c] at hy; cases hy
          obtain ⟨b, x, _, _, w⟩ := R.own j d0 c
          rw [e] at x; cases x
          exact ⟨_, e, hn, z, w⟩
        | mu d0 => rw [c] at hy; cases hy
        | no => rw [c] at m; cases m
        | fz d0 => rw [c] at m; cases m
        | lent d0 => rw [c] at m; cases m
      · rw [other j hj] at h
        obtain ⟨b, x, w, r⟩ := R.own j d2 h
        exact ⟨b, x, l.own (apart j b hj (by rw [h]; rfl) x) w, r⟩
    mu := fun j d2 h => by
      by_cases hj : j = i
      · subst hj
        rw [self] at h
        rw [h] at hy
        cases c : gt ρ j with
        | mu d0 =>
          rw [c] at hy; cases hy
          obtain ⟨b, x, _, _, w⟩ := R.mu j d0 c
          rw [e] at x; cases x
          exact ⟨_, e, hn, z, w⟩
        | own d0 => rw [c] at hy; cases hy
        | no => rw [c] at m; cases m
        | fz d0 => rw [c] at m; cases m
        | lent d0 => rw [c] at m; cases m
      · rw [other j hj] at h
        obtain ⟨b, x, w, r⟩ := R.mu j d2 h
        exact ⟨b, x, l.own (apart j b hj (by rw [h]; rfl) x) w, r⟩
    lent := fun j d2 h => by
      by_cases hj : j = i
      · subst hj
        rw [self] at h
        rw [h] at ym; cases ym
      · rw [other j hj] at h
        obtain ⟨v, x, w, t⟩ := R.lent j d2 h
        exact ⟨v, x, l.lent (fun q => by rw [q] at x; exact apart j a hj (by rw [h]; rfl) x rfl) w, t⟩
    uniq := fun j k b mj uk x w => by
      have mj' : (gt ρ j).mine = true := by
        by_cases hj : j = i
        · rw [hj]; exact m
        · rw [other j hj] at mj; exact mj
      have uk' : (gt ρ k).used = true := by
        by_cases hk : k = i
        · rw [hk]; exact yu _ m
        · rw [other k hk] at uk; exact uk
      exact R.uniq j k b mj' uk' x w
    frame := fun b u q nm => by
      have ne : b ≠ a := fun k => by
        subst k
        rcases f with f | f
        · exact nm f
        · rw [q] at f; cases f
      rw [upd_ne ne]
      exact R.frame b u q nm
    zfr := R.zfr
    ztr := fun b q => by rw [upd_ne (fun k => z (by rw [← k]; exact q))]; exact R.ztr b q
    mz := R.mz
    mt := R.mt
    mh := fun b m => by
      by_cases k : b = a
      · subst k; rw [upd_same]; simp
      · rw [upd_ne k]; exact R.mh b m }
theorem mine_st_mine {i : Nat} {y : Sl} (m : (gt ρ i).mine = true) (h : Mine (st ρ i y) σ a) : Mine ρ σ a := by
  obtain ⟨j, u, e⟩ := h
  rw [gt_st] at u
  split at u
  · rename_i k
    rw [← k.1] at e
    exact ⟨i, m, e⟩
  · exact ⟨j, u, e⟩
/-- .. as a step from an earlier state -/
theorem Step.write {i : Nat} {y : Sl} (s : Step Z1 H1 σ ρ1 Z H σ ρ) (m : (gt ρ i).mine = true) (hy : y.mine = true) (e : σ[i]? = some (some (.ref a))) (hq : ∀ d, y = .mu d → ∃ d0, gt ρ i = .mu d0) : Step Z1 H1 σ ρ1 Z (upd H a o) σ (st ρ i y) :=
  have hk : ∀ j d, i = j → y = .mu d → (∃ e, gt ρ1 j = .mu e) ∧ σ[j]? = σ[j]? := fun j d e1 e2 => by
    subst e1
    obtain ⟨d0, q⟩ := hq d e2
    exact ⟨(s.mus i d0 q).1, rfl⟩
  {
    keep := fun b u q n => by
      have ne : b ≠ a := fun k => by
        subst k
        rcases s.mine b ⟨i, m, e⟩ with h | h
        · exact n h
        · rw [q] at h; cases h
      rw [upd_ne ne]
      exact s.keep b u q n
    zin := s.zin
    znew := s.znew
    mine := fun b h => s.mine b (mine_st_mine m h)
    lent := fun j d q => by
      rw [gt_st] at q
      split at q
      · rw [q] at hy; cases hy
      · exact s.lent j d q
    mus := fun j d q => by
      rw [gt_st] at q
      split at q
      · rename_i c
        exact hk j d c.1 q
      · exact s.mus j d q
    there := fun b h => by
      by_cases k : b = a
      · subst k
        rw [upd_same]; simp
      · rw [upd_ne k]; exact s.there b h }
theorem Step.loose (s : Step Z1 H1 σ ρ1 Z H σ ρ) (f : H1 a = none) : Step Z1 H1 σ ρ1 Z (upd H a o) σ ρ where
  keep := fun b u q n => by
    have ne : b ≠ a := fun k => by rw [k] at q; rw [f] at q; cases q
    rw [upd_ne ne]
    exact s.keep b u q n
  zin := s.zin
  znew := s.znew
  mine := s.mine
  lent := s.lent
  mus := s.mus
  there := fun b h => by
    by_cases k : b = a
    · subst k
      rw [upd_same]; simp
    · rw [upd_ne k]; exact s.there b h

/-! ### a slot is stored -/
theorem set_get {α : Type} {l : List α} {i j : Nat} {x : α} : (l.set i x)[j]? = if i = j ∧ i < l.length then some x else l[j]? := by
  by_cases h : i = j
  · subst h
    by_cases q : i < l.length
    · rw [List.getElem?_set_self q, if_pos ⟨rfl, q⟩]
    · rw [if_neg (fun k => q k.2), List.getElem?_eq_none (by rw [List.length_set]; omega), List.getElem?_eq_none (by omega)]
  · rw [List.getElem?_set_ne h, if_neg (fun k => h k.1)]
theorem st_out : ∀ {ρ : Rho} {i : Nat} {y : Sl}, ¬ i < ρ.length → st ρ i y = ρ
  | [], _, _, _ => rfl
  | _ :: _, 0, _, h => absurd (Nat.succ_pos _) h
  | x :: r, n + 1, y, h => by
    simp only [st]
    rw [st_out (fun q => h (by simpa using q))]
theorem used_set {i : Nat} {w : V} (h : Used (st ρ i (.fz d)) (σ.set i (some w)) a) : Used ρ σ a := by
  obtain ⟨j, u, e⟩ := h
  rw [gt_st] at u
  rw [set_get] at e
  split at u
  · cases u
  · rename_i hn
    split at e
    · rename_i hs
      by_cases k : i < ρ.length
      · exact absurd ⟨hs.1, k⟩ hn
      · exact absurd u (by
          have : gt ρ j = .no := Classical.byContradiction fun q => k (by rw [hs.1]; exact gt_len q)
          rw [this]; exact fun z => by cases z)
    · exact ⟨j, u, e⟩
/-- what a store needs -/
theorem Rel.put {i : Nat} {y : Sl} {w : V} (R : Rel K g Z σ H ρ) (hz : ∀ d, y = .fz d → Rep K Z H w d) (ho : ∀ d, y = .own d → ∃ a, w = .ref a ∧ OwnAt K Z H a d ∧ ¬ Z a ∧ g.H0 a = none ∧ ¬ Used ρ σ a) (hm : ∀ d, y ≠ .mu d) (hl : ∀ d, y ≠ .lent d) :
    Rel K g Z (σ.set i (some w)) H (st ρ i y) := by
  by_cases hi : i < ρ.length
  · have hs : i < σ.length := by rw [← R.len]; exact hi
    have other : ∀ j, j ≠ i → gt (st ρ i y) j = gt ρ j := fun j h => gt_st_ne (Ne.symm h)
    have self : gt (st ρ i y) i = y := gt_st_same hi
    have so : ∀ j, j ≠ i → (σ.set i (some w))[j]? = σ[j]? := fun j h => List.getElem?_set_ne (Ne.symm h)
    have ss : (σ.set i (some w))[i]? = some (some w) := List.getElem?_set_self hs
    exact {
      len := by rw [st_length, List.length_set]; exact R.len
      fz := fun j d h => by
        by_cases hj : j = i
        · subst hj
          rw [self] at h
          exact ⟨w, ss, hz d h⟩
        · rw [other j hj] at h
          rw [so j hj]
          exact R.fz j d h
      own := fun j d h => by
        by_cases hj : j = i
        · subst hj
          rw [self] at h
          obtain ⟨a, e, x, z, f, _⟩ := ho d h
          exact ⟨a, by rw [ss, e], x, z, f⟩
        · rw [other j hj] at h
          rw [so j hj]
          exact R.own j d h
      mu := fun j d h => by
        by_cases hj : j = i
        · subst hj
          rw [self] at h
          exact absurd h (hm d)
        · rw [other j hj] at h
          rw [so j hj]
          exact R.mu j d h
      lent := fun j d h => by
        by_cases hj : j = i
        · subst hj
          rw [self] at h
          exact absurd h (hl d)
        · rw [other j hj] at h
          rw [so j hj]
          exact R.lent j d h
      uniq := fun j k b m u x z => by
        by_cases hj : j = i
        · by_cases hk : k = i
          · rw [hj, hk]
          · subst hj
            rw [self] at m
            rw [other k hk] at u
            rw [so k hk] at z
            cases y with
            | own d =>
              obtain ⟨a, e, _, _, _, nu⟩ := ho d rfl
              rw [ss, e] at x; cases x
              exact absurd ⟨k, u, z⟩ nu
            | mu d => exact absurd rfl (hm d)
            | _ => cases m
        · by_cases hk : k = i
          · subst hk
            rw [self] at u
            rw [other j hj] at m
            rw [so j hj] at x
            cases y with
            | own d =>
              obtain ⟨a, e, _, _, _, nu⟩ := ho d rfl
              rw [ss, e] at z; cases z
              exact absurd (Mine.used ⟨j, m, x⟩) nu
            | mu d => exact absurd rfl (hm d)
            | lent d => exact absurd rfl (hl d)
            | _ => cases u
          · rw [other j hj] at m
            rw [other k hk] at u
            rw [so j hj] at x
            rw [so k hk] at z
            exact R.uniq j k b m u x z
      frame := R.frame
      zfr := R.zfr
      ztr := R.ztr
      mz := R.mz
      mt := R.mt
      mh := R.mh }
  · rw [st_out hi, List.set_eq_of_length_le (by rw [← R.len]; omega)]
    exact R
theorem Step.put {i : Nat} {y : Sl} {w : V} (hlen : ρ.length = σ.length) (s : Step Z1 H1 σ1 ρ1 Z H σ ρ) (ho : ∀ d, y = .own d → ∃ a, w = .ref a ∧ H1 a = none) (hm : ∀ d, y ≠ .mu d) (hl : ∀ d, y ≠ .lent d) : Step Z1 H1 σ1 ρ1 Z H (σ.set i (some w)) (st ρ i y) where
  keep := s.keep
  zin := s.zin
  znew := s.znew
  mine := fun b h => by
    obtain ⟨j, u, e⟩ := h
    rw [gt_st] at u
    rw [set_get] at e
    split at u
    · rename_i hs
      rw [if_pos ⟨hs.1, by rw [← hlen]; exact hs.2⟩] at e
      cases y with
      | own d =>
        obtain ⟨a, x, f⟩ := ho d rfl
        rw [x] at e; cases e
        exact .inr f
      | mu d => exact absurd rfl (hm d)
      | _ => cases u
    · rename_i hs
      rw [if_neg (fun q => hs ⟨q.1, by rw [hlen]; exact q.2⟩)] at e
      exact s.mine b ⟨j, u, e⟩
  lent := fun j d q => by
    rw [gt_st] at q
    split at q
    · exact absurd q (hl d)
    · rename_i hs
      rw [set_get, if_neg (fun q => hs ⟨q.1, by rw [hlen]; exact q.2⟩)]
      exact s.lent j d q
  mus := fun j d q => by
    rw [gt_st] at q
    split at q
    · exact absurd q (hm d)
    · rename_i hs
      rw [set_get, if_neg (fun q => hs ⟨q.1, by rw [hlen]; exact q.2⟩)]
      exact s.mus j d q
  there := s.there
end
end VS
namespace VS
open PySem PySem.Spec PyProof.Rows L2

/-! ### results of an operation on values: fresh objects alone -/
def ResOk (K : PySem.W.Frag) (Z : Addr → Prop) (H H' : Hp) (v : V) : T → Prop
  | .val d => Rep K Z H' v d
  | .tmp d => ∃ a, v = .ref a ∧ OwnAt K Z H' a d ∧ H a = none
  | .bor _ => False
section
variable {K : PySem.W.Frag} {g : G} {Z Z' Z1 Z2 : Addr → Prop} {σ σ' σ1 σ2 : L2.St} {H H' H1 H2 Hs : Hp} {ρ ρ' ρ1 ρ2 : Rho} {a : Addr} {v : V} {vs : List V} {d d' : D} {t : T} {ts : List T} {o : HO}
theorem ResOk.tok (R : Rel K g Z σ H ρ) (h : ResOk K Z H H' v t) (hs : ∀ a, Hs a ≠ none → H a ≠ none) : TOk K g Hs Z σ H' ρ v t := by
  cases t with
  | val d => exact h
  | tmp d =>
    obtain ⟨a, e, o, n⟩ := h
    obtain ⟨z, u, f⟩ := R.fresh n
    exact ⟨a, e, o, z, Classical.byContradiction fun q => hs a q n, u, f⟩
  | bor i => exact h.elim
/-- a new list, a new tuple -/
theorem resL {xs : List V} {ds : List D} (n : H a = none) (r : Reps K Z H xs ds) : ResOk K Z H (upd H a (.lst xs)) (.ref a) (.tmp (.lst ds)) := ⟨a, rfl, ⟨xs, upd_same, (Ext.new n).reps r⟩, n⟩
theorem resT {xs : List V} {ds : List D} (n : H a = none) (r : Reps K Z H xs ds) : ResOk K Z H (upd H a (.tup xs)) (.ref a) (.val (.tup ds)) := Rep.tup upd_same ((Ext.new n).reps r)
end

/-! ### names, constants -/
/-- a fork -/
def br (c : Bool) (A B : Prop) : Prop := (c = true → A) ∧ (c = false → B)
def wVar (i : Nat) : WE := fun ρ Q => match gt ρ i with
  | .no => False
  | .fz d => Q (.val d) ρ
  | _ => Q (.bor i) ρ
def wC (d : D) : WE := fun ρ Q => Q (.val d) ρ
section
variable {X : Cx} {g : G} {pos : Pos}
theorem de_var {i : Nat} {x : Str} (hN : X.N[i]? = some x) (hv : Vis X.env.scope x) (hd : (x == ("__debug__" : Str)) = false := by decide) (hcd : (x == ("__classdict__" : Str)) = false := by decide) : DE X g (.Name x pos) (wVar i) := by
  refine ⟨(pe_var hN hv hd hcd).imp fun σ H Q h => ?_⟩
  obtain ⟨Z, ρ, P, R, w, k⟩ := h
  unfold wVar at w
  split at w
  · exact w.elim
  · rename_i d e
    obtain ⟨v, x, r⟩ := R.fz i d e
    exact ⟨v, x, k (.val d) v Z H ρ R Step.refl r w⟩
  · rename_i n1 n2
    have q : ∃ v, σ[i]? = some (some v) := by
      cases c : gt ρ i with
      | no => exact absurd c n1
      | fz d => exact absurd c (n2 d)
      | own d => obtain ⟨a, x, _⟩ := R.own i d c; exact ⟨_, x⟩
      | mu d => obtain ⟨a, x, _⟩ := R.mu i d c; exact ⟨_, x⟩
      | lent d => obtain ⟨a, x, _⟩ := R.lent i d c; exact ⟨_, x⟩
    obtain ⟨v, x⟩ := q
    exact ⟨v, x, k (.bor i) v Z H ρ R Step.refl x w⟩
theorem de_c {e : Expr} {v : V} {d : D} (h : PE X e (tC v)) (r : ∀ Z H, Rep X.K Z H v d) : DE X g e (wC d) := by
  refine ⟨h.imp fun σ H Q h => ?_⟩
  obtain ⟨Z, ρ, P, R, w, k⟩ := h
  exact k (.val d) v Z H ρ R Step.refl (r Z H) w
theorem de_int {i j} : DE X g (.Constant (.int i) j pos) (wC (.int i)) := de_c pe_int fun _ _ => .int i
theorem de_bl {i j} : DE X g (.Constant (.bool i) j pos) (wC (.bl i)) := de_c pe_bl fun _ _ => .bl i
theorem de_non {j} : DE X g (.Constant .none j pos) (wC .non) := de_c pe_non fun _ _ => .non
theorem sok_all {l : List Nat} (h : l.all (fun c => decide (c < 1114112)) = true) : SOk l := fun c m => of_decide_eq_true (List.all_eq_true.mp h c m)
theorem de_str {x : Str} {j} {l : List Nat} (h : x.cps.toList = l := by rfl) (ho : l.all (fun c => decide (c < 1114112)) = true := by rfl) : DE X g (.Constant (.str x) j pos) (wC (.str l)) := by
  subst h
  exact de_c pe_str fun _ _ => .str x (sok_all ho)
end

/-! ### two operands -/
def wBin (f : D → D → (T → Prop) → Prop) (a b : WE) : WE := fun ρ Q => a ρ fun t1 ρ1 => b ρ1 fun t2 ρ2 => match rd ρ2 t1, rd ρ2 t2 with
  | some d1, some d2 => f d1 d2 fun t => Q t ρ2
  | _, _ => False
/-- an operation by data -/
def OpD (X : Cx) (fn : Value → Value → Sem Value) (f : D → D → (T → Prop) → Prop) : Prop :=
  ∃ r, OpR X fn r ∧ ∀ Z H x y d1 d2 (P : T → Prop) (Q : VK), LentAt X.K Z H x d1 → LentAt X.K Z H y d2 → f d1 d2 P → (∀ t v H', Ext H H' → ResOk X.K Z H H' v t → P t → Q v H') → r x y H Q
section
variable {X : Cx} {g : G} {pos : Pos} {a b c : Expr} {wa wb wc : WE}
theorem bin_lift {r : R2} {f : D → D → (T → Prop) → Prop} (hr : ∀ Z H x y d1 d2 (P : T → Prop) (Q : VK), LentAt X.K Z H x d1 → LentAt X.K Z H y d2 → f d1 d2 P → (∀ t v H', Ext H H' → ResOk X.K Z H H' v t → P t → Q v H') → r x y H Q)
    (σ : L2.St) (H : Hp) (Q : VK) (h : liftE X.K g (wBin f wa wb) σ H Q) : tOp r (liftE X.K g wa) (liftE X.K g wb) σ H Q := by
  obtain ⟨Z, ρ, P, R, w, k⟩ := h
  refine ⟨Z, ρ, _, R, w, fun t1 v1 Z1 H1 ρ1 R1 s1 o1 q1 => ⟨Z1, ρ1, _, R1, q1, fun t2 v2 Z2 H2 ρ2 R2 s2 o2 q2 => ?_⟩⟩
  have o1' := o1.move s2 R1
  have s12 := s1.trans s2
  cases e1 : rd ρ2 t1 with
  | none => simp only [e1] at q2
  | some d1 =>
    cases e2 : rd ρ2 t2 with
    | none => simp only [e1, e2] at q2
    | some d2 =>
      simp only [e1, e2] at q2
      refine hr Z2 H2 v1 v2 d1 d2 _ Q (o1'.read R2 e1) (o2.read R2 e2) q2 fun t v H' ex ro p => ?_
      exact k t v Z2 H' ρ2 (ex.rel R2) (s12.trans ex.step) (ro.tok R2 s12.there) p
theorem de_bin {op : Operator} {f : D → D → (T → Prop) → Prop} (ho : OpD X (binaryOp op) f) (ha : DE X g a wa) (hb : DE X g b wb) : DE X g (.BinOp a op b pos) (wBin f wa wb) := by
  obtain ⟨r, hr, hh⟩ := ho
  exact ⟨(pe_op hr ha.pe hb.pe).imp (bin_lift hh)⟩
theorem de_cmp {op : CmpOp} {f : D → D → (T → Prop) → Prop} (ho : OpD X (compareOp op) f) (ha : DE X g a wa) (hb : DE X g b wb) (hm : behindInMarks op b = false := by rfl) : DE X g (.Compare a [op] [b] pos) (wBin f wa wb) := by
  obtain ⟨r, hr, hh⟩ := ho
  exact ⟨(pe_cmpR hr ha.pe hb.pe hm).imp (bin_lift hh)⟩
/-- a value as a test -/
def wTest (a : WE) : WT := fun ρ Q => a ρ fun t ρ1 => match t with
  | .val (.bl c) => Q c ρ1
  | _ => False
theorem test_lift {te : TE} (m : ∀ σ H Q, liftE X.K g wa σ H Q → te σ H Q) (σ : L2.St) (H : Hp) (Q : Bool → Hp → Prop) (h : liftT X.K g (wTest wa) σ H Q) : tTest te σ H Q := by
  obtain ⟨Z, ρ, P, R, w, k⟩ := h
  refine m _ _ _ ⟨Z, ρ, _, R, w, fun t v Z1 H1 ρ1 R1 s1 o1 q1 => ?_⟩
  split at q1
  · rename_i c
    cases o1
    exact ⟨c, rfl, k c Z1 H1 ρ1 R1 s1 q1⟩
  · exact q1.elim
theorem dt_cmp {op : CmpOp} {f : D → D → (T → Prop) → Prop} (ho : OpD X (compareOp op) f) (ha : DE X g a wa) (hb : DE X g b wb) (hm : behindInMarks op b = false := by rfl) : DT X g (.Compare a [op] [b] pos) (wTest (wBin f wa wb)) := by
  obtain ⟨r, hr, hh⟩ := ho
  exact ⟨(pt_cmpR hr ha.pe hb.pe hm).imp (test_lift (bin_lift hh))⟩
theorem dt_val (ha : DE X g a wa) (he : ∀ whole, isTrue a X.env whole = (do let v ← whole; standAt a.pos; holding [v] (truthy v)) := by intro _; rfl) : DT X g a (wTest wa) := by
  refine ⟨(pt_val ha.pe he).imp fun σ H Q h => ?_⟩
  exact test_lift (fun _ _ _ z => z) σ H Q h
/-- a op b op' c -/
def wChain (f f' : D → D → (T → Prop) → Prop) (a b c : WE) : WE := fun ρ Q => a ρ fun t1 ρ1 => b ρ1 fun t2 ρ2 => match rd ρ2 t1, rd ρ2 t2 with
  | some d1, some d2 => f d1 d2 fun t => match t with
    | .val (.bl k) => br k (c ρ2 fun t3 ρ3 => match rd ρ3 t2, rd ρ3 t3 with
      | some d2', some d3 => f' d2' d3 fun t => Q t ρ3
      | _, _ => False) (Q (.val (.bl false)) ρ2)
    | _ => False
  | _, _ => False
theorem chain_lift {r r' : R2} {f f' : D → D → (T → Prop) → Prop} (hr : ∀ Z H x y d1 d2 (P : T → Prop) (Q : VK), LentAt X.K Z H x d1 → LentAt X.K Z H y d2 → f d1 d2 P → (∀ t v H', Ext H H' → ResOk X.K Z H H' v t → P t → Q v H') → r x y H Q)
    (hr' : ∀ Z H x y d1 d2 (P : T → Prop) (Q : VK), LentAt X.K Z H x d1 → LentAt X.K Z H y d2 → f' d1 d2 P → (∀ t v H', Ext H H' → ResOk X.K Z H H' v t → P t → Q v H') → r' x y H Q)
    (σ : L2.St) (H : Hp) (Q : VK) (h : liftE X.K g (wChain f f' wa wb wc) σ H Q) : tChain r r' (liftE X.K g wa) (liftE X.K g wb) (liftE X.K g wc) σ H Q := by
  obtain ⟨Z, ρ, P, R, w, k⟩ := h
  refine ⟨Z, ρ, _, R, w, fun t1 v1 Z1 H1 ρ1 R1 s1 o1 q1 => ⟨Z1, ρ1, _, R1, q1, fun t2 v2 Z2 H2 ρ2 R2 s2 o2 q2 => ?_⟩⟩
  have o1' := o1.move s2 R1
  have s12 := s1.trans s2
  cases e1 : rd ρ2 t1 with
  | none => simp only [e1] at q2
  | some d1 =>
    cases e2 : rd ρ2 t2 with
    | none => simp only [e1, e2] at q2
    | some d2 =>
      simp only [e1, e2] at q2
      refine hr Z2 H2 v1 v2 d1 d2 _ _ (o1'.read R2 e1) (o2.read R2 e2) q2 fun t v H' ex ro p => ?_
      have R3 := ex.rel R2
      have s3 : Step Z H σ ρ Z2 H' σ ρ2 := s12.trans ex.step
      have o2' : TOk X.K g H1 Z2 σ H' ρ2 v2 t2 := o2.move ex.step R2
      split at p
      · rename_i kk
        cases ro
        cases kk with
        | false =>
          refine ⟨false, rfl, ?_⟩
          rw [if_neg Bool.false_ne_true]
          exact k (.val (.bl false)) _ Z2 H' ρ2 R3 s3 (Rep.bl false) (p.2 rfl)
        | true =>
        refine ⟨true, rfl, ?_⟩
        rw [if_pos rfl]
        refine ⟨Z2, ρ2, _, R3, p.1 rfl, fun t3 v3 Z3 H3 ρ3 R3' s4 o3 q3 => ?_⟩
        have o2'' := o2'.move s4 R3
        have s5 := s3.trans s4
        cases f1 : rd ρ3 t2 with
        | none => simp only [f1] at q3
        | some x =>
          cases f2 : rd ρ3 t3 with
          | none => simp only [f1, f2] at q3
          | some y =>
            simp only [f1, f2] at q3
            refine hr' Z3 H3 v2 v3 x y _ Q (o2''.read R3' f1) (o3.read R3' f2) q3 fun t v H'' ex' ro' p' => ?_
            exact k t v Z3 H'' ρ3 (ex'.rel R3') (s5.trans ex'.step) (ro'.tok R3' s5.there) p'
      · exact p.elim
theorem de_chain {op op' : CmpOp} {f f' : D → D → (T → Prop) → Prop} (ho : OpD X (compareOp op) f) (ho' : OpD X (compareOp op') f') (ha : DE X g a wa) (hb : DE X g b wb) (hc : DE X g c wc) (hm : lastMarks [op, op'] [b, c] = false := by with_unfolding_all rfl) :
    DE X g (.Compare a [op, op'] [b, c] pos) (wChain f f' wa wb wc) := by
  obtain ⟨r, hr, hh⟩ := ho
  obtain ⟨r', hr', hh'⟩ := ho'
  exact ⟨(pe_chain hr hr' ha.pe hb.pe hc.pe hm).imp (chain_lift hh hh')⟩
theorem dt_chain {op op' : CmpOp} {f f' : D → D → (T → Prop) → Prop} (ho : OpD X (compareOp op) f) (ho' : OpD X (compareOp op') f') (ha : DE X g a wa) (hb : DE X g b wb) (hc : DE X g c wc) (hm : lastMarks [op, op'] [b, c] = false := by with_unfolding_all rfl) :
    DT X g (.Compare a [op, op'] [b, c] pos) (wTest (wChain f f' wa wb wc)) := by
  obtain ⟨r, hr, hh⟩ := ho
  obtain ⟨r', hr', hh'⟩ := ho'
  exact ⟨(pt_chain hr hr' ha.pe hb.pe hc.pe hm).imp (test_lift (chain_lift hh hh'))⟩

/-! ### tests -/
def wAnd (a b : WT) : WT := fun ρ Q => a ρ fun c ρ1 => br c (b ρ1 Q) (Q false ρ1)
def wOr (a b : WT) : WT := fun ρ Q => a ρ fun c ρ1 => br c (Q true ρ1) (b ρ1 Q)
def wNot (a : WT) : WT := fun ρ Q => a ρ fun c ρ1 => Q (!c) ρ1
variable {ta tb tc : WT} {rest : List Expr}
theorem dw_pt (h : DW X g a ta) : DT X g a ta := ⟨h.pw.pt⟩
theorem dw_and1 (ha : DT X g a ta) : DW X g (.BoolOp .And [a] pos) ta := ⟨pw_and1 ha.pt⟩
theorem dw_or1 (ha : DT X g a ta) : DW X g (.BoolOp .Or [a] pos) ta := ⟨pw_or1 ha.pt⟩
theorem dw_and (ha : DT X g a ta) (hb : DW X g (.BoolOp .And (b :: rest) pos) tb) : DW X g (.BoolOp .And (a :: b :: rest) pos) (wAnd ta tb) := by
  refine ⟨(pw_and ha.pt hb.pw).imp fun σ H Q h => ?_⟩
  obtain ⟨Z, ρ, P, R, w, k⟩ := h
  refine ⟨Z, ρ, _, R, w, fun c Z1 H1 ρ1 R1 s1 q1 => ?_⟩
  cases c with
  | true => exact ⟨Z1, ρ1, P, R1, q1.1 rfl, fun c Z2 H2 ρ2 R2 s2 q2 => k c Z2 H2 ρ2 R2 (s1.trans s2) q2⟩
  | false => exact k false Z1 H1 ρ1 R1 s1 (q1.2 rfl)
theorem dw_or (ha : DT X g a ta) (hb : DW X g (.BoolOp .Or (b :: rest) pos) tb) : DW X g (.BoolOp .Or (a :: b :: rest) pos) (wOr ta tb) := by
  refine ⟨(pw_or ha.pt hb.pw).imp fun σ H Q h => ?_⟩
  obtain ⟨Z, ρ, P, R, w, k⟩ := h
  refine ⟨Z, ρ, _, R, w, fun c Z1 H1 ρ1 R1 s1 q1 => ?_⟩
  cases c with
  | true => exact k true Z1 H1 ρ1 R1 s1 (q1.1 rfl)
  | false => exact ⟨Z1, ρ1, P, R1, q1.2 rfl, fun c Z2 H2 ρ2 R2 s2 q2 => k c Z2 H2 ρ2 R2 (s1.trans s2) q2⟩
theorem dt_not (ha : DT X g a ta) : DT X g (.UnaryOp .Not a pos) (wNot ta) := by
  refine ⟨(pt_not ha.pt).imp fun σ H Q h => ?_⟩
  obtain ⟨Z, ρ, P, R, w, k⟩ := h
  exact ⟨Z, ρ, _, R, w, fun c Z1 H1 ρ1 R1 s1 q1 => k (!c) Z1 H1 ρ1 R1 s1 q1⟩
/-! as values -/
def wAndV (a b : WE) : WE := fun ρ Q => a ρ fun t ρ1 => match t with
  | .val (.bl c) => br c (b ρ1 Q) (Q (.val (.bl false)) ρ1)
  | _ => False
def wOrV (a b : WE) : WE := fun ρ Q => a ρ fun t ρ1 => match t with
  | .val (.bl c) => br c (Q (.val (.bl true)) ρ1) (b ρ1 Q)
  | _ => False
def wNotV (a : WE) : WE := fun ρ Q => a ρ fun t ρ1 => match t with
  | .val (.bl c) => Q (.val (.bl (!c))) ρ1
  | _ => False
theorem de_one {op} (ha : DE X g a wa) : DE X g (.BoolOp op [a] pos) wa := ⟨pe_one ha.pe⟩
theorem de_and (ha : DE X g a wa) (hb : DE X g (.BoolOp .And (b :: rest) pos) wb) : DE X g (.BoolOp .And (a :: b :: rest) pos) (wAndV wa wb) := by
  refine ⟨(pe_and ha.pe hb.pe).imp fun σ H Q h => ?_⟩
  obtain ⟨Z, ρ, P, R, w, k⟩ := h
  refine ⟨Z, ρ, _, R, w, fun t v Z1 H1 ρ1 R1 s1 o1 q1 => ?_⟩
  split at q1
  · rename_i c
    cases o1
    cases c with
    | true => exact ⟨true, rfl, Z1, ρ1, P, R1, q1.1 rfl, fun c v Z2 H2 ρ2 R2 s2 o2 q2 => k c v Z2 H2 ρ2 R2 (s1.trans s2) (o2.since s1.there) q2⟩
    | false => exact ⟨false, rfl, k (.val (.bl false)) _ Z1 H1 ρ1 R1 s1 (Rep.bl false) (q1.2 rfl)⟩
  · exact q1.elim
theorem de_or (ha : DE X g a wa) (hb : DE X g (.BoolOp .Or (b :: rest) pos) wb) : DE X g (.BoolOp .Or (a :: b :: rest) pos) (wOrV wa wb) := by
  refine ⟨(pe_or ha.pe hb.pe).imp fun σ H Q h => ?_⟩
  obtain ⟨Z, ρ, P, R, w, k⟩ := h
  refine ⟨Z, ρ, _, R, w, fun t v Z1 H1 ρ1 R1 s1 o1 q1 => ?_⟩
  split at q1
  · rename_i c
    cases o1
    cases c with
    | true => exact ⟨true, rfl, k (.val (.bl true)) _ Z1 H1 ρ1 R1 s1 (Rep.bl true) (q1.1 rfl)⟩
    | false => exact ⟨false, rfl, Z1, ρ1, P, R1, q1.2 rfl, fun c v Z2 H2 ρ2 R2 s2 o2 q2 => k c v Z2 H2 ρ2 R2 (s1.trans s2) (o2.since s1.there) q2⟩
  · exact q1.elim
theorem de_not (ha : DE X g a wa) : DE X g (.UnaryOp .Not a pos) (wNotV wa) := by
  refine ⟨(pe_not ha.pe).imp fun σ H Q h => ?_⟩
  obtain ⟨Z, ρ, P, R, w, k⟩ := h
  refine ⟨Z, ρ, _, R, w, fun t v Z1 H1 ρ1 R1 s1 o1 q1 => ?_⟩
  split at q1
  · rename_i c
    cases o1
    exact ⟨c, rfl, k (.val (.bl (!c))) _ Z1 H1 ρ1 R1 s1 (Rep.bl (!c)) q1⟩
  · exact q1.elim
def wIf (c : WT) (a b : WE) : WE := fun ρ Q => c ρ fun k ρ1 => br k (a ρ1 Q) (b ρ1 Q)
theorem de_if (hc : DT X g c tc) (ha : DE X g a wa) (hb : DE X g b wb) : DE X g (.IfExp c a b pos) (wIf tc wa wb) := by
  refine ⟨(pe_ifExp hc.pt ha.pe hb.pe).imp fun σ H Q h => ?_⟩
  obtain ⟨Z, ρ, P, R, w, k⟩ := h
  refine ⟨Z, ρ, _, R, w, fun c Z1 H1 ρ1 R1 s1 q1 => ?_⟩
  cases c with
  | true => exact ⟨Z1, ρ1, P, R1, q1.1 rfl, fun c v Z2 H2 ρ2 R2 s2 o2 q2 => k c v Z2 H2 ρ2 R2 (s1.trans s2) (o2.since s1.there) q2⟩
  | false => exact ⟨Z1, ρ1, P, R1, q1.2 rfl, fun c v Z2 H2 ρ2 R2 s2 o2 q2 => k c v Z2 H2 ρ2 R2 (s1.trans s2) (o2.since s1.there) q2⟩

/-! ### one operand -/
def wUn (f : D → (T → Prop) → Prop) (a : WE) : WE := fun ρ Q => a ρ fun t ρ1 => match rd ρ1 t with
  | some d => f d fun t => Q t ρ1
  | none => False
def negD : D → (T → Prop) → Prop
  | .int i, P => P (.val (.int (-i)))
  | _, _ => False
theorem LentAt.int {K : PySem.W.Frag} {Z : Addr → Prop} {H : Hp} {v : V} {i : Int} (h : LentAt K Z H v (.int i)) : v = .int i := by
  have h : Rep K Z H v (.int i) := h
  cases h; rfl
theorem LentAt.bl {K : PySem.W.Frag} {Z : Addr → Prop} {H : Hp} {v : V} {i : Bool} (h : LentAt K Z H v (.bl i)) : v = .bl i := by
  have h : Rep K Z H v (.bl i) := h
  cases h; rfl
theorem LentAt.non {K : PySem.W.Frag} {Z : Addr → Prop} {H : Hp} {v : V} (h : LentAt K Z H v .non) : v = .non := by
  have h : Rep K Z H v .non := h
  cases h; rfl
theorem LentAt.str {K : PySem.W.Frag} {Z : Addr → Prop} {H : Hp} {v : V} {l : List Nat} (h : LentAt K Z H v (.str l)) : ∃ s : Str, v = .str s ∧ s.cps.toList = l ∧ SOk l := by
  have h : Rep K Z H v (.str l) := h
  cases h with
  | str s q => exact ⟨_, rfl, rfl, q⟩
theorem LentAt.tup {K : PySem.W.Frag} {Z : Addr → Prop} {H : Hp} {v : V} {l : List D} (h : LentAt K Z H v (.tup l)) : ∃ a xs, v = .ref a ∧ H a = some (.tup xs) ∧ Reps K Z H xs l := by
  have h : Rep K Z H v (.tup l) := h
  cases h with
  | tup q r => exact ⟨_, _, rfl, q, r⟩
theorem LentAt.lst {K : PySem.W.Frag} {Z : Addr → Prop} {H : Hp} {v : V} {l : List D} (h : LentAt K Z H v (.lst l)) : ∃ a xs, v = .ref a ∧ H a = some (.lst xs) ∧ Reps K Z H xs l := h
theorem LentAt.scr {K : PySem.W.Frag} {Z : Addr → Prop} {H : Hp} {v : V} {l : List Int} (h : LentAt K Z H v (.scr l)) : ∃ a, v = .ref a ∧ SqF K H a (l.map V.int) := by
  have h : Rep K Z H v (.scr l) := h
  cases h with
  | scr q => exact ⟨_, rfl, q⟩
theorem un_lift {r : V → Hp → VK → Prop} {f : D → (T → Prop) → Prop} (hr : ∀ Z H x d (P : T → Prop) (Q : VK), LentAt X.K Z H x d → f d P → (∀ t v H', Ext H H' → ResOk X.K Z H H' v t → P t → Q v H') → r x H Q)
    (σ : L2.St) (H : Hp) (Q : VK) (h : liftE X.K g (wUn f wa) σ H Q) : tUn r (liftE X.K g wa) σ H Q := by
  obtain ⟨Z, ρ, P, R, w, k⟩ := h
  refine ⟨Z, ρ, _, R, w, fun t1 v1 Z1 H1 ρ1 R1 s1 o1 q1 => ?_⟩
  cases e1 : rd ρ1 t1 with
  | none => simp only [e1] at q1
  | some d1 =>
    simp only [e1] at q1
    refine hr Z1 H1 v1 d1 _ Q (o1.read R1 e1) q1 fun t v H' ex ro p => ?_
    exact k t v Z1 H' ρ1 (ex.rel R1) (s1.trans ex.step) (ro.tok R1 s1.there) p
theorem de_neg (ha : DE X g a wa) : DE X g (.UnaryOp .USub a pos) (wUn negD wa) := by
  refine ⟨(pe_un un_neg ha.pe).imp (un_lift fun Z H x d P Q l f k => ?_)⟩
  cases d with
  | int i =>
    cases l.int
    exact ⟨i, rfl, k (.val (.int (-i))) _ H Ext.refl (Rep.int _) f⟩
  | _ => exact f.elim
end

/-! ### rows of arguments -/
def wNil : WA := fun ρ Q => Q [] ρ
def wCons (a : WE) (r : WA) : WA := fun ρ Q => a ρ fun t ρ1 => r ρ1 fun ts ρ2 => Q (t :: ts) ρ2
section
variable {X : Cx} {g : G} {pos : Pos} {a b c e : Expr} {wa wb wc : WE} {es : List Expr} {wr : WA}
theorem da_nil : DA X g [] wNil := by
  refine ⟨pa_nil.imp fun σ H Q h => ?_⟩
  obtain ⟨Z, ρ, P, R, w, k⟩ := h
  exact k [] [] Z H ρ R Step.refl .nil w
theorem da_cons (ha : DE X g a wa) (hr : DA X g es wr) (hs : starEach (a :: es) X.env = (false, eval a X.env) :: starEach es X.env := by rfl) : DA X g (a :: es) (wCons wa wr) := by
  refine ⟨(pa_cons ha.pe hr.pa hs).imp fun σ H Q h => ?_⟩
  obtain ⟨Z, ρ, P, R, w, k⟩ := h
  refine ⟨Z, ρ, _, R, w, fun t v Z1 H1 ρ1 R1 s1 o1 q1 => ⟨Z1, ρ1, _, R1, q1, fun ts vs Z2 H2 ρ2 R2 s2 o2 q2 => ?_⟩⟩
  refine k (t :: ts) (v :: vs) Z2 H2 ρ2 R2 (s1.trans s2) (.cons (o1.move s2 R1) (o2.since s1.there) fun ht i u eu hu ev => ?_) q2
  cases t with
  | tmp d =>
    obtain ⟨x, rfl, ox, _⟩ := o1
    have key : ∀ {vs : List V} {ts : List T}, TsOk X.K g H1 Z2 σ H2 ρ2 vs ts → ∀ (i : Nat) (u : T), isTmp u = true → ts[i]? = some u → vs[i]? = some (.ref x) → False := by
      intro vs ts h
      induction h with
      | nil => intro i u _ e; simp at e
      | cons h _ _ ih =>
        intro i u hu
        cases i with
        | succ i => intro e1 e2; exact ih i u hu (by simpa using e1) (by simpa using e2)
        | zero =>
          intro e1 e2
          simp at e1 e2
          subst e1 e2
          rename_i t' _ _ _
          cases t' with
          | tmp d' =>
            obtain ⟨y, e, _, _, n, _⟩ := h
            cases e
            exact ox.here n
          | val d' => cases hu
          | bor i => cases hu
    exact key o2 i u hu eu ev
  | val d => cases ht
  | bor i => cases ht
/-- a tuple, a list of written items -/
def wTup (r : WA) : WE := fun ρ Q => r ρ fun ts ρ1 => ts.length ≤ 16777216 ∧ capAll ts ρ1 fun ds ρ2 => Q (.val (.tup ds)) ρ2
def wLst (r : WA) : WE := fun ρ Q => r ρ fun ts ρ1 => ts.length ≤ 16777216 ∧ capAll ts ρ1 fun ds ρ2 => Q (.tmp (.lst ds)) ρ2
theorem de_tup {x1} (h : DA X g es wr) : DE X g (.Tuple es x1 pos) (wTup wr) := by
  refine ⟨(pe_tup h.pa).imp fun σ H Q h => ?_⟩
  obtain ⟨Z, ρ, P, R, w, k⟩ := h
  refine ⟨Z, ρ, _, R, w, fun ts vs Z1 H1 ρ1 R1 s1 o1 q1 => ⟨by rw [o1.length, sizeLine_eq]; exact q1.1, fun p np => ?_⟩⟩
  obtain ⟨ds, Z2, ρ2, q2, R2, s2, r2, _⟩ := capAll_ok R1 s1 o1 q1.2
  exact k (.val (.tup ds)) _ Z2 _ ρ2 ((Ext.new np).rel R2) (s2.trans (Ext.new np).step) (resT np r2) q2
theorem de_lst (h : DA X g es wr) : DE X g (.List es pos) (wLst wr) := by
  refine ⟨(pe_lst h.pa).imp fun σ H Q h => ?_⟩
  obtain ⟨Z, ρ, P, R, w, k⟩ := h
  refine ⟨Z, ρ, _, R, w, fun ts vs Z1 H1 ρ1 R1 s1 o1 q1 => ⟨by rw [o1.length, sizeLine_eq]; exact q1.1, fun p np => ?_⟩⟩
  obtain ⟨ds, Z2, ρ2, q2, R2, s2, r2, _⟩ := capAll_ok R1 s1 o1 q1.2
  exact k (.tmp (.lst ds)) _ Z2 _ ρ2 ((Ext.new np).rel R2) (s2.trans (Ext.new np).step) ((resL np r2).tok R2 s2.there) q2

/-! ### calls of builtins -/
def wCB (f : List D → (T → Prop) → Prop) (r : WA) : WE := fun ρ Q => r ρ fun ts ρ1 => match rds ρ1 ts with
  | some ds => f ds fun t => Q t ρ1
  | none => False
def CallD (X : Cx) (fv : Value) (f : List D → (T → Prop) → Prop) : Prop :=
  ∃ r, CallR X fv r ∧ ∀ Z H xs ds (P : T → Prop) (Q : VK), Lents X.K Z H xs ds → f ds P → (∀ t v H', Ext H H' → ResOk X.K Z H H' v t → P t → Q v H') → r xs H Q
theorem cb_lift {r : List V → Hp → VK → Prop} {f : List D → (T → Prop) → Prop} (hr : ∀ Z H xs ds (P : T → Prop) (Q : VK), Lents X.K Z H xs ds → f ds P → (∀ t v H', Ext H H' → ResOk X.K Z H H' v t → P t → Q v H') → r xs H Q)
    (σ : L2.St) (H : Hp) (Q : VK) (h : liftE X.K g (wCB f wr) σ H Q) : tCB r (liftA X.K g wr) σ H Q := by
  obtain ⟨Z, ρ, P, R, w, k⟩ := h
  refine ⟨Z, ρ, _, R, w, fun ts vs Z1 H1 ρ1 R1 s1 o1 q1 => ?_⟩
  cases e : rds ρ1 ts with
  | none => simp only [e] at q1
  | some ds =>
    simp only [e] at q1
    refine hr Z1 H1 vs ds _ Q (o1.read R1 e) q1 fun t v H' ex ro p => ?_
    exact k t v Z1 H' ρ1 (ex.rel R1) (s1.trans ex.step) (ro.tok R1 s1.there) p
theorem de_cb {id : String} {x : Str} {p : Pos} {f : List D → (T → Prop) → Prop} (hc : CallD X (.builtin id) f) (hg : Gl X x) (hm : X.mg x = none) (hv : bootBuiltins x = some (.builtin id)) (ha : DA X g (e :: es) wr) (hn : x ≠ "__name__" := by decide) (hdb : (x == ("__debug__" : Str)) = false := by decide)
    (he : starEach (e :: es) X.env = (false, eval e X.env) :: starEach es X.env := by rfl) (hpl : (backTo pos (starEach es X.env)).any (·.1) = false := by rfl) : DE X g (.Call (.Name x p) (e :: es) [] pos) (wCB f wr) := by
  obtain ⟨r, hr, hh⟩ := hc
  exact ⟨(pe_callB hr hg hm hv ha.pa hn hdb he hpl).imp (cb_lift hh)⟩
theorem de_ct {T : String} {x : Str} {p : Pos} {f : List D → (VS.T → Prop) → Prop} (hc : CallD X (.type T) f) (hg : Gl X x) (hm : X.mg x = none) (hv : bootBuiltins x = some (.type T)) (ha : DA X g (e :: es) wr) (hn : x ≠ "__name__" := by decide) (hdb : (x == ("__debug__" : Str)) = false := by decide)
    (he : starEach (e :: es) X.env = (false, eval e X.env) :: starEach es X.env := by rfl) (hpl : (backTo pos (starEach es X.env)).any (·.1) = false := by rfl) : DE X g (.Call (.Name x p) (e :: es) [] pos) (wCB f wr) := by
  obtain ⟨r, hr, hh⟩ := hc
  exact ⟨(pe_callTy hr hg hm hv ha.pa hn hdb he hpl).imp (cb_lift hh)⟩
end
end VS
namespace VS
open PySem PySem.Spec PyProof.Rows L2

/-! ### data: equal, of bounded depth -/
mutual
def eqb : D → D → Bool
  | .non, .non => true
  | .bl a, .bl b => a == b
  | .bl a, .int j => (if a then (1 : Int) else 0) == j
  | .int i, .bl b => i == (if b then (1 : Int) else 0)
  | .int i, .int j => decide (i = j)
  | .str x, .str y => decide (x = y)
  | .lst xs, .lst ys => eqbs xs ys
  | .tup xs, .tup ys => eqbs xs ys
  | _, _ => false
def eqbs : List D → List D → Bool
  | [], [] => true
  | x :: xs, y :: ys => eqb x y && eqbs xs ys
  | _, _ => false
end
/-- no dict, at most so deep -/
def flat : Nat → D → Bool
  | _, .non => true
  | _, .bl _ => true
  | _, .int _ => true
  | _, .str _ => true
  | n + 1, .tup l => l.all (flat n)
  | n + 1, .lst l => l.all (flat n)
  | _, _ => false
mutual
def toP : D → PyData
  | .non => .none
  | .bl b => .bool b
  | .int i => .int i
  | .str s => .str ⟨s.toArray⟩
  | .tup l => .tuple (toPs l)
  | .lst l => .list (toPs l)
  | _ => .none
def toPs : List D → List PyData
  | [] => []
  | x :: xs => toP x :: toPs xs
end
theorem toPs_map : ∀ l : List D, toPs l = l.map toP
  | [] => by simp [toPs]
  | x :: xs => by simp [toPs, toPs_map xs]
theorem flat_succ : ∀ {n : Nat} {d : D}, flat n d = true → flat (n + 1) d = true
  | 0, .non, _ => rfl
  | 0, .bl _, _ => rfl
  | 0, .int _, _ => rfl
  | 0, .str _, _ => rfl
  | n + 1, .non, _ => rfl
  | n + 1, .bl _, _ => rfl
  | n + 1, .int _, _ => rfl
  | n + 1, .str _, _ => rfl
  | n + 1, .tup l, h => by
    simp only [flat, List.all_eq_true] at h ⊢
    exact fun x m => flat_succ (h x m)
  | n + 1, .lst l, h => by
    simp only [flat, List.all_eq_true] at h ⊢
    exact fun x m => flat_succ (h x m)
theorem flat_mono {n m : Nat} {d : D} (h : flat n d = true) (k : n ≤ m) : flat m d = true := by
  induction k with
  | refl => exact h
  | step _ ih => exact flat_succ ih
theorem str_eq {a b : Str} : (a == b) = decide (a.cps.toList = b.cps.toList) := by
  rw [Bool.eq_iff_iff]
  simp only [beq_iff_eq, decide_eq_true_eq]
  constructor
  · intro h; rw [h]
  · intro h
    cases a; cases b
    simpa using h
theorem eqv_toP : ∀ (n : Nat) (a b : D), flat n a = true → flat n b = true → PyData.eqv (toP a) (toP b) = eqb a b := by
  intro n
  induction n with
  | zero =>
    intro a b ha hb
    cases a <;> first | exact absurd ha Bool.false_ne_true | (cases b <;> first | exact absurd hb Bool.false_ne_true | (simp [toP, PyData.eqv, eqb, str_eq] <;> rfl) | simp [toP, PyData.eqv, eqb, str_eq])
  | succ n ih =>
    have all : ∀ (l m : List D), l.all (flat n) = true → m.all (flat n) = true → PyData.eqvAll (toPs l) (toPs m) = eqbs l m := by
      intro l
      induction l with
      | nil => intro m _ _; cases m <;> simp [toPs, PyData.eqvAll, eqbs]
      | cons x l ihl =>
        intro m h1 h2
        cases m with
        | nil => simp [toPs, PyData.eqvAll, eqbs]
        | cons y m =>
          simp only [List.all_cons, Bool.and_eq_true] at h1 h2
          simp only [toPs, PyData.eqvAll, eqbs]
          rw [ih x y h1.1 h2.1, ihl m h1.2 h2.2]
    intro a b ha hb
    cases a <;> first | exact absurd ha Bool.false_ne_true | (cases b <;> first | exact absurd hb Bool.false_ne_true | exact all _ _ ha hb | (simp [toP, PyData.eqv, eqb, str_eq] <;> rfl) | simp [toP, PyData.eqv, eqb, str_eq] | (simp only [toP, PyData.eqv, eqb]; exact all _ _ ha hb))
section
variable {K : PySem.W.Frag} {Z : Addr → Prop} {H : Hp} {v : V} {d : D}
theorem lay_str {l : List Nat} (h : SOk l) : PyData.strOk ⟨l.toArray⟩ = true := by
  unfold PyData.strOk
  rw [← Array.all_toList]
  simp only [List.all_eq_true, decide_eq_true_eq]
  intro c m
  exact h c (by simpa using m)
theorem Rep.dp : ∀ (n : Nat) {v : V} {d : D}, Rep K Z H v d → flat n d = true → Dp K H v (toP d) ∧ (toP d).canLay0 = true ∧ (toP d).depth ≤ n := by
  intro n
  induction n with
  | zero =>
    intro v d h f
    cases h with
    | non => exact ⟨.non, rfl, Nat.zero_le _⟩
    | bl b => exact ⟨.bl b, rfl, Nat.zero_le _⟩
    | int i => exact ⟨.int i, rfl, Nat.zero_le _⟩
    | str s q => exact ⟨by simpa [toP] using Dp.str s, lay_str q, Nat.zero_le _⟩
    | tup _ _ => cases f
    | lst _ _ _ => cases f
    | scr _ => cases f
    | dK _ _ _ => cases f
    | dT _ _ _ => cases f
  | succ n ih =>
    have all : ∀ {vs : List V} {ds : List D}, Reps K Z H vs ds → ds.all (flat n) = true → DpAll K H vs (toPs ds) ∧ PyData.canLayAll0 (toPs ds) = true ∧ PyData.depthAll (toPs ds) ≤ n := by
      intro vs ds h
      induction ds generalizing vs with
      | nil => cases h; intro _; exact ⟨.nil, rfl, Nat.zero_le _⟩
      | cons d ds ihd =>
        cases h with
        | cons h r =>
          intro f
          simp only [List.all_cons, Bool.and_eq_true] at f
          obtain ⟨a1, a2, a3⟩ := ih h f.1
          obtain ⟨b1, b2, b3⟩ := ihd r f.2
          refine ⟨.cons a1 b1, ?_, ?_⟩
          · simp only [toPs, PyData.canLayAll0, a2, b2, Bool.and_self]
          · simp only [toPs, PyData.depthAll]; omega
    intro v d h f
    cases h with
    | non => exact ⟨.non, rfl, Nat.zero_le _⟩
    | bl b => exact ⟨.bl b, rfl, Nat.zero_le _⟩
    | int i => exact ⟨.int i, rfl, Nat.zero_le _⟩
    | str s q => exact ⟨by simpa [toP] using Dp.str s, lay_str q, Nat.zero_le _⟩
    | tup hs r =>
      obtain ⟨a, b, c⟩ := all r f
      exact ⟨by simp only [toP]; exact .tup (.of hs) a, by simp only [toP, PyData.canLay0]; exact b, by simp only [toP, PyData.depth]; omega⟩
    | lst _ hs r =>
      obtain ⟨a, b, c⟩ := all r f
      exact ⟨by simp only [toP]; exact .lst (.of hs) a, by simp only [toP, PyData.canLay0]; exact b, by simp only [toP, PyData.depth]; omega⟩
    | scr _ => cases f
    | dK _ _ _ => cases f
    | dT _ _ _ => cases f
theorem Reps.dp {n : Nat} {vs : List V} {ds : List D} (h : Reps K Z H vs ds) (f : ds.all (flat n) = true) : DpAll K H vs (toPs ds) ∧ PyData.canLayAll0 (toPs ds) = true ∧ PyData.depthAll (toPs ds) ≤ n := by
  induction ds generalizing vs with
  | nil => cases h; exact ⟨.nil, rfl, Nat.zero_le _⟩
  | cons d ds ihd =>
    cases h with
    | cons h r =>
      simp only [List.all_cons, Bool.and_eq_true] at f
      obtain ⟨a1, a2, a3⟩ := Rep.dp n h f.1
      obtain ⟨b1, b2, b3⟩ := ihd r f.2
      refine ⟨.cons a1 b1, ?_, ?_⟩
      · simp only [toPs, PyData.canLayAll0, a2, b2, Bool.and_self]
      · simp only [toPs, PyData.depthAll]; omega
theorem LentAt.dp {n : Nat} (h : LentAt K Z H v d) (f : flat n d = true) : Dp K H v (toP d) ∧ (toP d).canLay0 = true ∧ (toP d).depth ≤ n := by
  cases d with
  | lst l =>
    obtain ⟨a, xs, rfl, e, r⟩ := h
    cases n with
    | zero => cases f
    | succ n =>
      obtain ⟨a, b, c⟩ := r.dp f
      exact ⟨by simp only [toP]; exact .lst (.of e) a, by simp only [toP, PyData.canLay0]; exact b, by simp only [toP, PyData.depth]; omega⟩
  | dct t l => cases n <;> cases f
  | _ => exact Rep.dp n (h.rep rfl) f
theorem LentAt.shaped (h : LentAt K Z H v d) (f : flat 60 d = true) : Dp K H v (toP d) ∧ SeqAt.shaped (toP d) = true := by
  obtain ⟨a, b, c⟩ := h.dp f
  refine ⟨a, ?_⟩
  unfold SeqAt.shaped
  rw [b, decide_eq_true (by omega)]
  rfl
end

/-! ### operations by data -/
def addD : D → D → (T → Prop) → Prop
  | .int i, .int j, P => P (.val (.int (i + j)))
  | .str x, .str y, P => x.length + y.length ≤ 16777216 ∧ P (.val (.str (x ++ y)))
  | .lst x, .lst y, P => x.length + y.length ≤ 16777216 ∧ P (.tmp (.lst (x ++ y)))
  | .tup x, .tup y, P => x.length + y.length ≤ 16777216 ∧ P (.val (.tup (x ++ y)))
  | _, _, _ => False
def subD : D → D → (T → Prop) → Prop
  | .int i, .int j, P => P (.val (.int (i - j)))
  | _, _, _ => False
/-- small: one factor below 2^64; else together below a million bits -/
def MulOK (i j : Int) : Prop := (i.natAbs < 18446744073709551616 ∨ j.natAbs < 18446744073709551616) ∨ CMulW i j
def mulD : D → D → (T → Prop) → Prop
  | .int i, .int j, P => MulOK i j ∧ P (.val (.int (i * j)))
  | .str x, .int j, P => 0 ≤ j ∧ j ≤ 1048576 ∧ x.length * j.toNat ≤ 16777216 ∧ P (.val (.str (List.flatten (List.replicate j.toNat x))))
  | .lst x, .int j, P => 0 ≤ j ∧ j ≤ 1048576 ∧ x.length * j.toNat ≤ 16777216 ∧ P (.tmp (.lst (List.flatten (List.replicate j.toNat x))))
  | _, _, _ => False
def fdivD : D → D → (T → Prop) → Prop
  | .int i, .int j, P => 0 < j ∧ j < 1073741824 ∧ P (.val (.int (i / j)))
  | _, _, _ => False
def modD : D → D → (T → Prop) → Prop
  | .int i, .int j, P => 0 < j ∧ P (.val (.int (i % j)))
  | _, _, _ => False
def powD : D → D → (T → Prop) → Prop
  | .int i, .int j, P => 0 ≤ j ∧ j ≤ 1000000 ∧ i.natAbs < 18446744073709551616 ∧ P (.val (.int (i ^ j.toNat)))
  | _, _, _ => False
def eqD (a b : D) (P : T → Prop) : Prop := flat 60 a = true ∧ flat 60 b = true ∧ P (.val (.bl (eqb a b)))
def neD (a b : D) (P : T → Prop) : Prop := flat 60 a = true ∧ flat 60 b = true ∧ P (.val (.bl (!eqb a b)))
/-- signs in order -/
def ltL (x y : List Nat) : Bool := decide (x < y)
def ltD : D → D → (T → Prop) → Prop
  | .int i, .int j, P => P (.val (.bl (decide (i < j))))
  | .str x, .str y, P => P (.val (.bl (ltL x y)))
  | _, _, _ => False
def gtD : D → D → (T → Prop) → Prop
  | .int i, .int j, P => P (.val (.bl (decide (j < i))))
  | .str x, .str y, P => P (.val (.bl (ltL y x)))
  | _, _, _ => False
def leD : D → D → (T → Prop) → Prop
  | .int i, .int j, P => P (.val (.bl (decide (i ≤ j))))
  | .str x, .str y, P => P (.val (.bl (!ltL y x)))
  | _, _, _ => False
def geD : D → D → (T → Prop) → Prop
  | .int i, .int j, P => P (.val (.bl (decide (j ≤ i))))
  | .str x, .str y, P => P (.val (.bl (!ltL x y)))
  | _, _, _ => False
def isD : D → D → (T → Prop) → Prop
  | d, .non, P => P (.val (.bl (match d with | .non => true | _ => false)))
  | d, .bl b, P => P (.val (.bl (match d with | .bl c => c == b | _ => false)))
  | _, _, _ => False
def isntD : D → D → (T → Prop) → Prop
  | d, .non, P => P (.val (.bl (match d with | .non => false | _ => true)))
  | _, _, _ => False
section
variable {X : Cx}
theorem OpR.or {f : Value → Value → Sem Value} {r r' : R2} (h : OpR X f r) (h' : OpR X f r') : OpR X f (fun x y H Q => r x y H Q ∨ r' x y H Q) := fun pins s σ H x y v u Q I rx ry q => by
  rcases q with q | q
  · exact h pins s σ H x y v u Q I rx ry q
  · exact h' pins s σ H x y v u Q I rx ry q
theorem natAbs64 {i : Int} (h : i.natAbs < 18446744073709551616) : -(2 ^ 64) < i ∧ i < 2 ^ 64 := by
  have e : (2 : Int) ^ 64 = 18446744073709551616 := by decide
  rw [e]; omega
theorem sok_append {a b : List Nat} (h : SOk a) (k : SOk b) : SOk (a ++ b) := fun c m => by
  rcases List.mem_append.mp m with m | m
  · exact h c m
  · exact k c m
theorem rep_str {K : PySem.W.Frag} {Z : Addr → Prop} {H : Hp} {s : Str} {l : List Nat} (e : s.cps.toList = l) (h : SOk l) : Rep K Z H (.str s) (.str l) := by
  subst e
  exact .str s h
theorem len_cps {s : Str} {l : List Nat} (e : s.cps.toList = l) : s.length = l.length := by
  subst e
  simp [Str.length]
theorem cps_append (s t : Str) : (s ++ t).cps.toList = s.cps.toList ++ t.cps.toList := by
  show (s.cps ++ t.cps).toList = _
  simp
theorem op_addD : OpD X (binaryOp .Add) addD := by
  refine ⟨_, OpR.or op_add (OpR.or op_add_str (OpR.or op_cat op_catA)), fun Z H x y d1 d2 P Q l1 l2 f k => ?_⟩
  cases d1 with
  | int i =>
    cases d2 with
    | int j =>
      cases l1.int; cases l2.int
      exact .inl ⟨i, j, rfl, rfl, k (.val (.int (i + j))) _ H Ext.refl (Rep.int _) f⟩
    | _ => exact f.elim
  | str a =>
    cases d2 with
    | str b =>
      obtain ⟨s, rfl, e1, o1⟩ := l1.str
      obtain ⟨t, rfl, e2, o2⟩ := l2.str
      obtain ⟨f1, f2⟩ := f
      refine .inr (.inl ⟨s, t, rfl, rfl, ?_, k (.val (.str (a ++ b))) _ H Ext.refl (rep_str ?_ (sok_append o1 o2)) f2⟩)
      · rw [len_cps e1, len_cps e2, sizeLine_eq]; exact f1
      · rw [cps_append, e1, e2]
    | _ => exact f.elim
  | lst a =>
    cases d2 with
    | lst b =>
      obtain ⟨p, xs, rfl, e1, r1⟩ := l1.lst
      obtain ⟨q, ys, rfl, e2, r2⟩ := l2.lst
      obtain ⟨f1, f2⟩ := f
      refine .inr (.inr (.inl ⟨p, q, xs, ys, rfl, rfl, e1, e2, ?_, fun n np => ?_⟩))
      · rw [r1.length, r2.length, sizeLine_eq]; exact f1
      · exact k (.tmp (.lst (a ++ b))) _ _ (Ext.new np) (resL np (r1.append r2)) f2
    | _ => exact f.elim
  | tup a =>
    cases d2 with
    | tup b =>
      obtain ⟨p, xs, rfl, e1, r1⟩ := l1.tup
      obtain ⟨q, ys, rfl, e2, r2⟩ := l2.tup
      obtain ⟨f1, f2⟩ := f
      refine .inr (.inr (.inr ⟨p, q, xs, ys, rfl, rfl, .of e1, .of e2, ?_, fun h => ?_, fun _ h => ?_, fun _ _ n np => ?_⟩))
      · rw [r1.length, r2.length, sizeLine_eq]; exact f1
      · subst h
        cases r1
        exact k (.val (.tup b)) _ H Ext.refl (Rep.tup e2 r2) f2
      · subst h
        cases r2
        exact k (.val (.tup a)) _ H Ext.refl (Rep.tup e1 r1) (by simpa using f2)
      · exact k (.val (.tup (a ++ b))) _ _ (Ext.new np) (resT np (r1.append r2)) f2
    | _ => exact f.elim
  | _ => exact f.elim
theorem op_int {fn : Value → Value → Sem Value} {C : Int → Int → Prop} {h : Int → Int → Int} {f : D → D → (T → Prop) → Prop} (ho : OpR X fn (rI C fun i j => .int (h i j)))
    (hf : ∀ d1 d2 P, f d1 d2 P → ∃ i j, d1 = .int i ∧ d2 = .int j ∧ C i j ∧ P (.val (.int (h i j)))) : OpD X fn f := by
  refine ⟨_, ho, fun Z H x y d1 d2 P Q l1 l2 f k => ?_⟩
  obtain ⟨i, j, rfl, rfl, c, q⟩ := hf _ _ _ f
  cases l1.int; cases l2.int
  exact ⟨i, j, rfl, rfl, c, k (.val (.int (h i j))) _ H Ext.refl (Rep.int _) q⟩
theorem op_subD : OpD X (binaryOp .Sub) subD := by
  refine ⟨_, op_sub, fun Z H x y d1 d2 P Q l1 l2 f k => ?_⟩
  cases d1 with
  | int i =>
    cases d2 with
    | int j =>
      cases l1.int; cases l2.int
      exact ⟨i, j, rfl, rfl, k (.val (.int (i - j))) _ H Ext.refl (Rep.int _) f⟩
    | _ => exact f.elim
  | _ => exact f.elim
theorem op_fdivD : OpD X (binaryOp .FloorDiv) fdivD := op_int op_fdiv fun d1 d2 P f => by
  cases d1 with
  | int i =>
    cases d2 with
    | int j => exact ⟨i, j, rfl, rfl, ⟨f.1, f.2.1⟩, f.2.2⟩
    | _ => exact f.elim
  | _ => exact f.elim
theorem op_modD : OpD X (binaryOp .Mod) modD := op_int op_mod fun d1 d2 P f => by
  cases d1 with
  | int i =>
    cases d2 with
    | int j => exact ⟨i, j, rfl, rfl, f.1, f.2⟩
    | _ => exact f.elim
  | _ => exact f.elim
theorem op_powD : OpD X (binaryOp .Pow) powD := op_int op_pow fun d1 d2 P f => by
  cases d1 with
  | int i =>
    cases d2 with
    | int j => exact ⟨i, j, rfl, rfl, ⟨f.1, f.2.1, f.2.2.1⟩, f.2.2.2⟩
    | _ => exact f.elim
  | _ => exact f.elim
theorem op_eqDD (hu : X.A.units + 64 < cLine) : OpD X (compareOp .Eq) eqD := by
  refine ⟨_, op_eqD hu, fun Z H x y d1 d2 P Q l1 l2 f k => ?_⟩
  obtain ⟨f1, f2, f3⟩ := f
  obtain ⟨a1, a2⟩ := l1.shaped f1
  obtain ⟨b1, b2⟩ := l2.shaped f2
  refine ⟨toP d1, toP d2, a1, b1, a2, b2, ?_⟩
  rw [eqv_toP 60 _ _ f1 f2]
  exact k (.val (.bl (eqb d1 d2))) _ H Ext.refl (Rep.bl _) f3
theorem op_neDD (hu : X.A.units + 64 < cLine) : OpD X (compareOp .NotEq) neD := by
  refine ⟨_, op_neD hu, fun Z H x y d1 d2 P Q l1 l2 f k => ?_⟩
  obtain ⟨f1, f2, f3⟩ := f
  obtain ⟨a1, a2⟩ := l1.shaped f1
  obtain ⟨b1, b2⟩ := l2.shaped f2
  refine ⟨toP d1, toP d2, a1, b1, a2, b2, ?_⟩
  rw [eqv_toP 60 _ _ f1 f2]
  exact k (.val (.bl (!eqb d1 d2))) _ H Ext.refl (Rep.bl _) f3
theorem op_ord {fn : Value → Value → Sem Value} {g1 : Int → Int → Bool} {g2 : List Nat → List Nat → Bool} {f : D → D → (T → Prop) → Prop} {r : R2} (ho : OpR X fn (rI0 fun i j => .bl (g1 i j))) (ho' : OpR X fn r)
    (hr : ∀ (i j : Str) H Q, Q (.bl (g2 i.cps.toList j.cps.toList)) H → r (.str i) (.str j) H Q)
    (hf : ∀ d1 d2 P, f d1 d2 P → (∃ i j, d1 = .int i ∧ d2 = .int j ∧ P (.val (.bl (g1 i j)))) ∨ ∃ i j, d1 = .str i ∧ d2 = .str j ∧ P (.val (.bl (g2 i j)))) : OpD X fn f := by
  refine ⟨_, OpR.or ho ho', fun Z H x y d1 d2 P Q l1 l2 f k => ?_⟩
  rcases hf _ _ _ f with ⟨i, j, rfl, rfl, q⟩ | ⟨i, j, rfl, rfl, q⟩
  · cases l1.int; cases l2.int
    exact .inl ⟨i, j, rfl, rfl, k (.val (.bl (g1 i j))) _ H Ext.refl (Rep.bl _) q⟩
  · obtain ⟨s, rfl, e1, o1⟩ := l1.str
    obtain ⟨t, rfl, e2, o2⟩ := l2.str
    refine .inr (hr s t H Q ?_)
    rw [e1, e2]
    exact k (.val (.bl (g2 i j))) _ H Ext.refl (Rep.bl _) q
theorem op_ltD : OpD X (compareOp .Lt) ltD := op_ord (g2 := ltL) op_lt op_lt_str (fun i j H Q q => ⟨i, j, rfl, rfl, q⟩) fun d1 d2 P f => by
  cases d1 with
  | int i => cases d2 with
    | int j => exact .inl ⟨i, j, rfl, rfl, f⟩
    | _ => exact f.elim
  | str i => cases d2 with
    | str j => exact .inr ⟨i, j, rfl, rfl, f⟩
    | _ => exact f.elim
  | _ => exact f.elim
theorem op_gtD : OpD X (compareOp .Gt) gtD := op_ord (g2 := fun a b => ltL b a) op_gt op_gt_str (fun i j H Q q => ⟨i, j, rfl, rfl, q⟩) fun d1 d2 P f => by
  cases d1 with
  | int i => cases d2 with
    | int j => exact .inl ⟨i, j, rfl, rfl, f⟩
    | _ => exact f.elim
  | str i => cases d2 with
    | str j => exact .inr ⟨i, j, rfl, rfl, f⟩
    | _ => exact f.elim
  | _ => exact f.elim
theorem op_leD : OpD X (compareOp .LtE) leD := op_ord (g2 := fun a b => !ltL b a) op_le op_le_str (fun i j H Q q => ⟨i, j, rfl, rfl, q⟩) fun d1 d2 P f => by
  cases d1 with
  | int i => cases d2 with
    | int j => exact .inl ⟨i, j, rfl, rfl, f⟩
    | _ => exact f.elim
  | str i => cases d2 with
    | str j => exact .inr ⟨i, j, rfl, rfl, f⟩
    | _ => exact f.elim
  | _ => exact f.elim
theorem op_geD : OpD X (compareOp .GtE) geD := op_ord (g2 := fun a b => !ltL a b) op_ge op_ge_str (fun i j H Q q => ⟨i, j, rfl, rfl, q⟩) fun d1 d2 P f => by
  cases d1 with
  | int i => cases d2 with
    | int j => exact .inl ⟨i, j, rfl, rfl, f⟩
    | _ => exact f.elim
  | str i => cases d2 with
    | str j => exact .inr ⟨i, j, rfl, rfl, f⟩
    | _ => exact f.elim
  | _ => exact f.elim
end
end VS
namespace VS
open PySem PySem.Spec PyProof.Rows L2

/-! ### keys -/
def isKey : D → Bool
  | .int _ => true
  | .str _ => true
  | _ => false
def keyD : D → Key
  | .int i => .inl i
  | .str l => .inr ⟨l.toArray⟩
  | _ => .inl 0
theorem kD_keyD : ∀ {d : D}, isKey d = true → kD (keyD d) = d
  | .int i, _ => rfl
  | .str l, _ => by simp [keyD, kD]
theorem kD_inj : ∀ {j k : Key}, kD j = kD k → j = k
  | .inl i, .inl j, h => by simp [kD] at h; rw [h]
  | .inr s, .inr t, h => by
    simp only [kD, D.str.injEq] at h
    cases s; cases t
    simp at h
    rw [h]
  | .inl _, .inr _, h => by simp [kD] at h
  | .inr _, .inl _, h => by simp [kD] at h
theorem eqb_kD (j k : Key) : eqb (kD j) (kD k) = decide (j = k) := by
  cases j with
  | inl i => cases k with
    | inl j => simp [kD, eqb]
    | inr t => simp [kD, eqb]
  | inr s => cases k with
    | inl j => simp [kD, eqb]
    | inr t =>
      simp only [kD, eqb]
      rw [Bool.eq_iff_iff]
      simp only [decide_eq_true_eq]
      constructor
      · intro h; exact kD_inj (by simp [kD, h])
      · intro h; cases h; rfl
theorem eqbs_kD : ∀ (j k : List Key), eqbs (j.map kD) (k.map kD) = decide (j = k)
  | [], [] => by simp [eqbs]
  | [], _ :: _ => by simp [eqbs]
  | _ :: _, [] => by simp [eqbs]
  | a :: j, b :: k => by
    simp only [List.map_cons, eqbs, eqb_kD, eqbs_kD j k]
    rw [Bool.eq_iff_iff]
    simp
theorem eqb_tK (j k : List Key) : eqb (.tup (j.map kD)) (.tup (k.map kD)) = decide (j = k) := by
  show eqbs (j.map kD) (k.map kD) = _
  exact eqbs_kD j k
def lookD : List (D × D) → D → Option D
  | [], _ => none
  | (j, v) :: l, k => if eqb j k = true then some v else lookD l k
def putD (l : List (D × D)) (k v : D) : List (D × D) :=
  if (l.any fun p => eqb p.1 k) = true then l.map (fun p => if eqb p.1 k = true then (p.1, v) else p) else l ++ [(k, v)]
def dropD : List (D × D) → D → List (D × D)
  | [], _ => []
  | (j, v) :: l, k => if eqb j k = true then dropD l k else (j, v) :: dropD l k
section
variable {K : PySem.W.Frag} {Z : Addr → Prop} {H : Hp} {v : V} {d : D}
theorem RepK.look (k : Key) : ∀ {kvs : List (Key × V)} {l : List (D × D)}, RepK K Z H kvs l → (valV kvs k = none ∧ lookD l (kD k) = none) ∨ ∃ v d, valV kvs k = some v ∧ lookD l (kD k) = some d ∧ Rep K Z H v d
  | _, _, .nil => .inl ⟨rfl, rfl⟩
  | _, _, @RepK.cons _ _ _ j v kvs d l h r => by
    unfold lookD
    rw [eqb_kD]
    by_cases e : j = k
    · subst e
      rw [valV_pos rfl, decide_eq_true rfl, if_pos rfl]
      exact .inr ⟨v, d, rfl, rfl, h⟩
    · rw [valV_neg (p := (j, v)) e, decide_eq_false e, if_neg Bool.false_ne_true]
      exact r.look k
theorem RepT.look (k : List Key) : ∀ {kvs : List (List Key × V)} {l : List (D × D)}, RepT K Z H kvs l → (valV kvs k = none ∧ lookD l (.tup (k.map kD)) = none) ∨ ∃ v d, valV kvs k = some v ∧ lookD l (.tup (k.map kD)) = some d ∧ Rep K Z H v d
  | _, _, .nil => .inl ⟨rfl, rfl⟩
  | _, _, @RepT.cons _ _ _ j v kvs d l h r => by
    unfold lookD
    rw [eqb_tK]
    by_cases e : j = k
    · subst e
      rw [valV_pos rfl, decide_eq_true rfl, if_pos rfl]
      exact .inr ⟨v, d, rfl, rfl, h⟩
    · rw [valV_neg (p := (j, v)) e, decide_eq_false e, if_neg Bool.false_ne_true]
      exact r.look k
theorem RepK.length : ∀ {kvs : List (Key × V)} {l : List (D × D)}, RepK K Z H kvs l → kvs.length = l.length
  | _, _, .nil => rfl
  | _, _, .cons _ r => by simp [r.length]
theorem RepT.length : ∀ {kvs : List (List Key × V)} {l : List (D × D)}, RepT K Z H kvs l → kvs.length = l.length
  | _, _, .nil => rfl
  | _, _, .cons _ r => by simp [r.length]
theorem Rep.key (h : Rep K Z H v d) (k : isKey d = true) : v = kV (keyD d) := by
  cases h with
  | int i => rfl
  | str s _ => rfl
  | _ => cases k
theorem Reps.keys : ∀ {xs : List V} {ds : List D}, Reps K Z H xs ds → ds.all isKey = true → xs = (ds.map keyD).map kV
  | _, _, .nil, _ => rfl
  | _, _, .cons h r, k => by
    simp only [List.all_cons, Bool.and_eq_true] at k
    rw [List.map_cons, List.map_cons, ← h.key k.1, ← r.keys k.2]
theorem keyDs : ∀ {ds : List D}, ds.all isKey = true → (ds.map keyD).map kD = ds
  | [], _ => rfl
  | d :: ds, k => by
    simp only [List.all_cons, Bool.and_eq_true] at k
    rw [List.map_cons, List.map_cons, kD_keyD k.1, keyDs k.2]
/-- what may be a key of such a dict -/
def keyFor : Bool → D → Bool
  | false, d => isKey d
  | true, .tup l => l.all isKey
  | true, _ => false
/-- a dict asked -/
theorem LentAt.dget {w : V} {k : D} {b : Bool} {l : List (D × D)} (hd : LentAt K Z H v (.dct b l)) (hk : LentAt K Z H w k) (f : keyFor b k = true) :
    ∃ a, v = .ref a ∧ ((lookD l k = none ∧ DGet H a w none) ∨ ∃ x d, lookD l k = some d ∧ Rep K Z H x d ∧ DGet H a w (some x)) := by
  cases b with
  | false =>
    obtain ⟨a, kvs, rfl, r, m⟩ := hd
    refine ⟨a, rfl, ?_⟩
    have fk : isKey k = true := f
    have hk' : Rep K Z H w k := hk.rep (by cases k <;> first | rfl | cases fk)
    have e1 := hk'.key fk
    have e2 := kD_keyD fk
    rcases m.look (keyD k) with ⟨x, y⟩ | ⟨x, d, y, z, u⟩
    · rw [e2] at y
      exact .inl ⟨y, .inl ⟨kvs, keyD k, r, e1, x.symm⟩⟩
    · rw [e2] at z
      exact .inr ⟨x, d, z, u, .inl ⟨kvs, keyD k, r, e1, y.symm⟩⟩
  | true =>
    obtain ⟨a, kvs, rfl, r, m⟩ := hd
    refine ⟨a, rfl, ?_⟩
    cases k with
    | tup ks =>
      have fk : ks.all isKey = true := f
      obtain ⟨b, xs, rfl, hb, rr⟩ := hk.tup
      have e1 := rr.keys fk
      have e2 := keyDs fk
      subst e1
      rcases m.look (ks.map keyD) with ⟨x, y⟩ | ⟨x, d, y, z, u⟩
      · rw [e2] at y
        exact .inl ⟨y, .inr ⟨kvs, _, b, r, rfl, hb, x.symm⟩⟩
      · rw [e2] at z
        exact .inr ⟨x, d, z, u, .inr ⟨kvs, _, b, r, rfl, hb, y.symm⟩⟩
    | _ => cases f
/-- a dict written -/
theorem RepK.any (k : Key) : ∀ {kvs : List (Key × V)} {l : List (D × D)}, RepK K Z H kvs l → (kvs.any fun kv => decide (kv.1 = k)) = (l.any fun p => eqb p.1 (kD k))
  | _, _, .nil => rfl
  | _, _, .cons _ r => by rw [List.any_cons, List.any_cons, r.any k, eqb_kD]
theorem RepT.any (k : List Key) : ∀ {kvs : List (List Key × V)} {l : List (D × D)}, RepT K Z H kvs l → (kvs.any fun kv => decide (kv.1 = k)) = (l.any fun p => eqb p.1 (.tup (k.map kD)))
  | _, _, .nil => rfl
  | _, _, .cons _ r => by rw [List.any_cons, List.any_cons, r.any k, eqb_tK]
theorem RepK.append : ∀ {kvs kvs' : List (Key × V)} {l l' : List (D × D)}, RepK K Z H kvs l → RepK K Z H kvs' l' → RepK K Z H (kvs ++ kvs') (l ++ l')
  | _, _, _, _, .nil, s => s
  | _, _, _, _, .cons h r, s => .cons h (r.append s)
theorem RepT.append : ∀ {kvs kvs' : List (List Key × V)} {l l' : List (D × D)}, RepT K Z H kvs l → RepT K Z H kvs' l' → RepT K Z H (kvs ++ kvs') (l ++ l')
  | _, _, _, _, .nil, s => s
  | _, _, _, _, .cons h r, s => .cons h (r.append s)
theorem RepK.repl (k : Key) (h : Rep K Z H v d) : ∀ {kvs : List (Key × V)} {l : List (D × D)}, RepK K Z H kvs l → RepK K Z H (kvs.map fun kv => if kv.1 = k then (kv.1, v) else kv) (l.map fun p => if eqb p.1 (kD k) = true then (p.1, d) else p)
  | _, _, .nil => .nil
  | _, _, @RepK.cons _ _ _ j w kvs e l hw r => by
    rw [List.map_cons, List.map_cons]
    have e1 : eqb (kD j) (kD k) = decide (j = k) := eqb_kD j k
    by_cases q : j = k
    · rw [decide_eq_true q] at e1
      simp only [q, if_true] at e1 ⊢
      rw [e1, if_pos rfl]
      exact .cons h (r.repl k h)
    · rw [decide_eq_false q] at e1
      simp only [q, if_false] at e1 ⊢
      rw [e1, if_neg Bool.false_ne_true]
      exact .cons hw (r.repl k h)
theorem RepT.repl (k : List Key) (h : Rep K Z H v d) : ∀ {kvs : List (List Key × V)} {l : List (D × D)}, RepT K Z H kvs l → RepT K Z H (kvs.map fun kv => if kv.1 = k then (kv.1, v) else kv) (l.map fun p => if eqb p.1 (.tup (k.map kD)) = true then (p.1, d) else p)
  | _, _, .nil => .nil
  | _, _, @RepT.cons _ _ _ j w kvs e l hw r => by
    rw [List.map_cons, List.map_cons]
    have e1 := eqb_tK j k
    by_cases q : j = k
    · rw [decide_eq_true q] at e1
      simp only [q, if_true] at e1 ⊢
      rw [e1, if_pos rfl]
      exact .cons h (r.repl k h)
    · rw [decide_eq_false q] at e1
      simp only [q, if_false] at e1 ⊢
      rw [e1, if_neg Bool.false_ne_true]
      exact .cons hw (r.repl k h)
theorem RepK.put (k : Key) (h : Rep K Z H v d) {kvs : List (Key × V)} {l : List (D × D)} (r : RepK K Z H kvs l) : RepK K Z H (putK kvs k v) (putD l (kD k) d) := by
  unfold putK putD
  rw [r.any k]
  by_cases a : (l.any fun p => eqb p.1 (kD k)) = true
  · rw [if_pos a, if_pos a]; exact r.repl k h
  · rw [if_neg a, if_neg a]; exact r.append (.cons h .nil)
theorem RepT.put (k : List Key) (h : Rep K Z H v d) {kvs : List (List Key × V)} {l : List (D × D)} (r : RepT K Z H kvs l) : RepT K Z H (putK kvs k v) (putD l (.tup (k.map kD)) d) := by
  unfold putK putD
  rw [r.any k]
  by_cases a : (l.any fun p => eqb p.1 (.tup (k.map kD))) = true
  · rw [if_pos a, if_pos a]; exact r.repl k h
  · rw [if_neg a, if_neg a]; exact r.append (.cons h .nil)
end

/-! ### operations -/
def inD : D → D → (T → Prop) → Prop
  | d, .lst l, P => flat 60 d = true ∧ flat 60 (.lst l) = true ∧ P (.val (.bl (l.any fun z => eqb z d)))
  | d, .tup l, P => flat 0 d = true ∧ l.all (flat 0) = true ∧ P (.val (.bl (l.any fun z => eqb z d)))
  | .str [c], .str s, P => P (.val (.bl (decide (c ∈ s))))
  | d, .dct b l, P => keyFor b d = true ∧ P (.val (.bl (lookD l d).isSome))
  | _, _, _ => False
def notinD : D → D → (T → Prop) → Prop
  | d, .lst l, P => flat 60 d = true ∧ flat 60 (.lst l) = true ∧ P (.val (.bl (!l.any fun z => eqb z d)))
  | d, .tup l, P => flat 0 d = true ∧ l.all (flat 0) = true ∧ P (.val (.bl (!l.any fun z => eqb z d)))
  | .str [c], .str s, P => P (.val (.bl (!decide (c ∈ s))))
  | d, .dct b l, P => keyFor b d = true ∧ P (.val (.bl (!(lookD l d).isSome)))
  | _, _, _ => False
/-- o[i] -/
def ixD : D → D → (T → Prop) → Prop
  | .lst l, .int i, P => ∃ d, atI l i = some d ∧ P (.val d)
  | .tup l, .int i, P => ∃ d, atI l i = some d ∧ P (.val d)
  | .str s, .int i, P => s.length ≤ 16777216 ∧ ∃ c, atI s i = some c ∧ P (.val (.str [c]))
  | .scr l, .int i, P => ∃ d, atI l i = some d ∧ P (.val (.int d))
  | .dct b l, k, P => keyFor b k = true ∧ ∃ d, lookD l k = some d ∧ P (.val d)
  | _, _, _ => False
section
variable {X : Cx}
theorem str_one {K : PySem.W.Frag} {Z : Addr → Prop} {H : Hp} {v : V} {c : Nat} (h : LentAt K Z H v (.str [c])) : v = .str ⟨#[c]⟩ := by
  obtain ⟨s, rfl, e, _⟩ := h.str
  cases s with
  | mk a =>
    simp at e
    have : a = #[c] := by
      cases a
      simp at e
      rw [e]
    rw [this]
def rInAny (K : PySem.W.Frag) : R2 := fun x y H Q => (∃ d ds, Dp K H x d ∧ Dp K H y (.list ds) ∧ SeqAt.shaped d = true ∧ SeqAt.shaped (.list ds) = true ∧ Q (.bl (ds.any fun z => PyData.eqv z d)) H) ∨
  (∃ (c : Nat) (z : Str), x = .str ⟨#[c]⟩ ∧ y = .str z ∧ Q (.bl (decide (c ∈ z.cps.toList))) H) ∨ (∃ a o, y = .ref a ∧ DGet H a x o ∧ Q (.bl o.isSome) H) ∨ rIn K false x y H Q
def rNotInAny (K : PySem.W.Frag) : R2 := fun x y H Q => (∃ d ds, Dp K H x d ∧ Dp K H y (.list ds) ∧ SeqAt.shaped d = true ∧ SeqAt.shaped (.list ds) = true ∧ Q (.bl (!ds.any fun z => PyData.eqv z d)) H) ∨
  (∃ (c : Nat) (z : Str), x = .str ⟨#[c]⟩ ∧ y = .str z ∧ Q (.bl (!decide (c ∈ z.cps.toList))) H) ∨ (∃ a o, y = .ref a ∧ DGet H a x o ∧ Q (.bl (!o.isSome)) H) ∨ rIn K true x y H Q
theorem op_inAny (hu : X.A.units + 65 < cLine) : OpR X (compareOp .In) (rInAny X.K) := by
  refine OpR.or (op_inD hu) (OpR.or op_in_sign (OpR.or ?_ op_in_seq))
  intro pins s σ H x y v u Q I rx ry h
  obtain ⟨a, o, rfl, g, q⟩ := h
  cases ry
  exact d_in (by omega) I g rx fun s' I' => ⟨.bl _, H, I', rfl, q⟩
theorem op_notInAny (hu : X.A.units + 65 < cLine) : OpR X (compareOp .NotIn) (rNotInAny X.K) := by
  refine OpR.or (op_notInD hu) (OpR.or op_notIn_sign (OpR.or ?_ op_notIn_seq))
  intro pins s σ H x y v u Q I rx ry h
  obtain ⟨a, o, rfl, g, q⟩ := h
  cases ry
  exact d_notIn (by omega) I g rx fun s' I' => ⟨.bl _, H, I', rfl, q⟩
theorem any_toP {l : List D} {d : D} (h : flat 60 d = true) (h2 : flat 60 (.lst l) = true) : ((toPs l).any fun z => PyData.eqv z (toP d)) = l.any fun z => eqb z d := by
  rw [toPs_map, List.any_map]
  have h2 : l.all (flat 59) = true := h2
  rw [List.all_eq_true] at h2
  have : ∀ m : List D, (∀ x ∈ m, flat 59 x = true) → (m.any ((fun z => PyData.eqv z (toP d)) ∘ toP)) = m.any fun z => eqb z d := by
    intro m
    induction m with
    | nil => intro _; rfl
    | cons x m ih =>
      intro hm
      rw [List.any_cons, List.any_cons, ih fun y q => hm y (List.mem_cons_of_mem _ q)]
      show (PyData.eqv (toP x) (toP d) || _) = _
      rw [eqv_toP 60 _ _ (flat_succ (hm x List.mem_cons_self)) h]
  exact this l h2
theorem flatV_of {K : PySem.W.Frag} {Z : Addr → Prop} {H : Hp} {v : V} {d : D} (h : Rep K Z H v d) (f : flat 0 d = true) : flatV v = true := by
  cases h <;> first | rfl | exact absurd f Bool.false_ne_true
theorem eqV_of {K : PySem.W.Frag} {Z : Addr → Prop} {H : Hp} {v w : V} {d e : D} (h : Rep K Z H v d) (k : Rep K Z H w e) (f : flat 0 d = true) (f' : flat 0 e = true) : eqV v w = eqb d e := by
  have ns : ∀ {s : List Nat}, SOk s → True := fun _ => trivial
  cases h <;> first | exact absurd f Bool.false_ne_true | (cases k <;> first | exact absurd f' Bool.false_ne_true | rfl | (simp only [eqV, eqb]; exact str_eq) | (simp only [eqV, eqb]; rw [Bool.eq_iff_iff]; simp))
theorem anyV_of {K : PySem.W.Frag} {Z : Addr → Prop} {H : Hp} {v : V} {d : D} (h : Rep K Z H v d) (f : flat 0 d = true) : ∀ {xs : List V} {ds : List D}, Reps K Z H xs ds → ds.all (flat 0) = true → inV v xs = (ds.any fun z => eqb z d) ∧ xs.all flatV = true
  | _, _, .nil, _ => ⟨rfl, rfl⟩
  | _, _, .cons q r, g => by
    simp only [List.all_cons, Bool.and_eq_true] at g
    obtain ⟨a, b⟩ := anyV_of h f r g.2
    refine ⟨?_, ?_⟩
    · unfold inV at a ⊢
      rw [List.any_cons, List.any_cons, eqV_of q h g.1 f, a]
    · rw [List.all_cons, flatV_of q g.1, b]; rfl
theorem op_inDD (hu : X.A.units + 65 < cLine) : OpD X (compareOp .In) inD := by
  refine ⟨_, op_inAny hu, fun Z H x y d1 d2 P Q l1 l2 f k => ?_⟩
  cases d2 with
  | lst l =>
    have f : flat 60 d1 = true ∧ flat 60 (.lst l) = true ∧ P (.val (.bl (l.any fun z => eqb z d1))) := by cases d1 <;> exact f
    obtain ⟨f1, f2, f3⟩ := f
    obtain ⟨a1, a2⟩ := l1.shaped f1
    obtain ⟨b1, b2⟩ := l2.shaped f2
    refine .inl ⟨toP d1, toPs l, a1, b1, a2, b2, ?_⟩
    rw [any_toP f1 f2]
    exact k (.val (.bl _)) _ H Ext.refl (Rep.bl _) f3
  | tup l =>
    have f : flat 0 d1 = true ∧ l.all (flat 0) = true ∧ P (.val (.bl (l.any fun z => eqb z d1))) := by cases d1 <;> exact f
    obtain ⟨f1, f2, f3⟩ := f
    obtain ⟨a, xs, rfl, e, r⟩ := l2.tup
    have h1 : Rep X.K Z H x d1 := l1.rep (by cases d1 <;> first | rfl | exact absurd f1 Bool.false_ne_true)
    obtain ⟨a1, a2⟩ := anyV_of h1 f1 r f2
    refine .inr (.inr (.inr ⟨a, xs, rfl, .inr (.of e), flatV_of h1 f1, a2, ?_⟩))
    show Q (.bl (inV x xs)) H
    rw [a1]
    exact k (.val (.bl _)) _ H Ext.refl (Rep.bl _) f3
  | str s =>
    cases d1 with
    | str l =>
      match l, l1, f with
      | [c], l1, f =>
        obtain ⟨t, rfl, e, o⟩ := l2.str
        cases str_one l1
        refine .inr (.inl ⟨c, t, rfl, rfl, ?_⟩)
        rw [e]
        exact k (.val (.bl _)) _ H Ext.refl (Rep.bl _) f
    | _ => exact f.elim
  | dct b l =>
    have f : keyFor b d1 = true ∧ P (.val (.bl (lookD l d1).isSome)) := by cases d1 <;> exact f
    obtain ⟨f1, f2⟩ := f
    obtain ⟨a, rfl, g⟩ := l2.dget l1 f1
    rcases g with ⟨e, g⟩ | ⟨z, d, e, _, g⟩
    · rw [e] at f2
      exact .inr (.inr (.inl ⟨a, none, rfl, g, k (.val (.bl false)) _ H Ext.refl (Rep.bl _) f2⟩))
    · rw [e] at f2
      exact .inr (.inr (.inl ⟨a, some z, rfl, g, k (.val (.bl true)) _ H Ext.refl (Rep.bl _) f2⟩))
  | _ => cases d1 <;> first | exact f.elim | (rename_i l; match l, f with | [_], f => exact f.elim)
theorem op_notinDD (hu : X.A.units + 65 < cLine) : OpD X (compareOp .NotIn) notinD := by
  refine ⟨_, op_notInAny hu, fun Z H x y d1 d2 P Q l1 l2 f k => ?_⟩
  cases d2 with
  | lst l =>
    have f : flat 60 d1 = true ∧ flat 60 (.lst l) = true ∧ P (.val (.bl (!l.any fun z => eqb z d1))) := by cases d1 <;> exact f
    obtain ⟨f1, f2, f3⟩ := f
    obtain ⟨a1, a2⟩ := l1.shaped f1
    obtain ⟨b1, b2⟩ := l2.shaped f2
    refine .inl ⟨toP d1, toPs l, a1, b1, a2, b2, ?_⟩
    rw [any_toP f1 f2]
    exact k (.val (.bl _)) _ H Ext.refl (Rep.bl _) f3
  | tup l =>
    have f : flat 0 d1 = true ∧ l.all (flat 0) = true ∧ P (.val (.bl (!l.any fun z => eqb z d1))) := by cases d1 <;> exact f
    obtain ⟨f1, f2, f3⟩ := f
    obtain ⟨a, xs, rfl, e, r⟩ := l2.tup
    have h1 : Rep X.K Z H x d1 := l1.rep (by cases d1 <;> first | rfl | exact absurd f1 Bool.false_ne_true)
    obtain ⟨a1, a2⟩ := anyV_of h1 f1 r f2
    refine .inr (.inr (.inr ⟨a, xs, rfl, .inr (.of e), flatV_of h1 f1, a2, ?_⟩))
    show Q (.bl (!inV x xs)) H
    rw [a1]
    exact k (.val (.bl _)) _ H Ext.refl (Rep.bl _) f3
  | str s =>
    cases d1 with
    | str l =>
      match l, l1, f with
      | [c], l1, f =>
        obtain ⟨t, rfl, e, o⟩ := l2.str
        cases str_one l1
        refine .inr (.inl ⟨c, t, rfl, rfl, ?_⟩)
        rw [e]
        exact k (.val (.bl _)) _ H Ext.refl (Rep.bl _) f
    | _ => exact f.elim
  | dct b l =>
    have f : keyFor b d1 = true ∧ P (.val (.bl (!(lookD l d1).isSome))) := by cases d1 <;> exact f
    obtain ⟨f1, f2⟩ := f
    obtain ⟨a, rfl, g⟩ := l2.dget l1 f1
    rcases g with ⟨e, g⟩ | ⟨z, d, e, _, g⟩
    · rw [e] at f2
      exact .inr (.inr (.inl ⟨a, none, rfl, g, k (.val (.bl true)) _ H Ext.refl (Rep.bl _) f2⟩))
    · rw [e] at f2
      exact .inr (.inr (.inl ⟨a, some z, rfl, g, k (.val (.bl false)) _ H Ext.refl (Rep.bl _) f2⟩))
  | _ => cases d1 <;> first | exact f.elim | (rename_i l; match l, f with | [_], f => exact f.elim)

/-! ### is -/
theorem op_isNon : OpD X (compareOp .Is) (fun d e P => match e with | .non => P (.val (.bl (match d with | .non => true | _ => false))) | _ => False) := by
  refine ⟨_, op_isN, fun Z H x y d1 d2 P Q l1 l2 f k => ?_⟩
  cases d2 with
  | non =>
    refine ⟨l2.non, ?_⟩
    cases d1 with
    | non => cases l1.non; exact k (.val (.bl true)) _ H Ext.refl (Rep.bl _) f
    | lst l => obtain ⟨a, xs, rfl, _⟩ := l1; exact k (.val (.bl false)) _ H Ext.refl (Rep.bl _) f
    | dct b l => cases b <;> (obtain ⟨a, xs, rfl, _⟩ := l1; exact k (.val (.bl false)) _ H Ext.refl (Rep.bl _) f)
    | bl b => cases l1.bl; exact k (.val (.bl false)) _ H Ext.refl (Rep.bl _) f
    | int b => cases l1.int; exact k (.val (.bl false)) _ H Ext.refl (Rep.bl _) f
    | str b => obtain ⟨s, rfl, _⟩ := l1.str; exact k (.val (.bl false)) _ H Ext.refl (Rep.bl _) f
    | tup b => obtain ⟨a, xs, rfl, _⟩ := l1.tup; exact k (.val (.bl false)) _ H Ext.refl (Rep.bl _) f
    | scr b => obtain ⟨a, rfl, _⟩ := l1.scr; exact k (.val (.bl false)) _ H Ext.refl (Rep.bl _) f
  | _ => exact f.elim
theorem op_isntNon : OpD X (compareOp .IsNot) isntD := by
  refine ⟨_, op_notN, fun Z H x y d1 d2 P Q l1 l2 f k => ?_⟩
  cases d2 with
  | non =>
    refine ⟨l2.non, ?_⟩
    cases d1 with
    | non => cases l1.non; exact k (.val (.bl false)) _ H Ext.refl (Rep.bl _) f
    | lst l => obtain ⟨a, xs, rfl, _⟩ := l1; exact k (.val (.bl true)) _ H Ext.refl (Rep.bl _) f
    | dct b l => cases b <;> (obtain ⟨a, xs, rfl, _⟩ := l1; exact k (.val (.bl true)) _ H Ext.refl (Rep.bl _) f)
    | bl b => cases l1.bl; exact k (.val (.bl true)) _ H Ext.refl (Rep.bl _) f
    | int b => cases l1.int; exact k (.val (.bl true)) _ H Ext.refl (Rep.bl _) f
    | str b => obtain ⟨s, rfl, _⟩ := l1.str; exact k (.val (.bl true)) _ H Ext.refl (Rep.bl _) f
    | tup b => obtain ⟨a, xs, rfl, _⟩ := l1.tup; exact k (.val (.bl true)) _ H Ext.refl (Rep.bl _) f
    | scr b => obtain ⟨a, rfl, _⟩ := l1.scr; exact k (.val (.bl true)) _ H Ext.refl (Rep.bl _) f
  | _ => cases d1 <;> exact f.elim
end
end VS
namespace VS
open PySem PySem.Spec PyProof.Rows L2
section
variable {X : Cx}
/-! ### is True, is False, is None -/
def rIsA : R2 := fun x y H Q => (y = .non ∧ Q (.bl (decide (x = .non))) H) ∨ ∃ b, y = .bl b ∧ Q (.bl (decide (x = .bl b))) H
theorem op_isA : OpR X (compareOp .Is) rIsA := by
  refine OpR.or op_isN ?_
  intro pins s σ H x y v u Q I rx ry h
  obtain ⟨b, rfl, q⟩ := h
  cases (show u = Value.bool b from ry)
  have pl : plainIs v (.bool b) = true := by
    cases x with
    | non => cases rx; rfl
    | bl c => cases rx; rfl
    | int i => obtain ⟨t, rfl⟩ := rx; rfl
    | str i => obtain ⟨t, rfl⟩ := rx; rfl
    | byt i => obtain ⟨t, rfl⟩ := rx; rfl
    | flt i => obtain ⟨t, rfl⟩ := rx; rfl
    | ref a => cases rx; rfl
    | ty n => cases rx; rfl
  by_cases e : x = .bl b
  · subst e
    cases rx
    exact wpAny_is_self pl ⟨.bl true, H, I, rfl, by simpa using q⟩
  · refine wpAny_is_other pl (fun z => e ?_) ⟨.bl false, H, I, rfl, by simpa [e] using q⟩
    subst z
    exact RelV.inj rx rfl
theorem op_isD : OpD X (compareOp .Is) isD := by
  refine ⟨_, op_isA, fun Z H x y d1 d2 P Q l1 l2 f k => ?_⟩
  have ref : d1.top = true → ∃ a, x = .ref a := fun h => by
    cases d1 with
    | lst l => obtain ⟨a, xs, e, _⟩ := l1; exact ⟨a, e⟩
    | dct b l => cases b <;> (obtain ⟨a, xs, e, _⟩ := l1; exact ⟨a, e⟩)
    | _ => cases h
  have res : ∀ b, P (.val (.bl b)) → Q (.bl b) H := fun b p => k (.val (.bl b)) _ H Ext.refl (Rep.bl _) p
  cases d2 with
  | non =>
    refine .inl ⟨l2.non, ?_⟩
    cases d1 with
    | non => cases l1.non; exact res _ f
    | bl c => cases l1.bl; exact res _ f
    | int i => cases l1.int; exact res _ f
    | str i => obtain ⟨s, rfl, _⟩ := l1.str; exact res _ f
    | tup i => obtain ⟨a, xs, rfl, _⟩ := l1.tup; exact res _ f
    | lst i => obtain ⟨a, rfl⟩ := ref rfl; exact res _ f
    | dct b i => obtain ⟨a, rfl⟩ := ref rfl; exact res _ f
    | scr i => obtain ⟨a, rfl, _⟩ := l1.scr; exact res _ f
  | bl b =>
    refine .inr ⟨b, l2.bl, ?_⟩
    cases d1 with
    | non => cases l1.non; exact res _ f
    | bl c =>
      cases l1.bl
      have e : (c == b) = decide (V.bl c = V.bl b) := by rw [Bool.eq_iff_iff]; simp
      have f : P (.val (.bl (c == b))) := f
      rw [e] at f
      exact res _ f
    | int i => cases l1.int; exact res _ f
    | str i => obtain ⟨s, rfl, _⟩ := l1.str; exact res _ f
    | tup i => obtain ⟨a, xs, rfl, _⟩ := l1.tup; exact res _ f
    | lst i => obtain ⟨a, rfl⟩ := ref rfl; exact res _ f
    | dct b i => obtain ⟨a, rfl⟩ := ref rfl; exact res _ f
    | scr i => obtain ⟨a, rfl, _⟩ := l1.scr; exact res _ f
  | _ => cases d1 <;> exact f.elim

/-! ### * -/
def rMulS : R2 := fun x y H Q => ∃ (z : Str) (n : Int), x = .str z ∧ y = .int n ∧ MulOk z n ∧ Q (.str (Txt.mul z n)) H
theorem op_mulS : OpR X (binaryOp .Mult) rMulS := by
  intro pins s σ H x y v u Q I rx ry h
  obtain ⟨z, n, rfl, rfl, ok, q⟩ := h
  obtain ⟨t, rfl⟩ := rx
  obtain ⟨t', rfl⟩ := ry
  exact SB.mul ok fun t' k => ⟨.str _, H, I.tok _, ⟨_, rfl⟩, q⟩
theorem mul_list (z : Str) (n : Nat) : (Txt.mul z (n : Int)).cps.toList = (List.replicate n z.cps.toList).flatten := by
  have fold : ∀ (n : Nat) (acc : Array Nat), ((List.replicate n z.cps).foldl (· ++ ·) acc).toList = acc.toList ++ (List.replicate n z.cps.toList).flatten := by
    intro n
    induction n with
    | zero => intro acc; simp
    | succ n ih =>
      intro acc
      rw [List.replicate_succ, List.foldl_cons, ih, List.replicate_succ, List.flatten_cons, Array.toList_append, List.append_assoc]
  unfold Txt.mul
  by_cases h : (n : Int) < 1
  · rw [if_pos h]
    have : n = 0 := by omega
    subst this
    rfl
  · rw [if_neg h]
    by_cases h2 : ((n : Int) == 1 || z.length == 0) = true
    · rw [if_pos h2]
      rw [Bool.or_eq_true] at h2
      rcases h2 with h2 | h2
      · have : n = 1 := by have := eq_of_beq h2; omega
        subst this
        simp
      · have e : z.cps = #[] := by
          have : z.cps.size = 0 := eq_of_beq h2
          exact Array.eq_empty_of_size_eq_zero this
        rw [e]
        simp
    · rw [if_neg h2]
      have := fold n #[]
      simpa using this
theorem op_mulD : OpD X (binaryOp .Mult) mulD := by
  refine ⟨_, OpR.or op_mul (OpR.or op_mulW (OpR.or op_mulS op_rep)), fun Z H x y d1 d2 P Q l1 l2 f k => ?_⟩
  cases d1 with
  | int i =>
    cases d2 with
    | int j =>
      cases l1.int; cases l2.int
      obtain ⟨f1, f2⟩ := f
      have r := k (.val (.int (i * j))) _ H Ext.refl (Rep.int _) f2
      rcases f1 with (f1 | f1) | f1
      · exact .inl ⟨i, j, rfl, rfl, .inl (natAbs64 f1), r⟩
      · exact .inl ⟨i, j, rfl, rfl, .inr (natAbs64 f1), r⟩
      · exact .inr (.inl ⟨i, j, rfl, rfl, f1, r⟩)
    | _ => exact f.elim
  | str a =>
    cases d2 with
    | int j =>
      obtain ⟨s, rfl, e1, o1⟩ := l1.str
      cases l2.int
      obtain ⟨f0, f1, f2, f3⟩ := f
      obtain ⟨n, rfl⟩ : ∃ n : Nat, j = n := ⟨j.toNat, by omega⟩
      refine .inr (.inr (.inl ⟨s, _, rfl, rfl, ?_, ?_⟩))
      · have e := len_cps e1
        have hn : n ≤ 1048576 := by omega
        by_cases z : n = 0
        · subst z
          exact ⟨by decide, fun h => absurd h (by decide), fun h => absurd h (by decide)⟩
        · refine mulOk_of (x := s) s.length n (Nat.le_refl _) (by omega) (by omega) (by omega) ?_
          rw [e]
          have : (↑n : Int).toNat = n := by omega
          rw [this] at f2
          exact f2
      · refine k (.val (.str _)) _ H Ext.refl (rep_str ?_ ?_) f3
        · rw [mul_list, e1]
          rfl
        · intro c m
          rw [List.mem_flatten] at m
          obtain ⟨l, m1, m2⟩ := m
          rw [List.eq_of_mem_replicate m1] at m2
          exact o1 c m2
    | _ => exact f.elim
  | lst a =>
    cases d2 with
    | int j =>
      obtain ⟨p, xs, rfl, e1, r1⟩ := l1.lst
      cases l2.int
      obtain ⟨f0, f1, f2, f3⟩ := f
      have e : (2 : Int) ^ 63 = 9223372036854775808 := by decide
      refine .inr (.inr (.inr ⟨p, j, xs, rfl, rfl, e1, by rw [e]; omega, by rw [e]; omega, ?_, fun n np => ?_⟩))
      · rw [r1.length, sizeLine_eq]; exact f2
      · refine k (.tmp (.lst _)) _ _ (Ext.new np) (resL np ?_) f3
        have : ∀ m : Nat, Reps X.K Z H (List.replicate m xs).flatten (List.replicate m a).flatten := by
          intro m
          induction m with
          | zero => exact .nil
          | succ m ih => rw [List.replicate_succ, List.replicate_succ, List.flatten_cons, List.flatten_cons]; exact r1.append ih
        exact this _
    | _ => exact f.elim
  | _ => exact f.elim

/-! ### o[i] -/
theorem atI_reps {K : PySem.W.Frag} {Z : Addr → Prop} {H : Hp} {xs : List V} {ds : List D} {i : Int} {d : D} (h : Reps K Z H xs ds) (e : atI ds i = some d) : ∃ v, atI xs i = some v ∧ Rep K Z H v d := by
  unfold atI at e ⊢
  rw [h.length]
  cases q : ixN ds.length i with
  | none => rw [q] at e; cases e
  | some j =>
    rw [q] at e
    exact h.get e
def IxD (X : Cx) (f : D → D → (T → Prop) → Prop) : Prop :=
  ∃ r, IxR X r ∧ ∀ Z H x y d1 d2 (P : T → Prop) (Q : VK), LentAt X.K Z H x d1 → LentAt X.K Z H y d2 → f d1 d2 P → (∀ t v H', Ext H H' → ResOk X.K Z H H' v t → P t → Q v H') → r x y H Q
def rIxDict : R2 := fun x y H Q => ∃ a v, x = .ref a ∧ DGet H a y (some v) ∧ Q v H
theorem ix_dict (hu : X.A.units + 1 < cLine) : IxR X rIxDict := by
  intro value slice pins s σ H x y v u Q I rx ry h hs
  obtain ⟨a, w, rfl, g, q⟩ := h
  cases rx
  exact tail_any (dict_typeIs I g) PySem.F.slot_dict_getitem.lookup (d_getItem hu I g ry fun w' s' I' r' => ⟨w, H, I', r', q⟩) hs
theorem ix_D (hu : X.A.units + 1 < cLine) : IxD X ixD := by
  refine ⟨_, IxR.or ix_seq (ix_dict hu), fun Z H x y d1 d2 P Q l1 l2 f k => ?_⟩
  cases d1 with
  | lst l =>
    cases d2 with
    | int i =>
      cases l2.int
      obtain ⟨p, xs, rfl, e, r⟩ := l1.lst
      obtain ⟨d, e2, q⟩ := f
      obtain ⟨v, e3, rv⟩ := atI_reps r e2
      exact .inl (.inl ⟨p, xs, i, v, rfl, rfl, .of e, e3, k (.val d) _ H Ext.refl rv q⟩)
    | _ => exact f.elim
  | tup l =>
    cases d2 with
    | int i =>
      cases l2.int
      obtain ⟨p, xs, rfl, e, r⟩ := l1.tup
      obtain ⟨d, e2, q⟩ := f
      obtain ⟨v, e3, rv⟩ := atI_reps r e2
      exact .inl (.inr (.inl ⟨p, xs, i, v, rfl, rfl, .of e, e3, k (.val d) _ H Ext.refl rv q⟩))
    | _ => exact f.elim
  | str l =>
    cases d2 with
    | int i =>
      cases l2.int
      obtain ⟨s, rfl, e, o⟩ := l1.str
      obtain ⟨f1, c, e2, q⟩ := f
      refine .inl (.inr (.inr ⟨s, i, c, rfl, rfl, by rw [len_cps e, sizeLine_eq]; exact f1, by rw [e]; exact e2, k (.val (.str [c])) _ H Ext.refl (rep_str rfl ?_) q⟩))
      intro z m
      have : z = c := by simpa using m
      subst this
      unfold atI at e2
      cases q2 : ixN l.length i with
      | none => rw [q2] at e2; cases e2
      | some j => rw [q2] at e2; exact o _ (List.mem_of_getElem? e2)
    | _ => exact f.elim
  | scr l =>
    cases d2 with
    | int i =>
      cases l2.int
      obtain ⟨p, rfl, e⟩ := l1.scr
      obtain ⟨d, e2, q⟩ := f
      refine .inl (.inl ⟨p, _, i, .int d, rfl, rfl, e.sql, ?_, k (.val (.int d)) _ H Ext.refl (Rep.int _) q⟩)
      unfold atI at e2 ⊢
      rw [List.length_map]
      cases q2 : ixN l.length i with
      | none => rw [q2] at e2; cases e2
      | some j =>
        rw [q2] at e2
        show (l.map V.int)[j]? = _
        rw [List.getElem?_map]
        have e2 : l[j]? = some d := e2
        rw [e2]
        rfl
    | _ => exact f.elim
  | dct b l =>
    have f : keyFor b d2 = true ∧ ∃ d, lookD l d2 = some d ∧ P (.val d) := by cases d2 <;> exact f
    obtain ⟨f1, d, e, q⟩ := f
    obtain ⟨a, rfl, g⟩ := l1.dget l2 f1
    rcases g with ⟨e', _⟩ | ⟨z, d', e', rz, g⟩
    · rw [e] at e'; cases e'
    · rw [e] at e'; cases e'
      exact .inr ⟨a, z, rfl, g, k (.val d) _ H Ext.refl rz q⟩
  | _ => exact f.elim
variable {g : G} {pos : Pos} {a b : Expr} {wa wb : WE}
theorem de_ix {f : D → D → (T → Prop) → Prop} (ho : IxD X f) (ha : DE X g a wa) (hb : DE X g b wb) (hs : PlainIx b := by intro _ _; rfl) : DE X g (.Subscript a b pos) (wBin f wa wb) := by
  obtain ⟨r, hr, hh⟩ := ho
  exact ⟨(pe_ix hr ha.pe hb.pe hs).imp (bin_lift hh)⟩
end
end VS
namespace VS
open PySem PySem.Spec PyProof.Rows L2 Srt

/-! ### the order of texts -/
theorem ltL_asym {a b : List Nat} (h : ltL a b = true) : ltL b a = false := by
  unfold ltL at *
  exact decide_eq_false (List.lt_asymm (of_decide_eq_true h))
theorem ltL_tr {a b c : List Nat} (h : ltL b a = false) (k : ltL c b = false) : ltL c a = false := by
  unfold ltL at *
  have x : a ≤ b := List.not_lt.mp (of_decide_eq_false h)
  have y : b ≤ c := List.not_lt.mp (of_decide_eq_false k)
  exact decide_eq_false (List.not_lt.mpr (List.le_trans x y))
theorem ltL_anti {a b : List Nat} (h : ltL b a = false) (k : ltL a b = false) : a = b := by
  unfold ltL at *
  exact List.le_antisymm (List.not_lt.mp (of_decide_eq_false h)) (List.not_lt.mp (of_decide_eq_false k))
/-- sorted, as data -/
def sortI (l : List Int) : List Int := l.mergeSort fun a b => decide (a ≤ b)
def sortS (l : List (List Nat)) : List (List Nat) := l.mergeSort fun a b => !ltL b a
theorem sortI_perm (l : List Int) : (sortI l).Perm l := List.mergeSort_perm _ _
theorem sortS_perm (l : List (List Nat)) : (sortS l).Perm l := List.mergeSort_perm _ _
theorem sortI_le (l : List Int) : (sortI l).Pairwise (· ≤ ·) := by
  have := List.pairwise_mergeSort (le := fun a b : Int => decide (a ≤ b)) (fun a b c h k => decide_eq_true (Int.le_trans (of_decide_eq_true h) (of_decide_eq_true k))) (fun a b => by
    rcases Int.le_total a b with h | h <;> simp [h]) l
  exact this.imp fun h => of_decide_eq_true h
theorem sortS_le (l : List (List Nat)) : (sortS l).Pairwise (fun a b => ltL b a = false) := by
  have := List.pairwise_mergeSort (le := fun a b : List Nat => !ltL b a) (fun a b c h k => by
    have h1 : ltL b a = false := by simpa using h
    have k1 : ltL c b = false := by simpa using k
    simpa using ltL_tr h1 k1) (fun a b => by
    cases h : ltL b a with
    | false => simp
    | true => simp [ltL_asym h]) l
  exact this.imp fun h => by simpa using h
theorem sortI_uniq {l m : List Int} (p : l.Perm m) (s : l.Pairwise (· ≤ ·)) : l = sortI m :=
  List.Perm.eq_of_pairwise (fun a b _ _ h k => Int.le_antisymm h k) s (sortI_le m) (p.trans (sortI_perm m).symm)
theorem sortS_uniq {l m : List (List Nat)} (p : l.Perm m) (s : l.Pairwise (fun a b => ltL b a = false)) : l = sortS m :=
  List.Perm.eq_of_pairwise (fun a b _ _ h k => ltL_anti h k) s (sortS_le m) (p.trans (sortS_perm m).symm)

/-! ### sorting a list of texts of any length -/
def sv : Value → Str
  | .str x _ => x
  | _ => Str.empty
def ltSv (v u : Value) : Bool := ltL (sv v).cps.toList (sv u).cps.toList
theorem swo_str : SrtO.Swo ltSv := ⟨fun x y h => ltL_asym h, fun x y z h1 h2 => ltL_tr h1 h2⟩
theorem strs_mem : ∀ {vs : List Value} {ns : List Str}, StrsAre vs ns → ∀ v ∈ vs, ∃ i t, v = Value.str i t
  | _, _, .nil, v, h => absurd h (by simp)
  | _, _, .cons n t r, v, h => by
    rcases List.mem_cons.mp h with e | h
    · exact ⟨n, t, e⟩
    · exact strs_mem r v h
theorem strs_sv : ∀ {vs : List Value}, (∀ v ∈ vs, ∃ i t, v = Value.str i t) → StrsAre vs (vs.map sv)
  | [], _ => .nil
  | v :: vs, h => by
    obtain ⟨i, t, e⟩ := h v List.mem_cons_self
    subst e
    exact .cons i t (strs_sv fun u hu => h u (List.mem_cons_of_mem _ hu))
theorem sv_strs : ∀ {vs : List Value} {ns : List Str}, StrsAre vs ns → vs.map sv = ns
  | _, _, .nil => rfl
  | _, _, .cons n t r => congrArg (n :: ·) (sv_strs r)
section
variable {prog : Program} {w : World} {A : Around} {E : Value → Shared → Prop} {s : Shared}
theorem strs_sortable {a : Addr} {vs : List Value} {ns : List Str} (hI : StrsAre vs ns) (h2 : 2 ≤ vs.length) : SrtO.SortableO prog w A s a vs ltSv := by
  intro h' _
  refine ⟨oneType', fun Q E hq => ?_, fun p q hm hm' => ?_⟩
  · match vs, hI, h2 with
    | v1 :: v2 :: rest, hI, _ =>
      rw [keyKind_strs hI]
      exact wpAny_pure hq
    | [], _, h => exact absurd h (by decide)
    | [v], _, h => exact absurd h (by simp)
  · obtain ⟨x, t, e⟩ := strs_mem hI _ hm
    obtain ⟨y, u, e'⟩ := strs_mem hI _ hm'
    show wpAny (model prog w) A (keyLt' oneType' p.1 q.1) (fun r s' => s' = _ ∧ r = ltSv p.1 q.1) (fun _ _ => False) _
    rw [e, e', keyLt'_oneType]
    exact oneLt_str ⟨rfl, rfl⟩
theorem strs_out {vs out : List Value} {ns : List Str} (hI : StrsAre vs ns) (hs : SrtO.Srtd ltSv out) (hb : SrtO.Stb ltSv out vs) : StrsAre out (out.map sv) ∧ (out.map sv).Perm ns ∧ (out.map sv).Pairwise (fun a b => ltL b.cps.toList a.cps.toList = false) := by
  refine ⟨strs_sv fun v hv => strs_mem hI v (hb.perm.mem_iff.mp hv), ?_, ?_⟩
  · have q := hb.perm.map sv
    rw [sv_strs hI] at q
    exact q
  · exact List.pairwise_map.mpr hs
end
/-- sorted(xs), texts, any number of them -/
def rSortedSO (K : PySem.W.Frag) : List V → Hp → VK → Prop := fun vs H Q => ∃ (a : Addr) (xs : List Str), vs = [V.ref a] ∧ SqL K H a (xs.map V.str) ∧
  ∀ (ys : List Str) (p : Addr), ys.Perm xs → ys.Pairwise (fun a b => ltL b.cps.toList a.cps.toList = false) → H p = none → Q (.ref p) (upd H p (.lst (ys.map V.str)))
theorem cr_sortedSO {X : Cx} : CallR X (.builtin "sorted") (rSortedSO X.K) := by
  rintro pins s σ H vs us Q I r ⟨a, xs, rfl, hs, q⟩
  obtain ⟨its, rv, hl, hz⟩ := I.list hs
  rw [Vals.ref1 r]
  have hi := rv.strs
  refine SrtO.sorted_ord swo_str hl.isList (by rw [← rv.length]; exact hz) (fun h2 h₁ a' _ _ => strs_sortable hi h2) fun out h1 h2 => ?_
  obtain ⟨k1, k2, k3⟩ := strs_out hi h1 h2
  obtain ⟨ep, he'⟩ := PyProof.Rows.sortedAll_at s.heap its out.toArray
  have hlen : ((out.map sv).map V.str).length ≤ sizeLine := by
    rw [List.length_map, k2.length_eq]
    rw [List.length_map] at hz
    exact hz
  refine ⟨.ref _, upd H (s.heap.objs.size + 1) (.lst ((out.map sv).map V.str)), I.laid (t' := s.toks) (fun _ _ => PyProof.Rows.sortedAll_old) (Nat.le_succ _) ⟨hlen, out, ep, vals_of_strs k1, he'⟩, rfl, q _ _ k2 k3 (I.hok.fresh (Nat.le_succ _))⟩
end VS
namespace VS
open PySem PySem.Spec PyProof.Rows L2

/-! ### slices -/
def cutL {α : Type} (l : List α) (lo hi : Option Int) : List α := (l.drop (HT.sIx l.length 0 lo)).take (HT.sIx l.length l.length hi - HT.sIx l.length 0 lo)
abbrev WO := Rho → (Option Int → Rho → Prop) → Prop
def liftO (K : PySem.W.Frag) (g : G) (w : WO) : TO := fun σ H Q => ∃ Z ρ P, Rel K g Z σ H ρ ∧ w ρ P ∧ ∀ o Z' H' ρ', Rel K g Z' σ H' ρ' → Step Z H σ ρ Z' H' σ ρ' → P o ρ' → Q o H'
structure DO (X : Cx) (g : G) (e : Option Expr) (w : WO) : Prop where
  po : PO X e (liftO X.K g w)
def wNoP : WO := fun ρ Q => Q none ρ
def wPart (a : WE) : WO := fun ρ Q => a ρ fun t ρ1 => match t with
  | .val (.int i) => Q (some i) ρ1
  | _ => False
def sliceD : D → Option Int → Option Int → (T → Prop) → Prop
  | .str s, lo, hi, P => s.length ≤ 16777216 ∧ P (.val (.str (cutL s lo hi)))
  | .lst l, lo, hi, P => P (.tmp (.lst (cutL l lo hi)))
  | .tup l, lo, hi, P => P (.val (.tup (cutL l lo hi)))
  | _, _, _, _ => False
def wSl (a : WE) (l h : WO) : WE := fun ρ Q => a ρ fun t ρ1 => l ρ1 fun lo ρ2 => h ρ2 fun hi ρ3 => match rd ρ3 t with
  | some d => sliceD d lo hi fun t => Q t ρ3
  | none => False
section
variable {X : Cx} {g : G} {pos p2 : Pos} {a b : Expr} {wa wb : WE} {lo hi : Option Expr} {wl wh : WO}
theorem do_none : DO X g none wNoP := ⟨⟨fun pins s σ H Q I h => by
  obtain ⟨Z, ρ, P, R, w, k⟩ := h
  exact po_none.run pins s σ H Q I (k none Z H ρ R Step.refl w)⟩⟩
theorem do_some (ha : DE X g a wa) : DO X g (some a) (wPart wa) := ⟨⟨fun pins s σ H Q I h => by
  obtain ⟨Z, ρ, P, R, w, k⟩ := h
  refine (po_some ha.pe).run pins s σ H Q I ⟨Z, ρ, _, R, w, fun t v Z1 H1 ρ1 R1 s1 o1 q1 => ?_⟩
  split at q1
  · rename_i i
    cases o1
    exact ⟨i, rfl, k (some i) Z1 H1 ρ1 R1 s1 q1⟩
  · exact q1.elim⟩⟩
theorem cut_reps {K : PySem.W.Frag} {Z : Addr → Prop} {H : Hp} {xs : List V} {ds : List D} (h : Reps K Z H xs ds) (lo hi : Option Int) : Reps K Z H (cutV xs lo hi) (cutL ds lo hi) := by
  unfold cutV cutL
  rw [h.length]
  exact (h.drop _).take _
theorem de_sl (ha : DE X g a wa) (hl : DO X g lo wl) (hh : DO X g hi wh) : DE X g (.Subscript a (.Slice lo hi none p2) pos) (wSl wa wl wh) := by
  refine ⟨(pe_slice (SlR.or sl_list (SlR.or sl_tupA sl_str)) ha.pe hl.po hh.po).imp fun σ H Q h => ?_⟩
  obtain ⟨Z, ρ, P, R, w, k⟩ := h
  refine ⟨Z, ρ, _, R, w, fun t v Z1 H1 ρ1 R1 s1 o1 q1 => ⟨Z1, ρ1, _, R1, q1, fun lo Z2 H2 ρ2 R2 s2 q2 => ⟨Z2, ρ2, _, R2, q2, fun hi Z3 H3 ρ3 R3 s3 q3 => ?_⟩⟩⟩
  have o3 := o1.move (s2.trans s3) R1
  have s4 := (s1.trans s2).trans s3
  cases e : rd ρ3 t with
  | none => simp only [e] at q3
  | some d =>
    simp only [e] at q3
    have l := o3.read R3 e
    cases d with
    | str s =>
      obtain ⟨z, rfl, e1, o⟩ := l.str
      obtain ⟨f1, f2⟩ := q3
      refine .inr (.inr ⟨z, rfl, by rw [len_cps e1, sizeLine_eq]; exact f1, ?_⟩)
      refine k (.val (.str (cutL s lo hi))) _ Z3 H3 ρ3 R3 s4 (rep_str ?_ ?_) f2
      · unfold cutS cutL
        rw [len_cps e1, e1]
      · intro c m
        unfold cutL at m
        exact o c (List.mem_of_mem_drop (List.mem_of_mem_take m))
    | lst ds =>
      obtain ⟨p, xs, rfl, e1, r⟩ := l.lst
      refine .inl ⟨p, xs, rfl, .of e1, fun n np => ?_⟩
      exact k (.tmp (.lst (cutL ds lo hi))) _ Z3 _ ρ3 ((Ext.new np).rel R3) (s4.trans (Ext.new np).step) ((resL np (cut_reps r lo hi)).tok R3 s4.there) q3
    | tup ds =>
      obtain ⟨p, xs, rfl, e1, r⟩ := l.tup
      refine .inr (.inl ⟨p, xs, rfl, .of e1, fun hw => ?_, fun _ n np => ?_⟩)
      · have e2 : cutL ds lo hi = ds := by
          unfold cutL
          rw [← r.length, hw.1, hw.2, List.drop_zero, Nat.sub_zero, r.length, List.take_length]
        have q3' : P (.val (.tup (cutL ds lo hi))) ρ3 := q3
        rw [e2] at q3'
        exact k (.val (.tup ds)) _ Z3 H3 ρ3 R3 s4 (Rep.tup e1 r) q3'
      · exact k (.val (.tup (cutL ds lo hi))) _ Z3 _ ρ3 ((Ext.new np).rel R3) (s4.trans (Ext.new np).step) (resT np (cut_reps r lo hi)) q3
    | _ => exact q3.elim
end

/-! ### builtins -/
def lenD : List D → (T → Prop) → Prop
  | [.lst l], P => P (.val (.int (l.length : Int)))
  | [.tup l], P => P (.val (.int (l.length : Int)))
  | [.str l], P => l.length ≤ 16777216 ∧ P (.val (.int (l.length : Int)))
  | [.scr l], P => P (.val (.int (l.length : Int)))
  | [.dct false l], P => P (.val (.int (l.length : Int)))
  | _, _ => False
def intD : List D → (T → Prop) → Prop
  | [.int i], P => P (.val (.int i))
  | [.bl b], P => P (.val (.int (if b then 1 else 0)))
  | _, _ => False
def listD : List D → (T → Prop) → Prop
  | [.lst l], P => P (.tmp (.lst l))
  | [.tup l], P => P (.tmp (.lst l))
  | [.str s], P => s.length ≤ 16777216 ∧ P (.tmp (.lst (s.map fun c => .str [c])))
  | _, _ => False
def tupleD : List D → (T → Prop) → Prop
  | [.lst l], P => P (.val (.tup l))
  | [.tup l], P => P (.val (.tup l))
  | _, _ => False
/-- all of a kind -/
def asInts : List D → Option (List Int)
  | [] => some []
  | .int i :: l => (asInts l).map (i :: ·)
  | _ => none
def asStrs : List D → Option (List (List Nat))
  | [] => some []
  | .str i :: l => (asStrs l).map (i :: ·)
  | _ => none
def asBls : List D → Option (List Bool)
  | [] => some []
  | .bl i :: l => (asBls l).map (i :: ·)
  | _ => none
def ltLs (a b : List Nat) : Prop := ¬ b < a
/-- the result is any list in order with the same items -/
def sortedD : List D → (T → Prop) → Prop
  | [.lst l], P => (∃ ns, asInts l = some ns ∧ P (.tmp (.lst ((sortI ns).map .int)))) ∨ ∃ ss, asStrs l = some ss ∧ P (.tmp (.lst ((sortS ss).map .str)))
  | _, _ => False
def allD : List D → (T → Prop) → Prop
  | [.lst l], P => ∃ bs, asBls l = some bs ∧ P (.val (.bl (bs.all id)))
  | _, _ => False
def anyD : List D → (T → Prop) → Prop
  | [.lst l], P => ∃ bs, asBls l = some bs ∧ P (.val (.bl (bs.any id)))
  | _, _ => False
def sumD : List D → (T → Prop) → Prop
  | [.lst l], P => ∃ ns, asInts l = some ns ∧ P (.val (.int ns.sum))
  | _, _ => False
def maxD : List D → (T → Prop) → Prop
  | [.lst l], P => ∃ ns, asInts l = some ns ∧ 0 < ns.length ∧ ∀ m, m ∈ ns → (∀ y, y ∈ ns → y ≤ m) → P (.val (.int m))
  | [.int i, .int j], P => P (.val (.int (if j > i then j else i)))
  | _, _ => False
def minD : List D → (T → Prop) → Prop
  | [.lst l], P => ∃ ns, asInts l = some ns ∧ 0 < ns.length ∧ ∀ m, m ∈ ns → (∀ y, y ∈ ns → m ≤ y) → P (.val (.int m))
  | [.int i, .int j], P => P (.val (.int (if j < i then j else i)))
  | _, _ => False
theorem asInts_eq : ∀ {l : List D} {ns : List Int}, asInts l = some ns → l = ns.map D.int
  | [], _, e => by cases e; rfl
  | .int i :: l, ns, e => by
    simp only [asInts, Option.map_eq_some_iff] at e
    obtain ⟨m, e1, rfl⟩ := e
    rw [asInts_eq e1]; rfl
  | .non :: _, _, e => by cases e
  | .bl _ :: _, _, e => by cases e
  | .str _ :: _, _, e => by cases e
  | .tup _ :: _, _, e => by cases e
  | .lst _ :: _, _, e => by cases e
  | .dct _ _ :: _, _, e => by cases e
  | .scr _ :: _, _, e => by cases e
theorem asStrs_eq : ∀ {l : List D} {ns : List (List Nat)}, asStrs l = some ns → l = ns.map D.str
  | [], _, e => by cases e; rfl
  | .str i :: l, ns, e => by
    simp only [asStrs, Option.map_eq_some_iff] at e
    obtain ⟨m, e1, rfl⟩ := e
    rw [asStrs_eq e1]; rfl
  | .non :: _, _, e => by cases e
  | .bl _ :: _, _, e => by cases e
  | .int _ :: _, _, e => by cases e
  | .tup _ :: _, _, e => by cases e
  | .lst _ :: _, _, e => by cases e
  | .dct _ _ :: _, _, e => by cases e
  | .scr _ :: _, _, e => by cases e
theorem asBls_eq : ∀ {l : List D} {ns : List Bool}, asBls l = some ns → l = ns.map D.bl
  | [], _, e => by cases e; rfl
  | .bl i :: l, ns, e => by
    simp only [asBls, Option.map_eq_some_iff] at e
    obtain ⟨m, e1, rfl⟩ := e
    rw [asBls_eq e1]; rfl
  | .non :: _, _, e => by cases e
  | .str _ :: _, _, e => by cases e
  | .int _ :: _, _, e => by cases e
  | .tup _ :: _, _, e => by cases e
  | .lst _ :: _, _, e => by cases e
  | .dct _ _ :: _, _, e => by cases e
  | .scr _ :: _, _, e => by cases e
theorem asInts_map (ns : List Int) : asInts (ns.map D.int) = some ns := by induction ns with | nil => rfl | cons i l ih => simp [asInts, ih]
theorem asStrs_map (ns : List (List Nat)) : asStrs (ns.map D.str) = some ns := by induction ns with | nil => rfl | cons i l ih => simp [asStrs, ih]
theorem asBls_map (ns : List Bool) : asBls (ns.map D.bl) = some ns := by induction ns with | nil => rfl | cons i l ih => simp [asBls, ih]
section
variable {X : Cx}
theorem CallR.or {f : Value} {r r' : List V → Hp → VK → Prop} (h : CallR X f r) (h' : CallR X f r') : CallR X f (fun xs H Q => r xs H Q ∨ r' xs H Q) := fun pins s σ H xs us Q I rs q => by
  rcases q with q | q
  · exact h pins s σ H xs us Q I rs q
  · exact h' pins s σ H xs us Q I rs q
theorem Lents.one {K : PySem.W.Frag} {Z : Addr → Prop} {H : Hp} {xs : List V} {d : D} (h : Lents K Z H xs [d]) : ∃ v, xs = [v] ∧ LentAt K Z H v d := by
  cases h with
  | cons h r => cases r; exact ⟨_, rfl, h⟩
theorem Lents.two {K : PySem.W.Frag} {Z : Addr → Prop} {H : Hp} {xs : List V} {d e : D} (h : Lents K Z H xs [d, e]) : ∃ v w, xs = [v, w] ∧ LentAt K Z H v d ∧ LentAt K Z H w e := by
  cases h with
  | cons h r =>
    cases r with
    | cons h' r => cases r; exact ⟨_, _, rfl, h, h'⟩
theorem Reps.strs {K : PySem.W.Frag} {Z : Addr → Prop} {H : Hp} : ∀ {xs : List V} {ns : List (List Nat)}, Reps K Z H xs (ns.map D.str) → ∃ zs : List Str, xs = zs.map V.str ∧ zs.map (fun z => z.cps.toList) = ns ∧ ∀ n ∈ ns, SOk n
  | [], [], _ => ⟨[], rfl, rfl, fun _ h => nomatch h⟩
  | _ :: _, _ :: _, .cons h r => by
    obtain ⟨zs, rfl, e, o⟩ := Reps.strs r
    cases h with
    | str s q =>
      refine ⟨s :: zs, rfl, by rw [List.map_cons, e], fun n m => ?_⟩
      rcases List.mem_cons.mp m with rfl | m
      · exact q
      · exact o n m
  | [], _ :: _, h => by cases h
  | _ :: _, [], h => by cases h
theorem reps_of_strs {K : PySem.W.Frag} {Z : Addr → Prop} {H : Hp} : ∀ {zs : List Str}, (∀ z ∈ zs, SOk z.cps.toList) → Reps K Z H (zs.map V.str) ((zs.map fun z => z.cps.toList).map D.str)
  | [], _ => .nil
  | z :: zs, h => .cons (.str z (h z List.mem_cons_self)) (reps_of_strs fun y m => h y (List.mem_cons_of_mem _ m))
theorem call_lenDD : CallD X (.builtin "len") lenD := by
  refine ⟨_, CallR.or call_len (?_ : CallR X (.builtin "len") fun xs H Q => ∃ a kvs, xs = [V.ref a] ∧ Rd H a (.dK kvs) ∧ Q (.int kvs.length) H), fun Z H xs ds P Q hl f k => ?_⟩
  · intro pins s σ H xs us Q I r h
    obtain ⟨a, kvs, rfl, ha, q⟩ := h
    obtain ⟨u, rfl, ru⟩ := vals1 r
    cases ru
    exact d_len I ha fun t s' I' => ⟨.int kvs.length, H, I', ⟨t, rfl⟩, q⟩
  · match ds, hl, f with
    | [.lst l], h, f =>
      obtain ⟨v, rfl, h1⟩ := h.one
      obtain ⟨a, xs, rfl, e, r⟩ := h1.lst
      exact .inl ⟨_, _, rfl, .inl ⟨xs, .of e, rfl⟩, by rw [r.length]; exact k (.val (.int (l.length : Int))) _ H Ext.refl (Rep.int _) f⟩
    | [.tup l], h, f =>
      obtain ⟨v, rfl, h1⟩ := h.one
      obtain ⟨a, xs, rfl, e, r⟩ := h1.tup
      exact .inl ⟨_, _, rfl, .inr ⟨xs, .of e, rfl⟩, by rw [r.length]; exact k (.val (.int (l.length : Int))) _ H Ext.refl (Rep.int _) f⟩
    | [.str l], h, f =>
      obtain ⟨v, rfl, h1⟩ := h.one
      obtain ⟨s, rfl, e, o⟩ := h1.str
      exact .inl ⟨_, _, rfl, ⟨by rw [len_cps e, sizeLine_eq]; exact f.1, rfl⟩, by rw [len_cps e]; exact k (.val (.int (l.length : Int))) _ H Ext.refl (Rep.int _) f.2⟩
    | [.scr l], h, f =>
      obtain ⟨v, rfl, h1⟩ := h.one
      obtain ⟨a, rfl, e⟩ := h1.scr
      exact .inl ⟨_, _, rfl, .inl ⟨_, e.sql, rfl⟩, by rw [List.length_map]; exact k (.val (.int (l.length : Int))) _ H Ext.refl (Rep.int _) f⟩
    | [.dct false l], h, f =>
      obtain ⟨v, rfl, h1⟩ := h.one
      obtain ⟨a, kvs, rfl, e, r⟩ := h1
      exact .inr ⟨a, kvs, rfl, e, by rw [r.length]; exact k (.val (.int (l.length : Int))) _ H Ext.refl (Rep.int _) f⟩
theorem call_intDD : CallD X (.type "int") intD := by
  refine ⟨_, call_int1, fun Z H xs ds P Q hl f k => ?_⟩
  match ds, hl, f with
  | [.int i], h, f =>
    obtain ⟨v, rfl, h1⟩ := h.one
    cases h1.int
    exact .inl ⟨i, rfl, k (.val (.int i)) _ H Ext.refl (Rep.int _) f⟩
  | [.bl b], h, f =>
    obtain ⟨v, rfl, h1⟩ := h.one
    cases h1.bl
    exact .inr ⟨b, rfl, k (.val (.int (if b then 1 else 0))) _ H Ext.refl (Rep.int _) f⟩
theorem signs_vals : ∀ (l : List Nat) (m : List Value), l.length = m.length → (∀ (i : Nat) (v : Value), m[i]? = some v → ∃ c u, l[i]? = some c ∧ v = .str ⟨#[c]⟩ u) → Vals (l.map fun c => V.str ⟨#[c]⟩) m
  | [], [], _, _ => .nil
  | [], _ :: _, e, _ => by cases e
  | _ :: _, [], e, _ => by cases e
  | c :: l, v :: m, e, h => by
    obtain ⟨c', u, e1, rfl⟩ := h 0 v rfl
    cases e1
    exact .cons ⟨u, rfl⟩ (signs_vals l m (by simpa using e) fun i v q => by simpa using h (i + 1) v (by simpa using q))
theorem listS_ok (hc : X.calm = true) : CallR X (.type "list") (fun xs H Q => ∃ z : Str, xs = [.str z] ∧ z.length ≤ sizeLine ∧ ∀ p, H p = none → Q (.ref p) (upd H p (.lst (z.cps.toList.map fun c => V.str ⟨#[c]⟩)))) := by
  intro pins s σ H xs us Q I r h
  obtain ⟨z, rfl, hz, q⟩ := h
  obtain ⟨u, rfl, t, rfl⟩ := vals1 r
  refine call_list_str (I.ok.hd hc) z t (fun h' tk acc c hk hS hacc => ?_) hz
  have fr : H s.heap.objs.size = none := I.hok.fresh (Nat.le_refl _)
  have vs : Vals (z.cps.toList.map fun c => V.str ⟨#[c]⟩) acc.toList := by
    refine signs_vals _ _ (by rw [Array.length_toList, Array.length_toList]; exact hacc.1.symm) fun i v e => ?_
    obtain ⟨c, u, e1, e2⟩ := hacc.2 i v (by simpa using e)
    exact ⟨c, u, by simpa using e1, e2⟩
  exact ⟨.ref _, upd H s.heap.objs.size (.lst _), I.laid (t' := tk) hk (Nat.le_refl _) ⟨by rw [List.length_map]; simpa [Str.length] using hz, acc.toList, c, vs, by simpa using hS⟩, rfl, q _ fr⟩
theorem reps_signs {K : PySem.W.Frag} {Z : Addr → Prop} {H : Hp} : ∀ {l : List Nat}, SOk l → Reps K Z H (l.map fun c => V.str ⟨#[c]⟩) (l.map fun c => D.str [c])
  | [], _ => .nil
  | c :: l, h => .cons (rep_str (s := ⟨#[c]⟩) rfl fun x m => h x (by rw [show x = c by simpa using m]; exact List.mem_cons_self)) (reps_signs fun x m => h x (List.mem_cons_of_mem _ m))
theorem call_listDD (hc : X.calm = true) : CallD X (.type "list") listD := by
  refine ⟨_, CallR.or call_list_of (listS_ok hc), fun Z H xs ds P Q hl f k => ?_⟩
  match ds, hl, f with
  | [.lst l], h, f =>
    obtain ⟨v, rfl, h1⟩ := h.one
    obtain ⟨a, xs, rfl, e, r⟩ := h1.lst
    exact .inl ⟨a, xs, rfl, .inl (.of e), fun n np => k (.tmp (.lst l)) _ _ (Ext.new np) (resL np r) f⟩
  | [.tup l], h, f =>
    obtain ⟨v, rfl, h1⟩ := h.one
    obtain ⟨a, xs, rfl, e, r⟩ := h1.tup
    exact .inl ⟨a, xs, rfl, .inr (.of e), fun n np => k (.tmp (.lst l)) _ _ (Ext.new np) (resL np r) f⟩
  | [.str l], h, f =>
    obtain ⟨v, rfl, h1⟩ := h.one
    obtain ⟨s, rfl, e, o⟩ := h1.str
    refine .inr ⟨s, rfl, by rw [len_cps e, sizeLine_eq]; exact f.1, fun n np => ?_⟩
    rw [e]
    exact k (.tmp (.lst (l.map fun c => .str [c]))) _ _ (Ext.new np) (resL np (reps_signs o)) f.2
theorem call_tupleDD : CallD X (.type "tuple") tupleD := by
  refine ⟨_, call_tuple_of, fun Z H xs ds P Q hl f k => ?_⟩
  match ds, hl, f with
  | [.lst l], h, f =>
    obtain ⟨v, rfl, h1⟩ := h.one
    obtain ⟨a, xs, rfl, e, r⟩ := h1.lst
    exact ⟨a, xs, rfl, .inl ⟨.of e, fun n np => k (.val (.tup l)) _ _ (Ext.new np) (resT np r) f⟩⟩
  | [.tup l], h, f =>
    obtain ⟨v, rfl, h1⟩ := h.one
    obtain ⟨a, xs, rfl, e, r⟩ := h1.tup
    exact ⟨a, xs, rfl, .inr ⟨.of e, k (.val (.tup l)) _ H Ext.refl (Rep.tup e r) f⟩⟩
theorem call_sortedDD : CallD X (.builtin "sorted") sortedD := by
  refine ⟨_, CallR.or cr_sortedI cr_sortedSO, fun Z H xs ds P Q hl f k => ?_⟩
  match ds, hl, f with
  | [.lst l], h, f =>
    obtain ⟨v, rfl, h1⟩ := h.one
    obtain ⟨a, xs, rfl, e, r⟩ := h1.lst
    rcases f with ⟨ns, e1, f⟩ | ⟨ss, e1, f⟩
    · cases asInts_eq e1
      have := r.ints
      subst this
      refine .inl ⟨a, ns, rfl, .of e, fun ns' n p1 p2 np => ?_⟩
      have e2 := sortI_uniq p1 p2
      rw [e2]
      exact k (.tmp (.lst ((sortI ns).map .int))) _ _ (Ext.new np) (resL np .of_ints) f
    · cases asStrs_eq e1
      obtain ⟨zs, rfl, ez, oz⟩ := r.strs
      refine .inr ⟨a, zs, rfl, .of e, fun ys n p1 p2 np => ?_⟩
      have e2 : ys.map (fun z => z.cps.toList) = sortS ss := sortS_uniq (by rw [← ez]; exact p1.map _) (List.pairwise_map.mpr p2)
      rw [← e2] at f
      refine k (.tmp (.lst ((ys.map fun z => z.cps.toList).map .str))) _ _ (Ext.new np) (resL np (reps_of_strs fun z m => ?_)) f
      refine oz _ ?_
      rw [← ez]
      exact List.mem_map_of_mem (p1.mem_iff.mp m)
theorem call_allDD (hc : X.calm = true) : CallD X (.builtin "all") allD := by
  refine ⟨_, cr_all hc, fun Z H xs ds P Q hl f k => ?_⟩
  match ds, hl, f with
  | [.lst l], h, f =>
    obtain ⟨v, rfl, h1⟩ := h.one
    obtain ⟨a, xs, rfl, e, r⟩ := h1.lst
    obtain ⟨bs, e1, f⟩ := f
    cases asBls_eq e1
    have := r.bls
    subst this
    exact ⟨a, bs, rfl, .of e, k (.val (.bl _)) _ H Ext.refl (Rep.bl _) f⟩
theorem call_anyDD (hc : X.calm = true) : CallD X (.builtin "any") anyD := by
  refine ⟨_, cr_any hc, fun Z H xs ds P Q hl f k => ?_⟩
  match ds, hl, f with
  | [.lst l], h, f =>
    obtain ⟨v, rfl, h1⟩ := h.one
    obtain ⟨a, xs, rfl, e, r⟩ := h1.lst
    obtain ⟨bs, e1, f⟩ := f
    cases asBls_eq e1
    have := r.bls
    subst this
    exact ⟨a, bs, rfl, .of e, k (.val (.bl _)) _ H Ext.refl (Rep.bl _) f⟩
theorem call_sumDD (hc : X.calm = true) : CallD X (.builtin "sum") sumD := by
  refine ⟨_, cr_sum hc, fun Z H xs ds P Q hl f k => ?_⟩
  match ds, hl, f with
  | [.lst l], h, f =>
    obtain ⟨v, rfl, h1⟩ := h.one
    obtain ⟨a, xs, rfl, e, r⟩ := h1.lst
    obtain ⟨ns, e1, f⟩ := f
    cases asInts_eq e1
    have := r.ints
    subst this
    exact ⟨a, ns, rfl, .of e, k (.val (.int _)) _ H Ext.refl (Rep.int _) f⟩
theorem call_maxDD (hc : X.calm = true) : CallD X (.builtin "max") maxD := by
  refine ⟨_, CallR.or (cr_max hc) (call_max2 hc), fun Z H xs ds P Q hl f k => ?_⟩
  match ds, hl, f with
  | [.lst l], h, f =>
    obtain ⟨v, rfl, h1⟩ := h.one
    obtain ⟨a, xs, rfl, e, r⟩ := h1.lst
    obtain ⟨ns, e1, f0, f⟩ := f
    cases asInts_eq e1
    have := r.ints
    subst this
    exact .inl ⟨a, ns, rfl, .of e, f0, fun m m1 m2 => k (.val (.int m)) _ H Ext.refl (Rep.int _) (f m m1 m2)⟩
  | [.int i, .int j], h, f =>
    obtain ⟨v, w, rfl, h1, h2⟩ := h.two
    cases h1.int; cases h2.int
    exact .inr ⟨i, j, rfl, k (.val (.int _)) _ H Ext.refl (Rep.int _) f⟩
theorem call_minDD (hc : X.calm = true) : CallD X (.builtin "min") minD := by
  refine ⟨_, CallR.or (cr_min hc) (call_min2 hc), fun Z H xs ds P Q hl f k => ?_⟩
  match ds, hl, f with
  | [.lst l], h, f =>
    obtain ⟨v, rfl, h1⟩ := h.one
    obtain ⟨a, xs, rfl, e, r⟩ := h1.lst
    obtain ⟨ns, e1, f0, f⟩ := f
    cases asInts_eq e1
    have := r.ints
    subst this
    exact .inl ⟨a, ns, rfl, .of e, f0, fun m m1 m2 => k (.val (.int m)) _ H Ext.refl (Rep.int _) (f m m1 m2)⟩
  | [.int i, .int j], h, f =>
    obtain ⟨v, w, rfl, h1, h2⟩ := h.two
    cases h1.int; cases h2.int
    exact .inr ⟨i, j, rfl, k (.val (.int _)) _ H Ext.refl (Rep.int _) f⟩
end

/-! ### repr(a) == repr(b), of equal ones -/
def wReprEq (a b : WE) : WE := fun ρ Q => a ρ fun t1 ρ1 => match t1 with
  | .val (.str x) => x.length ≤ 1000000 ∧ b ρ1 fun t2 ρ2 => match t2 with
    | .val (.str y) => x = y ∧ Q (.val (.bl true)) ρ2
    | _ => False
  | .val (.int i) => i.natAbs < 2 ^ 1900 ∧ b ρ1 fun t2 ρ2 => match t2 with
    | .val (.int j) => i = j ∧ Q (.val (.bl true)) ρ2
    | _ => False
  | _ => False
section
variable {X : Cx} {g : G} {pos pos' p1 p2 q1 q2 : Pos} {a b : Expr} {wa wb : WE}
def rRepr : List V → Hp → VK → Prop := fun xs H Q => (∃ i, xs = [.int i] ∧ i.natAbs.log2 < 1920 ∧ Q (.str (toString i)) H) ∨ ∃ z : Str, xs = [.str z] ∧ (reprText z).length ≤ sizeLine ∧ Q (.str (reprText z)) H
theorem call_repr : CallR X (.builtin "repr") rRepr := by
  refine CallR.or SkE.call_repr_int ?_
  intro pins s σ H xs us Q I r h
  obtain ⟨z, rfl, hz, q⟩ := h
  obtain ⟨u, rfl, t, rfl⟩ := vals1 r
  exact PySem.P.repr_of_str ⟨.str _, H, I.tok _, ⟨_, rfl⟩, q⟩ hz
theorem str_of_list {s : Str} {l : List Nat} (e : s.cps.toList = l) : s = ⟨l.toArray⟩ := by
  subst e
  cases s
  simp
theorem log_of {i : Int} (h : i.natAbs < 2 ^ 1900) : i.natAbs.log2 < 1920 := by
  by_cases z : i.natAbs = 0
  · rw [z]; decide
  · have := (Nat.log2_lt z).mpr h
    omega
theorem repr_lift (σ : L2.St) (H : Hp) (Q : VK) (h : liftE X.K g (wReprEq wa wb) σ H Q) : tOp rEq (tCB rRepr (tCons (liftE X.K g wa) tNil)) (tCB rRepr (tCons (liftE X.K g wb) tNil)) σ H Q := by
  obtain ⟨Z, ρ, P, R, w, k⟩ := h
  refine ⟨Z, ρ, _, R, w, fun t1 v1 Z1 H1 ρ1 R1 s1 o1 q1 => ?_⟩
  split at q1
  · rename_i x
    obtain ⟨s, e, ex, ox⟩ := LentAt.str (Rep.lent (show Rep X.K Z1 H1 v1 (.str x) from o1))
    subst e
    obtain ⟨f1, q1⟩ := q1
    have hz : (reprText s).length ≤ sizeLine := by
      have := StrLaws.reprText_len s (fun c m => by rw [ex] at m; have := ox c m; have e : (16 : Nat) ^ 8 = 4294967296 := by decide
                                                    omega)
      have e2 := len_cps ex
      rw [sizeLine_eq]
      omega
    refine .inr ⟨s, rfl, hz, Z1, ρ1, _, R1, q1, fun t2 v2 Z2 H2 ρ2 R2 s2 o2 q2 => ?_⟩
    split at q2
    · rename_i y
      obtain ⟨s', e', ey, _⟩ := LentAt.str (Rep.lent (show Rep X.K Z2 H2 v2 (.str y) from o2))
      subst e'
      obtain ⟨exy, q2⟩ := q2
      have es : s' = s := by rw [str_of_list ey, str_of_list ex, exy]
      subst es
      refine .inr ⟨s', rfl, hz, rfl, ?_⟩
      rw [decide_eq_true rfl]
      exact k (.val (.bl true)) _ Z2 H2 ρ2 R2 (s1.trans s2) (Rep.bl true) q2
    · exact q2.elim
  · rename_i i
    cases (show Rep X.K Z1 H1 v1 (.int i) from o1)
    obtain ⟨f1, q1⟩ := q1
    refine .inl ⟨i, rfl, log_of f1, Z1, ρ1, _, R1, q1, fun t2 v2 Z2 H2 ρ2 R2 s2 o2 q2 => ?_⟩
    split at q2
    · rename_i j
      cases (show Rep X.K Z2 H2 v2 (.int j) from o2)
      obtain ⟨exy, q2⟩ := q2
      subst exy
      refine .inl ⟨i, rfl, log_of f1, rfl, ?_⟩
      rw [decide_eq_true rfl]
      exact k (.val (.bl true)) _ Z2 H2 ρ2 R2 (s1.trans s2) (Rep.bl true) q2
    · exact q2.elim
  · exact q1.elim
theorem de_reprEq (hg : Gl X "repr") (hm : X.mg "repr" = none) (ha : DE X g a wa) (hb : DE X g b wb) (sa : starEach [a] X.env = (false, eval a X.env) :: starEach [] X.env := by rfl) (sb : starEach [b] X.env = (false, eval b X.env) :: starEach [] X.env := by rfl) :
    DE X g (.Compare (.Call (.Name "repr" p1) [a] [] q1) [.Eq] [.Call (.Name "repr" p2) [b] [] q2] pos) (wReprEq wa wb) :=
  ⟨(pe_cmpR op_eq (pe_callB call_repr hg hm (by decide +kernel) (pa_cons ha.pe pa_nil sa) (he := sa)) (pe_callB call_repr hg hm (by decide +kernel) (pa_cons hb.pe pa_nil sb) (he := sb)) (nomark _)).imp repr_lift⟩
theorem dt_reprEq (hg : Gl X "repr") (hm : X.mg "repr" = none) (ha : DE X g a wa) (hb : DE X g b wb) (sa : starEach [a] X.env = (false, eval a X.env) :: starEach [] X.env := by rfl) (sb : starEach [b] X.env = (false, eval b X.env) :: starEach [] X.env := by rfl) :
    DT X g (.Compare (.Call (.Name "repr" p1) [a] [] q1) [.Eq] [.Call (.Name "repr" p2) [b] [] q2] pos) (wTest (wReprEq wa wb)) :=
  ⟨(pt_cmpR op_eq (pe_callB call_repr hg hm (by decide +kernel) (pa_cons ha.pe pa_nil sa) (he := sa)) (pe_callB call_repr hg hm (by decide +kernel) (pa_cons hb.pe pa_nil sb) (he := sb)) (nomark _)).imp (test_lift repr_lift)⟩

/-! ### isinstance(x, a built-in class) -/
def tyD : D → String
  | .non => "NoneType"
  | .bl _ => "bool"
  | .int _ => "int"
  | .str _ => "str"
  | .tup _ => "tuple"
  | .lst _ => "list"
  | .dct _ _ => "dict"
  | .scr _ => "list"
/-- of the built-in classes that are asked here -/
def isiD (c : String) (d : D) : Bool := tyD d == c || (c == "int" && tyD d == "bool")
def isiOk : D → Bool
  | .dct _ _ => false
  | _ => true
def wIsi (c : String) (a : WE) : WE := fun ρ Q => a ρ fun t ρ1 => match rd ρ1 t with
  | some d => isiOk d = true ∧ Q (.val (.bl (isiD c d))) ρ1
  | none => False
theorem tyD_kit (c : String) (hc : c ∈ ["str", "int", "bool", "tuple", "list", "dict"]) (d : D) : kitB (tyD d) c = some (isiD c d) := by
  have key : ∀ t ∈ ["NoneType", "bool", "int", "str", "tuple", "list", "dict"], ∀ c ∈ ["str", "int", "bool", "tuple", "list", "dict"], kitB t c = some (t == c || (c == "int" && t == "bool")) := by decide +kernel
  exact key (tyD d) (by cases d <;> simp [tyD]) c hc
theorem LentAt.tyx {K : PySem.W.Frag} {Z : Addr → Prop} {H : Hp} {v : V} {d : D} (h : LentAt K Z H v d) (ok : isiOk d = true) : TyX K H v (.type (tyD d)) := by
  cases d with
  | non => cases h.non; exact .base .non
  | bl b => cases h.bl; exact .base (.bl b)
  | int b => cases h.int; exact .base (.int b)
  | str b => obtain ⟨s, rfl, _⟩ := h.str; exact .base (.str s)
  | tup b => obtain ⟨a, xs, rfl, e, _⟩ := h.tup; exact .base (.tup e)
  | lst b => obtain ⟨a, xs, rfl, e, _⟩ := h.lst; exact .base (.lst e)
  | dct b l => cases ok
  | scr l =>
    obtain ⟨a, rfl, e⟩ := h.scr
    rcases e with ⟨o, e⟩ | ⟨o, its, n, e, c, _⟩
    · exact .base (.frz e)
    · exact .kList e c
theorem isi_lift {c : String} (hc : c ∈ ["str", "int", "bool", "tuple", "list", "dict"]) (σ : L2.St) (H : Hp) (Q : VK) (h : liftE X.K g (wIsi c wa) σ H Q) : tCB (rIsi X.K) (tCons (liftE X.K g wa) (tCons (tC (.ty c)) tNil)) σ H Q := by
  obtain ⟨Z, ρ, P, R, w, k⟩ := h
  refine ⟨Z, ρ, _, R, w, fun t1 v1 Z1 H1 ρ1 R1 s1 o1 q1 => ?_⟩
  cases e : rd ρ1 t1 with
  | none => simp only [e] at q1
  | some d =>
    simp only [e] at q1
    exact ⟨v1, .ty c, _, _, isiD c d, rfl, .ty c, (o1.read R1 e).tyx q1.1, kit_ty (tyD_kit c hc d), k (.val (.bl (isiD c d))) _ Z1 H1 ρ1 R1 s1 (Rep.bl _) q1.2⟩
theorem de_isi {x : Str} {c : String} (hg : Gl X "isinstance") (hm : X.mg "isinstance" = none) (ha : DE X g a wa) (hgc : Gl X x) (hmc : X.mg x = none) (hv : bootBuiltins x = some (.type c)) (hc : c ∈ ["str", "int", "bool", "tuple", "list", "dict"]) (hn : x ≠ "__name__" := by decide) (hd : (x == ("__debug__" : Str)) = false := by decide)
    (sa : starEach [a, .Name x p2] X.env = (false, eval a X.env) :: starEach [.Name x p2] X.env := by rfl) : DE X g (.Call (.Name "isinstance" p1) [a, .Name x p2] [] pos) (wIsi c wa) :=
  ⟨(pe_callB call_isi hg hm (by decide +kernel) (pa_cons ha.pe (pa_cons (pe_bltn (v := .ty c) hgc hmc hv rfl hn hd) pa_nil) sa) (he := sa)).imp (isi_lift hc)⟩
end
end VS
namespace VS
open PySem PySem.Spec PyProof.Rows L2

/-! ### blocks -/
def wNx : WS := fun P ρ => P.nx ρ
def wSeq (a b : WS) : WS := fun P ρ => a { P with nx := fun ρ' => b P ρ' } ρ
/-- a value goes into a slot -/
def store (t : T) (i : Nat) (ρ : Rho) (Q : Rho → Prop) : Prop := match t with
  | .val d => Q (st ρ i (.fz d))
  | .tmp d => Q (st ρ i (.own d))
  | .bor j => cap (.bor j) ρ fun d ρ' => Q (st ρ' i (.fz d))
def wAsg (i : Nat) (e : WE) : WS := fun P ρ => e ρ fun t ρ1 => store t i ρ1 P.nx
def wDrop (e : WE) : WS := fun P ρ => e ρ fun _ ρ1 => P.nx ρ1
def wRet (e : WE) : WS := fun P ρ => e ρ fun t ρ1 => P.rt t ρ1
def wRetN : WS := fun P ρ => P.rt (.val .non) ρ
def wIfS (c : WT) (a b : WS) : WS := fun P ρ => c ρ fun k ρ1 => br k (a P ρ1) (b P ρ1)
def wBrk : WS := fun P ρ => P.bk ρ
def wCnt : WS := fun P ρ => P.ct ρ
section
variable {K : PySem.W.Frag} {g : G} {Z Z' Z1 Z2 : Addr → Prop} {σ σ' σ1 σ2 : L2.St} {H H' H1 H2 Hs : Hp} {ρ ρ' ρ1 ρ2 : Rho} {a : Addr} {v : V} {d : D} {t : T} {i : Nat}
theorem store_ok {Q : Rho → Prop} (R : Rel K g Z σ H ρ) (s : Step Z1 Hs σ ρ1 Z H σ ρ) (h : TOk K g Hs Z σ H ρ v t) (q : store t i ρ Q) :
    ∃ Z' ρ', Q ρ' ∧ Rel K g Z' (σ.set i (some v)) H ρ' ∧ Step Z1 Hs σ ρ1 Z' H (σ.set i (some v)) ρ' := by
  cases t with
  | val d =>
    exact ⟨Z, st ρ i (.fz d), q, R.put (fun d' e => by cases e; exact h) (fun _ e => nomatch e) (fun _ e => nomatch e) (fun _ e => nomatch e), s.put R.len (fun _ e => nomatch e) (fun _ e => nomatch e) (fun _ e => nomatch e)⟩
  | tmp d =>
    obtain ⟨a, rfl, o, z, n, u, f⟩ := h
    exact ⟨Z, st ρ i (.own d), q, R.put (fun _ e => nomatch e) (fun d' e => by cases e; exact ⟨a, rfl, o, z, f, u⟩) (fun _ e => nomatch e) (fun _ e => nomatch e),
      s.put R.len (fun d' e => ⟨a, rfl, n⟩) (fun _ e => nomatch e) (fun _ e => nomatch e)⟩
  | bor j =>
    obtain ⟨d, Z', ρ', q', R', s', r', _, _⟩ := cap_ok R s h (show cap (.bor j) ρ (fun d ρ' => Q (st ρ' i (.fz d))) from q)
    exact ⟨Z', st ρ' i (.fz d), q', R'.put (fun d' e => by cases e; exact r') (fun _ e => nomatch e) (fun _ e => nomatch e) (fun _ e => nomatch e), s'.put R'.len (fun _ e => nomatch e) (fun _ e => nomatch e) (fun _ e => nomatch e)⟩
end
section
variable {X : Cx} {g : G} {pos : Pos} {s : Stmt} {rest : List Stmt} {ws wr wa wb : WS} {e c : Expr} {we : WE} {wc : WT}
theorem dss_nil : DSs X g [] wNx := by
  refine ⟨pss_nil.imp fun D σ H h => ?_⟩
  obtain ⟨Z, ρ, P, R, w, k, _⟩ := h
  exact k Z σ H ρ R Step.refl w
theorem dss_cons (h1 : DS X g s ws) (h2 : DSs X g rest wr) : DSs X g (s :: rest) (wSeq ws wr) := by
  refine ⟨(pss_cons h1.ps h2.ps).imp fun D σ H h => ?_⟩
  obtain ⟨Z, ρ, P, R, w, k1, k2, k3, k4⟩ := h
  refine ⟨Z, ρ, _, R, w, fun Z' σ' H' ρ' R' s' q => ?_, k2, k3, k4⟩
  exact ⟨Z', ρ', P, R', q, fun Z'' σ'' H'' ρ'' R'' s'' => k1 Z'' σ'' H'' ρ'' R'' (s'.trans s''), fun t v Z'' σ'' H'' ρ'' Hs R'' s'' => k2 t v Z'' σ'' H'' ρ'' Hs R'' (s'.trans s''),
    fun Z'' σ'' H'' ρ'' R'' s'' => k3 Z'' σ'' H'' ρ'' R'' (s'.trans s''), fun Z'' σ'' H'' ρ'' R'' s'' => k4 Z'' σ'' H'' ρ'' R'' (s'.trans s'')⟩
theorem dss_one (h1 : DS X g s ws) : DSs X g [s] ws := ⟨pss_one h1.ps⟩
theorem ds_pass : DS X g (.Pass pos) wNx := by
  refine ⟨ps_pass.imp fun D σ H h => ?_⟩
  obtain ⟨Z, ρ, P, R, w, k, _⟩ := h
  exact k Z σ H ρ R Step.refl w
theorem ds_brk : DS X g (.Break pos) wBrk := by
  refine ⟨ps_break.imp fun D σ H h => ?_⟩
  obtain ⟨Z, ρ, P, R, w, _, _, k, _⟩ := h
  exact k Z σ H ρ R Step.refl w
theorem ds_cnt : DS X g (.Continue pos) wCnt := by
  refine ⟨ps_continue.imp fun D σ H h => ?_⟩
  obtain ⟨Z, ρ, P, R, w, _, _, _, k⟩ := h
  exact k Z σ H ρ R Step.refl w
theorem ds_ret (h : DE X g e we) : DS X g (.Return (some e) pos) (wRet we) := by
  refine ⟨(ps_ret h.pe).imp fun D σ H h => ?_⟩
  obtain ⟨Z, ρ, P, R, w, _, k, _⟩ := h
  exact ⟨Z, ρ, _, R, w, fun t v Z' H' ρ' R' s' o' q' => k t v Z' σ H' ρ' H R' s' o' q'⟩
theorem ds_retN : DS X g (.Return none pos) wRetN := by
  refine ⟨ps_retN.imp fun D σ H h => ?_⟩
  obtain ⟨Z, ρ, P, R, w, _, k, _⟩ := h
  exact k (.val .non) .non Z σ H ρ H R Step.refl Rep.non w
theorem ds_drop (h : DE X g e we) (hs : swapsWith e none pos.line X.env = pure false := by rfl) : DS X g (.Expr e pos) (wDrop we) := by
  refine ⟨(ps_expr h.pe hs).imp fun D σ H h => ?_⟩
  obtain ⟨Z, ρ, P, R, w, k, _⟩ := h
  exact ⟨Z, ρ, _, R, w, fun t v Z' H' ρ' R' s' o' q' => k Z' σ H' ρ' R' s' q'⟩
theorem ds_if {a b : List Stmt} (hc : DT X g c wc) (ha : DSs X g a wa) (hb : DSs X g b wb) : DS X g (.If c a b pos) (wIfS wc wa wb) := by
  refine ⟨(ps_if hc.pt ha.ps hb.ps).imp fun D σ H h => ?_⟩
  obtain ⟨Z, ρ, P, R, w, k1, k2, k3, k4⟩ := h
  refine ⟨Z, ρ, _, R, w, fun b Z' H' ρ' R' s' q => ?_⟩
  have fin : ∀ w : WS, w P ρ' → liftS X.K g w D σ H' := fun w q => ⟨Z', ρ', P, R', q, fun Z'' σ'' H'' ρ'' R'' s'' => k1 Z'' σ'' H'' ρ'' R'' (s'.trans s''), fun t v Z'' σ'' H'' ρ'' Hs R'' s'' => k2 t v Z'' σ'' H'' ρ'' Hs R'' (s'.trans s''),
    fun Z'' σ'' H'' ρ'' R'' s'' => k3 Z'' σ'' H'' ρ'' R'' (s'.trans s''), fun Z'' σ'' H'' ρ'' R'' s'' => k4 Z'' σ'' H'' ρ'' R'' (s'.trans s'')⟩
  cases b with
  | true => exact fin wa (q.1 rfl)
  | false => exact fin wb (q.2 rfl)
theorem ds_asg {i : Nat} {x : Str} {p : Pos} (hN : X.N.Nodup) (hi : X.N[i]? = some x) (hx : Loc X.env.scope x) (he : DE X g e we) (hs : swapsWith e (some (.Name x p)) pos.line X.env = pure false := by rfl) (hf : X.fn x = true ∨ X.env.scope.names.lookup x = some .local := by first | exact .inl rfl | exact .inr rfl | assumption) :
    DS X g (.Assign [.Name x p] e pos) (wAsg i we) := by
  refine ⟨(ps_set hN hi hx he.pe hs hf).imp fun D σ H h => ?_⟩
  obtain ⟨Z, ρ, P, R, w, k, _⟩ := h
  refine ⟨Z, ρ, _, R, w, fun t v Z' H' ρ' R' s' o' q' => ?_⟩
  obtain ⟨Z2, ρ2, q2, R2, s2⟩ := store_ok R' s' o' q'
  exact k Z2 _ H' ρ2 R2 s2 q2

/-! ### targets: names, tuples of names -/
abbrev WG := D → Rho → (Rho → Prop) → Prop
abbrev WGs := List D → Rho → (Rho → Prop) → Prop
def wgN (i : Nat) : WG := fun d ρ Q => Q (st ρ i (.fz d))
def wgNil : WGs := fun ds ρ Q => match ds with
  | [] => Q ρ
  | _ => False
def wgCons (a : WG) (r : WGs) : WGs := fun ds ρ Q => match ds with
  | d :: ds => a d ρ fun ρ' => r ds ρ' Q
  | [] => False
def wgT (n : Nat) (r : WGs) : WG := fun d ρ Q => match d with
  | .tup ds => ds.length = n ∧ r ds ρ Q
  | _ => False
def liftG (K : PySem.W.Frag) (g : G) (w : WG) : TG := fun v σ H Q => ∃ Z ρ P d, Rel K g Z σ H ρ ∧ Rep K Z H v d ∧ w d ρ P ∧ ∀ σ' ρ', Rel K g Z σ' H ρ' → Step Z H σ ρ Z H σ' ρ' → P ρ' → Q σ' H
def liftGs (K : PySem.W.Frag) (g : G) (w : WGs) : TGs := fun vs σ H Q => ∃ Z ρ P ds, Rel K g Z σ H ρ ∧ Reps K Z H vs ds ∧ w ds ρ P ∧ ∀ σ' ρ', Rel K g Z σ' H ρ' → Step Z H σ ρ Z H σ' ρ' → P ρ' → Q σ' H
structure DG (X : Cx) (g : G) (e : Expr) (w : WG) : Prop where
  pg : PG X e (liftG X.K g w)
structure DGs (X : Cx) (g : G) (e : List Expr) (w : WGs) : Prop where
  pg : PGs X e (liftGs X.K g w)
theorem PG.imp {e : Expr} {t t' : TG} (h : PG X e t) (m : ∀ v σ H Q, t' v σ H Q → t v σ H Q) : PG X e t' := ⟨fun pins s σ H v u Q I r q => h.run pins s σ H v u Q I r (m v σ H Q q)⟩
theorem PGs.imp {e : List Expr} {t t' : TGs} (h : PGs X e t) (m : ∀ v σ H Q, t' v σ H Q → t v σ H Q) : PGs X e t' := ⟨fun pins s σ H v u Q I r q => h.run pins s σ H v u Q I r (m v σ H Q q)⟩
theorem dg_name {i : Nat} {x : Str} (hN : X.N.Nodup) (hi : X.N[i]? = some x) (hx : Loc X.env.scope x) (hf : X.fn x = true ∨ X.env.scope.names.lookup x = some .local := by first | exact .inl rfl | exact .inr rfl | assumption) : DG X g (.Name x pos) (wgN i) := by
  refine ⟨PG.imp (pg_name hN hi hx hf) fun v σ H Q h => ?_⟩
  obtain ⟨Z, ρ, P, d, R, r, w, k⟩ := h
  exact k _ (st ρ i (.fz d)) (R.put (fun d' e => by cases e; exact r) (fun _ e => nomatch e) (fun _ e => nomatch e) (fun _ e => nomatch e)) (Step.refl.put R.len (fun _ e => nomatch e) (fun _ e => nomatch e) (fun _ e => nomatch e)) w
theorem dgs_nil : DGs X g [] wgNil := by
  refine ⟨PGs.imp pgs_nil fun v σ H Q h => ?_⟩
  obtain ⟨Z, ρ, P, d, R, r, w, k⟩ := h
  cases d with
  | nil =>
    cases r
    exact ⟨rfl, k σ ρ R Step.refl w⟩
  | cons _ _ => exact w.elim
theorem dgs_cons {es : List Expr} {wg : WG} {wgs : WGs} (h1 : DG X g e wg) (h2 : DGs X g es wgs) (hs : (assignEach (e :: es) X.env).map (·.2) = assign e X.env :: (assignEach es X.env).map (·.2) := by rfl) : DGs X g (e :: es) (wgCons wg wgs) := by
  refine ⟨PGs.imp (pgs_cons h1.pg h2.pg hs) fun v σ H Q h => ?_⟩
  obtain ⟨Z, ρ, P, d, R, r, w, k⟩ := h
  cases d with
  | nil => exact w.elim
  | cons d ds =>
    cases r with
    | cons r1 rr =>
      refine ⟨_, _, rfl, Z, ρ, _, d, R, r1, w, fun σ' ρ' R' s' q => ?_⟩
      exact ⟨Z, ρ', P, ds, R', rr, q, fun σ'' ρ'' R'' s'' q'' => k σ'' ρ'' R'' (s'.trans s'') q''⟩
theorem dg_tup {es : List Expr} {k : Nat} {wgs : WGs} {n : Nat} (hc : X.calm = true) (h : DGs X g es wgs) (hn : (assignEach es X.env).length = n := by rfl) (hst : (assignEach es X.env).findIdx? (·.1) = none := by rfl) : DG X g (.Tuple es k pos) (wgT n wgs) := by
  refine ⟨PG.imp (pg_tup hc h.pg hn hst) fun v σ H Q h => ?_⟩
  obtain ⟨Z, ρ, P, d, R, r, w, k⟩ := h
  cases d with
  | tup ds =>
    obtain ⟨w1, w2⟩ := w
    cases r with
    | tup e rr => exact ⟨_, _, rfl, .of e, rr.length.trans w1, Z, ρ, P, ds, R, rr, w2, k⟩
  | _ => exact w.elim
/-- (a, b) = e -/
def wAsgT (w : WG) (e : WE) : WS := fun P ρ => e ρ fun t ρ1 => cap t ρ1 fun d ρ2 => w d ρ2 P.nx
theorem ds_asgT {tg : Expr} {wg : WG} (he : DE X g e we) (hg : DG X g tg wg) (hs : swapsWithSole [tg] e pos.line X.env = pure false := by rfl) (hw : swappedStores [tg] e X.env = pure none := by rfl) (h1 : (assignEach [tg] X.env).map (·.2) = [assign tg X.env] := by rfl) :
    DS X g (.Assign [tg] e pos) (wAsgT wg we) := by
  refine ⟨(ps_asg he.pe hg.pg hs hw h1).imp fun D σ H h => ?_⟩
  obtain ⟨Z, ρ, P, R, w, k, _⟩ := h
  refine ⟨Z, ρ, _, R, w, fun t v Z' H' ρ' R' s' o' q' => ?_⟩
  obtain ⟨d, Z2, ρ2, q2, R2, s2, r2, _⟩ := cap_ok R' s' o' q'
  exact ⟨Z2, ρ2, _, d, R2, r2, q2, fun σ' ρ'' R'' s'' q'' => k Z2 σ' H' ρ'' R'' (s2.trans s'') q''⟩

/-! ### stores into a list -/
/-- x[i] = e : x in slot j -/
def wPutIx (j : Nat) (wi we : WE) : WS := fun P ρ => we ρ fun t ρ1 => (gt ρ1 j).used = true ∧ wi ρ1 fun ti ρ2 => cap t ρ2 fun d ρ3 => match ti, gt ρ3 j with
  | .val (.int i), .own (.lst l) => ∃ k, ixN l.length i = some k ∧ P.nx (st ρ3 j (.own (.lst (l.set k d))))
  | .val (.int i), .mu (.lst l) => ∃ k, ixN l.length i = some k ∧ P.nx (st ρ3 j (.mu (.lst (l.set k d))))
  | .val k, .own (.dct b l) => keyFor b k = true ∧ l.length < 16777216 ∧ P.nx (st ρ3 j (.own (.dct b (putD l k d))))
  | .val k, .mu (.dct b l) => keyFor b k = true ∧ l.length < 16777216 ∧ P.nx (st ρ3 j (.mu (.dct b (putD l k d))))
  | _, _ => False
theorem used_slot {K : PySem.W.Frag} {Z : Addr → Prop} {σ : L2.St} {H : Hp} {ρ : Rho} {j : Nat} (R : Rel K g Z σ H ρ) (u : (gt ρ j).used = true) : ∃ a, σ[j]? = some (some (.ref a)) := by
  cases q : gt ρ j with
  | own d => obtain ⟨a, e, _⟩ := R.own j d q; exact ⟨a, e⟩
  | mu d => obtain ⟨a, e, _⟩ := R.mu j d q; exact ⟨a, e⟩
  | lent d =>
    obtain ⟨v, e, l, t⟩ := R.lent j d q
    cases d with
    | lst l => obtain ⟨a, _, rfl, _⟩ := l; exact ⟨a, e⟩
    | dct b l => cases b <;> (obtain ⟨a, _, rfl, _⟩ := l; exact ⟨a, e⟩)
    | _ => cases t
  | no => rw [q] at u; cases u
  | fz d => rw [q] at u; cases u
/-- the store's own part: the slot's object is written -/
theorem write_lst {K : PySem.W.Frag} {Z Z1 : Addr → Prop} {σ : L2.St} {H Hs : Hp} {ρ ρ1 : Rho} {j : Nat} {l : List D} {a : Addr} {ys : List V} {es : List D} (R : Rel K g Z σ H ρ) (s : Step Z1 Hs σ ρ1 Z H σ ρ) (b : Bool) (q : gt ρ j = (if b then .own (.lst l) else .mu (.lst l))) (e : σ[j]? = some (some (.ref a))) (r : Reps K Z H ys es) :
    Rel K g Z σ (upd H a (.lst ys)) (st ρ j (if b then .own (.lst es) else .mu (.lst es))) ∧ Step Z1 Hs σ ρ1 Z (upd H a (.lst ys)) σ (st ρ j (if b then .own (.lst es) else .mu (.lst es))) := by
  have m : (gt ρ j).mine = true := by rw [q]; cases b <;> rfl
  obtain ⟨ch, z, _⟩ := R.mineChg ⟨j, m, e⟩
  have lo : Loose Z H a := ⟨z, .inr ch⟩
  have on : OwnAt K Z (upd H a (.lst ys)) a (.lst es) := ⟨ys, upd_same, lo.reps r⟩
  refine ⟨R.write m e on ?_, s.write m ?_ e (fun d y => by cases b with | true => cases y | false => exact ⟨_, q⟩)⟩
  · rw [q]; cases b <;> rfl
  · cases b <;> rfl
theorem own_lst {K : PySem.W.Frag} {Z : Addr → Prop} {σ : L2.St} {H : Hp} {ρ : Rho} {j : Nat} {l : List D} (R : Rel K g Z σ H ρ) (b : Bool) (q : gt ρ j = (if b then .own (.lst l) else .mu (.lst l))) : ∃ a xs, σ[j]? = some (some (.ref a)) ∧ H a = some (.lst xs) ∧ Reps K Z H xs l := by
  cases b with
  | true => obtain ⟨a, e, ⟨xs, h, r⟩, _⟩ := R.own j _ q; exact ⟨a, xs, e, h, r⟩
  | false => obtain ⟨a, e, ⟨xs, h, r⟩, _⟩ := R.mu j _ q; exact ⟨a, xs, e, h, r⟩
theorem own_dct {K : PySem.W.Frag} {Z : Addr → Prop} {σ : L2.St} {H : Hp} {ρ : Rho} {j : Nat} {c : Bool} {l : List (D × D)} (R : Rel K g Z σ H ρ) (b : Bool) (q : gt ρ j = (if b then .own (.dct c l) else .mu (.dct c l))) : ∃ a, σ[j]? = some (some (.ref a)) ∧ OwnAt K Z H a (.dct c l) ∧ ¬ Z a := by
  cases b with
  | true => obtain ⟨a, e, h, z, _⟩ := R.own j _ q; exact ⟨a, e, h, z⟩
  | false => obtain ⟨a, e, h, z, _⟩ := R.mu j _ q; exact ⟨a, e, h, z⟩
/-- a dict's object behind a store -/
theorem dput_ok {K : PySem.W.Frag} {Z Z1 : Addr → Prop} {σ : L2.St} {H Hs : Hp} {ρ ρ1 : Rho} {j : Nat} {c : Bool} {l : List (D × D)} {y v : V} {k d : D} (R : Rel K g Z σ H ρ) (s : Step Z1 Hs σ ρ1 Z H σ ρ) (b : Bool) (q : gt ρ j = (if b then .own (.dct c l) else .mu (.dct c l)))
    (hk : LentAt K Z H y k) (f : keyFor c k = true) (hl : l.length < 16777216) (hv : Rep K Z H v d) : ∃ a H', σ[j]? = some (some (.ref a)) ∧ DPut H a y v H' ∧
      Rel K g Z σ H' (st ρ j (if b then .own (.dct c (putD l k d)) else .mu (.dct c (putD l k d)))) ∧ Step Z1 Hs σ ρ1 Z H' σ (st ρ j (if b then .own (.dct c (putD l k d)) else .mu (.dct c (putD l k d)))) := by
  have m : (gt ρ j).mine = true := by rw [q]; cases b <;> rfl
  obtain ⟨a, e, o, _⟩ := own_dct R b q
  obtain ⟨ch, z, _⟩ := R.mineChg ⟨j, m, e⟩
  have lo : Loose Z H a := ⟨z, .inr ch⟩
  have fin : ∀ u, OwnAt K Z (upd H a u) a (.dct c (putD l k d)) → Rel K g Z σ (upd H a u) (st ρ j (if b then .own (.dct c (putD l k d)) else .mu (.dct c (putD l k d)))) ∧ Step Z1 Hs σ ρ1 Z (upd H a u) σ (st ρ j (if b then .own (.dct c (putD l k d)) else .mu (.dct c (putD l k d)))) := fun u on => by
    refine ⟨R.write m e on ?_, s.write m ?_ e (fun d y => by cases b with | true => cases y | false => exact ⟨_, q⟩)⟩
    · rw [q]; cases b <;> rfl
    · cases b <;> rfl
  cases c with
  | false =>
    obtain ⟨kvs, h, r⟩ := o
    have fk : isKey k = true := f
    have hk' : Rep K Z H y k := hk.rep (by cases k <;> first | rfl | cases fk)
    have e1 := hk'.key fk
    have e2 := kD_keyD fk
    refine ⟨a, _, e, .inl ⟨kvs, keyD k, h, e1, by rw [r.length, sizeLine_eq]; exact hl, rfl⟩, fin _ ⟨_, upd_same, lo.repk ?_⟩⟩
    rw [← e2]
    have := RepK.put (keyD k) hv r
    rw [e2] at this ⊢
    exact this
  | true =>
    obtain ⟨kvs, h, r⟩ := o
    cases k with
    | tup ks =>
      have fk : ks.all isKey = true := f
      obtain ⟨t, xs, rfl, ht, rr⟩ := hk.tup
      have e1 := rr.keys fk
      have e2 := keyDs fk
      subst e1
      refine ⟨a, _, e, .inr ⟨kvs, ks.map keyD, t, h, rfl, ht, by rw [r.length, sizeLine_eq]; exact hl, rfl⟩, fin _ ⟨_, upd_same, lo.rept ?_⟩⟩
      have := RepT.put (ks.map keyD) hv r
      rw [e2] at this
      exact this
    | _ => cases f
def rSetAny : V → V → V → Hp → (Hp → Prop) → Prop := fun o i v H Q => rSetL o i v H Q ∨ ∃ a H', o = .ref a ∧ DPut H a i v H' ∧ Q H'
theorem set_any (hu : X.A.units + 1 < cLine) : PSet X rSetAny := by
  intro pins s σ H o i v ov iv u Q I ro ri rv h
  rcases h with h | ⟨a, H', rfl, g, q⟩
  · exact set_list pins s σ H o i v ov iv u Q I ro ri rv h
  · cases ro
    exact d_setItem hu I g ri rv fun s' I' => ⟨H', I', q⟩
theorem ds_putIx {j : Nat} {x : Str} {p p2 : Pos} {i : Expr} {wi : WE} (hu : X.A.units + 1 < cLine) (hN : X.N[j]? = some x) (hv : Vis X.env.scope x) (hi : DE X g i wi) (he : DE X g e we)
    (hs : swapsWithSole [.Subscript (.Name x p) i p2] e pos.line X.env = pure false := by rfl) (hw : swappedStores [.Subscript (.Name x p) i p2] e X.env = pure none := by rfl) (h1 : (assignEach [.Subscript (.Name x p) i p2] X.env).map (·.2) = [assign (.Subscript (.Name x p) i p2) X.env] := by rfl)
    (ha : ∀ v, assign (.Subscript (.Name x p) i p2) X.env v = (do
      let ov ← holding [v] (eval (.Name x p) X.env)
      let iv ← holding [v, ov] (eval i X.env)
      standAt p2
      holding [v, ov, iv] (setItem ov iv v)
      release [v, ov, iv] []) := by intro _; rfl) (hd : (x == ("__debug__" : Str)) = false := by decide) (hcd : (x == ("__classdict__" : Str)) = false := by decide) :
    DS X g (.Assign [.Subscript (.Name x p) i p2] e pos) (wPutIx j wi we) := by
  refine ⟨(ps_asg he.pe (pg_sub (pe_var hN hv hd hcd) hi.pe (set_any hu) ha) hs hw h1).imp fun D σ H h => ?_⟩
  obtain ⟨Z, ρ, P, R, w, k, _⟩ := h
  refine ⟨Z, ρ, _, R, w, fun t v Z1 H1 ρ1 R1 s1 o1 q1 => ?_⟩
  obtain ⟨a, ea⟩ := used_slot R1 q1.1
  refine ⟨_, ea, Z1, ρ1, _, R1, q1.2, fun ti vi Z2 H2 ρ2 R2 s2 o2 q2 => ?_⟩
  have s12 := s1.trans s2
  obtain ⟨d, Z3, ρ3, q3, R3, s3, r3, z3, mv⟩ := cap_ok R2 s12 (o1.move s2 R1) q2
  split at q3
  · rename_i n l c
    obtain ⟨m, em, q3⟩ := q3
    cases o2
    obtain ⟨a', xs, e', h', r'⟩ := own_lst R3 true c
    rw [ea] at e'; cases e'
    obtain ⟨Rw, sw⟩ := write_lst R3 s3 true c ea (Reps.set r3 m r')
    exact .inl ⟨a, xs, n, m, rfl, rfl, h', by rw [r'.length]; exact em, k Z3 σ _ _ Rw sw q3⟩
  · rename_i n l c
    obtain ⟨m, em, q3⟩ := q3
    cases o2
    obtain ⟨a', xs, e', h', r'⟩ := own_lst R3 false c
    rw [ea] at e'; cases e'
    obtain ⟨Rw, sw⟩ := write_lst R3 s3 false c ea (Reps.set r3 m r')
    exact .inl ⟨a, xs, n, m, rfl, rfl, h', by rw [r'.length]; exact em, k Z3 σ _ _ Rw sw q3⟩
  · rename_i kd b l c
    obtain ⟨f1, f2, q3⟩ := q3
    have hk : LentAt X.K Z3 H2 vi kd := Rep.lent (Rep.mono (.ghost z3) o2)
    obtain ⟨a', H', e', g', Rw, sw⟩ := dput_ok R3 s3 true c hk f1 f2 r3
    rw [ea] at e'; cases e'
    exact .inr ⟨a, H', rfl, g', k Z3 σ _ _ Rw sw q3⟩
  · rename_i kd b l c
    obtain ⟨f1, f2, q3⟩ := q3
    have hk : LentAt X.K Z3 H2 vi kd := Rep.lent (Rep.mono (.ghost z3) o2)
    obtain ⟨a', H', e', g', Rw, sw⟩ := dput_ok R3 s3 false c hk f1 f2 r3
    rw [ea] at e'; cases e'
    exact .inr ⟨a, H', rfl, g', k Z3 σ _ _ Rw sw q3⟩
  · exact q3.elim
end
end VS
namespace VS
open PySem PySem.Spec PyProof.Rows L2

/-! ### methods that change a list in a slot -/
def appendD : List D → List D → (List D → D → Prop) → Prop
  | l, [d], Q => l.length < 16777216 ∧ Q (l ++ [d]) .non
  | _, _, _ => False
def extendD : List D → List D → (List D → D → Prop) → Prop
  | l, [.lst m], Q => l.length + m.length ≤ 16777216 ∧ Q (l ++ m) .non
  | _, _, _ => False
def popD : List D → List D → (List D → D → Prop) → Prop
  | l, [], Q => ∃ d, l[l.length - 1]? = some d ∧ Q l.dropLast d
  | l, [.int i], Q => -(2 ^ 63) ≤ i ∧ i < 2 ^ 63 ∧ ∃ k d, ixN l.length i = some k ∧ l[k]? = some d ∧ Q (l.eraseIdx k) d
  | _, _, _ => False
def insertD : List D → List D → (List D → D → Prop) → Prop
  | l, [.int i, d], Q => l.length < 16777216 ∧ 0 ≤ i ∧ i < 2 ^ 63 ∧ Q (l.take i.toNat ++ [d] ++ l.drop i.toNat) .non
  | _, _, _ => False
def MutD (X : Cx) (id : String) (f : List D → List D → (List D → D → Prop) → Prop) : Prop :=
  ∃ r, MtR X id r ∧ ∀ Z H a xs l vs ds (P : List D → D → Prop) (Q : VK), Loose Z H a → H a = some (.lst xs) → Reps X.K Z H xs l → Reps X.K Z H vs ds → f l ds P →
    (∀ ys es v d, Reps X.K Z H ys es → Rep X.K Z H v d → P es d → Q v (upd H a (.lst ys))) → r (.ref a) vs H Q
section
variable {X : Cx}
theorem mt_appendD : MutD X "list.append" appendD := by
  refine ⟨_, mt_append, fun Z H a xs l vs ds P Q lo h r rv f k => ?_⟩
  match ds, rv, f with
  | [d], .cons r1 .nil, f => exact ⟨a, xs, _, rfl, rfl, h, by rw [r.length, sizeLine_eq]; exact f.1, k _ _ .non .non (r.append (.cons r1 .nil)) .non f.2⟩
theorem mt_extendD : MutD X "list.extend" extendD := by
  refine ⟨_, mt_extend, fun Z H a xs l vs ds P Q lo h r rv f k => ?_⟩
  match ds, rv, f with
  | [.lst m], .cons (.lst z hb rb) .nil, f =>
    exact ⟨a, _, xs, _, rfl, rfl, h, hb, by rw [r.length, rb.length, sizeLine_eq]; exact f.1, k _ _ .non .non (r.append rb) .non f.2⟩
theorem mt_popD : MutD X "list.pop" popD := by
  refine ⟨_, MtR.or mt_pop mt_popAt, fun Z H a xs l vs ds P Q lo h r rv f k => ?_⟩
  match ds, rv, f with
  | [], .nil, f =>
    obtain ⟨d, e, f⟩ := f
    obtain ⟨y, ey, ry⟩ := r.get e
    exact .inl ⟨a, xs, y, rfl, rfl, h, by rw [r.length]; exact ey, k _ _ y d r.dropLast ry f⟩
  | [.int i], .cons (.int _) .nil, f =>
    obtain ⟨f1, f2, m, d, e1, e2, f⟩ := f
    obtain ⟨y, ey, ry⟩ := r.get e2
    exact .inr ⟨a, xs, i, m, y, rfl, rfl, h, f1, f2, by rw [r.length]; exact (ixN_seq e1).1, ey, k _ _ y d (r.eraseIdx m) ry f⟩
theorem mt_insertD : MutD X "list.insert" insertD := by
  refine ⟨_, mt_insert, fun Z H a xs l vs ds P Q lo h r rv f k => ?_⟩
  match ds, rv, f with
  | [.int i, d], .cons (.int _) (.cons r1 .nil), f =>
    obtain ⟨f1, f2, f3, f4⟩ := f
    exact ⟨a, xs, i, _, rfl, rfl, h, by rw [r.length, sizeLine_eq]; exact f1, f2, f3, k _ _ .non .non (((r.take _).append (.cons r1 .nil)).append (r.drop _)) .non f4⟩
end
def wMut (j : Nat) (f : List D → List D → (List D → D → Prop) → Prop) (r : WA) : WE := fun ρ Q => (match gt ρ j with | .own (.lst _) => True | .mu (.lst _) => True | _ => False) ∧ r ρ fun ts ρ1 => capAll ts ρ1 fun ds ρ2 => match gt ρ2 j with
  | .own (.lst l) => f l ds fun l' d => Q (.val d) (st ρ2 j (.own (.lst l')))
  | .mu (.lst l) => f l ds fun l' d => Q (.val d) (st ρ2 j (.mu (.lst l')))
  | _ => False
section
variable {X : Cx} {g : G} {pos apos cpos p : Pos} {e : Expr} {es : List Expr} {wr : WA} {j : Nat} {x name : Str} {id : String} {f : List D → List D → (List D → D → Prop) → Prop}
theorem mut_at {K : PySem.W.Frag} {Z : Addr → Prop} {σ : L2.St} {H : Hp} {ρ : Rho} (R : Rel K g Z σ H ρ) (h : match gt ρ j with | .own (.lst _) => True | .mu (.lst _) => True | _ => False) : ∃ a, σ[j]? = some (some (.ref a)) ∧ ∃ xs, H a = some (.lst xs) := by
  split at h
  · rename_i l c
    obtain ⟨a, xs, e, h, r⟩ := own_lst R true c
    exact ⟨a, e, xs, h⟩
  · rename_i l c
    obtain ⟨a, xs, e, h, r⟩ := own_lst R false c
    exact ⟨a, e, xs, h⟩
  · exact h.elim
/-- behind the arguments -/
theorem mut_fin {K : PySem.W.Frag} {r : V → List V → Hp → VK → Prop} (hr : ∀ Z H a xs l vs ds (P : List D → D → Prop) (Q : VK), Loose Z H a → H a = some (.lst xs) → Reps K Z H xs l → Reps K Z H vs ds → f l ds P →
    (∀ ys es v d, Reps K Z H ys es → Rep K Z H v d → P es d → Q v (upd H a (.lst ys))) → r (.ref a) vs H Q)
    {Z Z2 : Addr → Prop} {σ : L2.St} {H H2 : Hp} {ρ ρ2 : Rho} {ts : List T} {vs : List V} {a : Addr} {P : T → Rho → Prop} {Q : VK} (ea : σ[j]? = some (some (.ref a)))
    (k : ∀ t v Z' H' ρ', Rel K g Z' σ H' ρ' → Step Z H σ ρ Z' H' σ ρ' → TOk K g H Z' σ H' ρ' v t → P t ρ' → Q v H') (R2 : Rel K g Z2 σ H2 ρ2) (s2 : Step Z H σ ρ Z2 H2 σ ρ2) (o2 : TsOk K g H Z2 σ H2 ρ2 vs ts)
    (q : capAll ts ρ2 fun ds ρ3 => match gt ρ3 j with
      | .own (.lst l) => f l ds fun l' d => P (.val d) (st ρ3 j (.own (.lst l')))
      | .mu (.lst l) => f l ds fun l' d => P (.val d) (st ρ3 j (.mu (.lst l')))
      | _ => False) : r (.ref a) vs H2 Q := by
  obtain ⟨ds, Z3, ρ3, q3, R3, s3, r3, _⟩ := capAll_ok R2 s2 o2 q
  have go : ∀ (b : Bool) (l : List D), gt ρ3 j = (if b then .own (.lst l) else .mu (.lst l)) → (f l ds fun l' d => P (.val d) (st ρ3 j (if b then .own (.lst l') else .mu (.lst l')))) → r (.ref a) vs H2 Q := fun b l c q => by
    obtain ⟨a', xs, e', h', r'⟩ := own_lst R3 b c
    rw [ea] at e'; cases e'
    have m : (gt ρ3 j).mine = true := by rw [c]; cases b <;> rfl
    obtain ⟨ch, z, _⟩ := R3.mineChg ⟨j, m, ea⟩
    have lo : Loose Z3 H2 a := ⟨z, .inr ch⟩
    refine hr Z3 H2 a xs l vs ds _ Q lo h' r' r3 q fun ys es v d ry rv p => ?_
    obtain ⟨Rw, sw⟩ := write_lst R3 s3 b c ea ry
    exact k (.val d) v Z3 _ _ Rw sw (lo.rep rv) p
  split at q3
  · rename_i l c
    exact go true l c q3
  · rename_i l c
    exact go false l c q3
  · exact q3.elim
theorem de_mut (pa : PlainAttrs "list") (slot : Slot "list" name id) (hty : typeOf (.builtin id) = pure (.type "method_descriptor")) (hm : MutD X id f) (hN : X.N[j]? = some x) (hv : Vis X.env.scope x) (ha : DA X g (e :: es) wr)
    (hd : (x == ("__debug__" : Str)) = false := by decide) (hcd : (x == ("__classdict__" : Str)) = false := by decide)
    (hbase : attributeBase (.Name x p) name X.env (eval (.Name x p) X.env) = eval (.Name x p) X.env := by rfl)
    (hfew : ((backTo cpos (starEach (e :: es) X.env)).all (fun x => !x.1) && (backToKw cpos (keywordEach [] X.env)).all (fun x => x.1.isSome)
      && decide ((e :: es).length + ([] : List Keyword).length + (if ([] : List Keyword).isEmpty then 0 else 1) < 30)) = true := by rfl)
    (hline : (apos.endLine == cpos.line) = true := by rfl) (hs : starEach (e :: es) X.env = (false, eval e X.env) :: starEach es X.env := by rfl) (hplain : (backTo cpos (starEach es X.env)).any (·.1) = false := by rfl) :
    DE X g (.Call (.Attribute (.Name x p) name apos) (e :: es) [] cpos) (wMut j f wr) := by
  obtain ⟨r, hr, hh⟩ := hm
  refine ⟨(pe_bm pa slot hty hr (pe_var hN hv hd hcd) ha.pa hbase hfew hline hs hplain).imp fun σ H Q h => ?_⟩
  obtain ⟨Z, ρ, P, R, w, k⟩ := h
  obtain ⟨a, ea, xs, hx⟩ := mut_at R w.1
  exact ⟨_, ea, .inl ⟨rfl, xs, .of hx⟩, Z, ρ, _, R, w.2, fun ts vs Z2 H2 ρ2 R2 s2 o2 q2 => mut_fin hh ea k R2 s2 o2 q2⟩
theorem de_mut0 (pa : PlainAttrs "list") (slot : Slot "list" name id) (hty : typeOf (.builtin id) = pure (.type "method_descriptor")) (hm : MutD X id f) (hN : X.N[j]? = some x) (hv : Vis X.env.scope x)
    (hd : (x == ("__debug__" : Str)) = false := by decide) (hcd : (x == ("__classdict__" : Str)) = false := by decide)
    (hbase : attributeBase (.Name x p) name X.env (eval (.Name x p) X.env) = eval (.Name x p) X.env := by rfl) (hline : (apos.endLine == cpos.line) = true := by rfl) :
    DE X g (.Call (.Attribute (.Name x p) name apos) [] [] cpos) (wMut j f wNil) := by
  obtain ⟨r, hr, hh⟩ := hm
  refine ⟨(pe_bm0 pa slot hty hr (pe_var hN hv hd hcd) hbase hline).imp fun σ H Q h => ?_⟩
  obtain ⟨Z, ρ, P, R, w, k⟩ := h
  obtain ⟨a, ea, xs, hx⟩ := mut_at R w.1
  exact ⟨_, ea, .inl ⟨rfl, xs, .of hx⟩, mut_fin hh ea k R Step.refl .nil w.2⟩
end

/-! ### methods that only read -/
/-- by the receiver's data and the arguments' -/
def MtD (X : Cx) (ty id : String) (f : D → List D → (T → Prop) → Prop) : Prop :=
  ∃ r, MtR X id r ∧ (∀ Z H x d, LentAt X.K Z H x d → tyD d = ty → (∀ n, d ≠ .scr n) → tyV X.K ty x H) ∧
    ∀ Z H x d vs ds (P : T → Prop) (Q : VK), LentAt X.K Z H x d → Lents X.K Z H vs ds → f d ds P → (∀ t v H', Ext H H' → ResOk X.K Z H H' v t → P t → Q v H') → r x vs H Q
def plainTy (ty : String) (d : D) : Bool := (tyD d == ty) && (match d with | .scr _ => false | _ => true)
def wMeth (ty : String) (f : D → List D → (T → Prop) → Prop) (o : WE) (r : WA) : WE := fun ρ Q => o ρ fun t ρ1 => match rd ρ1 t with
  | some d1 => plainTy ty d1 = true ∧ r ρ1 fun ts ρ2 => match rd ρ2 t, rds ρ2 ts with
    | some d, some ds => f d ds fun t => Q t ρ2
    | _, _ => False
  | none => False
section
variable {X : Cx} {g : G} {pos apos cpos p : Pos} {o e : Expr} {es : List Expr} {wo : WE} {wr : WA} {name : Str} {ty id : String} {f : D → List D → (T → Prop) → Prop}
theorem plain_of {d : D} (h : plainTy ty d = true) : tyD d = ty ∧ ∀ n, d ≠ .scr n := by
  unfold plainTy at h
  rw [Bool.and_eq_true] at h
  exact ⟨eq_of_beq h.1, fun n e => by subst e; exact Bool.false_ne_true h.2⟩
theorem de_meth (pa : PlainAttrs ty) (slot : Slot ty name id) (hty : typeOf (.builtin id) = pure (.type "method_descriptor")) (hm : MtD X ty id f) (ho : DE X g o wo) (ha : DA X g (e :: es) wr)
    (hbase : attributeBase o name X.env (eval o X.env) = eval o X.env := by rfl)
    (hfew : ((backTo cpos (starEach (e :: es) X.env)).all (fun x => !x.1) && (backToKw cpos (keywordEach [] X.env)).all (fun x => x.1.isSome)
      && decide ((e :: es).length + ([] : List Keyword).length + (if ([] : List Keyword).isEmpty then 0 else 1) < 30)) = true := by rfl)
    (hline : (apos.endLine == cpos.line) = true := by rfl) (hs : starEach (e :: es) X.env = (false, eval e X.env) :: starEach es X.env := by rfl) (hplain : (backTo cpos (starEach es X.env)).any (·.1) = false := by rfl) :
    DE X g (.Call (.Attribute o name apos) (e :: es) [] cpos) (wMeth ty f wo wr) := by
  obtain ⟨r, hr, ht, hh⟩ := hm
  refine ⟨(pe_bm pa slot hty hr ho.pe ha.pa hbase hfew hline hs hplain).imp fun σ H Q h => ?_⟩
  obtain ⟨Z, ρ, P, R, w, k⟩ := h
  refine ⟨Z, ρ, _, R, w, fun t v Z1 H1 ρ1 R1 s1 o1 q1 => ?_⟩
  cases e1 : rd ρ1 t with
  | none => simp only [e1] at q1
  | some d1 =>
    simp only [e1] at q1
    obtain ⟨pl, q1⟩ := q1
    obtain ⟨pl1, pl2⟩ := plain_of pl
    refine ⟨ht Z1 H1 v d1 (o1.read R1 e1) pl1 pl2, Z1, ρ1, _, R1, q1, fun ts vs Z2 H2 ρ2 R2 s2 o2 q2 => ?_⟩
    have o1' := o1.move s2 R1
    have s12 := s1.trans s2
    cases e2 : rd ρ2 t with
    | none => simp only [e2] at q2
    | some d =>
      cases e3 : rds ρ2 ts with
      | none => simp only [e2, e3] at q2
      | some ds =>
        simp only [e2, e3] at q2
        refine hh Z2 H2 v d vs ds _ Q (o1'.read R2 e2) (o2.read R2 e3) q2 fun t v H' ex ro p => ?_
        exact k t v Z2 H' ρ2 (ex.rel R2) (s12.trans ex.step) (ro.tok R2 s12.there) p
theorem de_meth0 (pa : PlainAttrs ty) (slot : Slot ty name id) (hty : typeOf (.builtin id) = pure (.type "method_descriptor")) (hm : MtD X ty id f) (ho : DE X g o wo)
    (hbase : attributeBase o name X.env (eval o X.env) = eval o X.env := by rfl) (hline : (apos.endLine == cpos.line) = true := by rfl) :
    DE X g (.Call (.Attribute o name apos) [] [] cpos) (wMeth ty f wo wNil) := by
  obtain ⟨r, hr, ht, hh⟩ := hm
  refine ⟨(pe_bm0 pa slot hty hr ho.pe hbase hline).imp fun σ H Q h => ?_⟩
  obtain ⟨Z, ρ, P, R, w, k⟩ := h
  refine ⟨Z, ρ, _, R, w, fun t v Z1 H1 ρ1 R1 s1 o1 q1 => ?_⟩
  cases e1 : rd ρ1 t with
  | none => simp only [e1] at q1
  | some d1 =>
    simp only [e1] at q1
    obtain ⟨pl, q1⟩ := q1
    obtain ⟨pl1, pl2⟩ := plain_of pl
    refine ⟨ht Z1 H1 v d1 (o1.read R1 e1) pl1 pl2, ?_⟩
    have q1 : f d1 [] fun t => P t ρ1 := by
      have : wNil ρ1 (fun ts ρ2 => match rd ρ2 t, rds ρ2 ts with
        | some d, some ds => f d ds fun t => P t ρ2
        | _, _ => False) := q1
      unfold wNil at this
      simpa [rds, e1] using this
    refine hh Z1 H1 v d1 [] [] _ Q (o1.read R1 e1) .nil q1 fun t v H' ex ro p => ?_
    exact k t v Z1 H' ρ1 (ex.rel R1) (s1.trans ex.step) (ro.tok R1 s1.there) p
theorem tyV_str {K : PySem.W.Frag} {Z : Addr → Prop} {H : Hp} {x : V} {d : D} (h : LentAt K Z H x d) (e : tyD d = "str") : tyV K "str" x H := by
  cases d with
  | str s => obtain ⟨s, rfl, _⟩ := LentAt.str h; rfl
  | _ => exact absurd e (by simp [tyD])
theorem tyV_list {K : PySem.W.Frag} {Z : Addr → Prop} {H : Hp} {x : V} {d : D} (h : LentAt K Z H x d) (e : tyD d = "list") (n : ∀ m, d ≠ .scr m) : tyV K "list" x H := by
  cases d with
  | lst l => obtain ⟨a, xs, rfl, h, _⟩ := LentAt.lst h; exact .inl ⟨rfl, xs, .of h⟩
  | scr m => exact absurd rfl (n m)
  | _ => exact absurd e (by simp [tyD])

/-- xs.index(y) -/
def indexD : D → List D → (T → Prop) → Prop
  | .lst l, [d], P => flat 60 d = true ∧ flat 60 (.lst l) = true ∧ ∃ j z, l[j]? = some z ∧ eqb z d = true ∧ (∀ (m : Nat) (z' : D), m < j → l[m]? = some z' → eqb z' d = false) ∧ P (.val (.int (j : Int)))
  | _, _, _ => False
theorem mt_indexDD (hu : X.A.units + 65 < cLine) : MtD X "list" "list.index" indexD := by
  refine ⟨_, mt_indexD hu, fun Z H x d h e n => tyV_list h e n, fun Z H x d vs ds P Q h hl f k => ?_⟩
  cases d with
  | lst l =>
    match ds, hl, f with
    | [d], hl, f =>
      obtain ⟨w, rfl, h2⟩ := hl.one
      obtain ⟨f1, f2, j, z, ez, eq, no, f3⟩ := f
      obtain ⟨b1, b2⟩ := h2.shaped f1
      obtain ⟨a1, a2⟩ := h.shaped f2
      obtain ⟨a, xs, rfl, e, r⟩ := h.lst
      have fl : ∀ y ∈ l, flat 60 y = true := fun y m => flat_succ (by
        have : l.all (flat 59) = true := f2
        rw [List.all_eq_true] at this
        exact this y m)
      refine ⟨a, w, toP d, toPs l, j, toP z, rfl, rfl, a1, b1, a2, b2, ?_, ?_, fun m z' hm hz => ?_, k (.val (.int (j : Int))) _ H Ext.refl (Rep.int _) f3⟩
      · rw [toPs_map, List.getElem?_map, ez]; rfl
      · rw [eqv_toP 60 _ _ (fl z (List.mem_of_getElem? ez)) f1]; exact eq
      · rw [toPs_map, List.getElem?_map] at hz
        cases q : l[m]? with
        | none => rw [q] at hz; cases hz
        | some y =>
          rw [q] at hz
          cases hz
          rw [eqv_toP 60 _ _ (fl y (List.mem_of_getElem? q)) f1]
          exact no m y hm q
    | [], hl, f => exact f.elim
    | _ :: _ :: _, hl, f => exact f.elim
  | _ => exact f.elim
/-- a text alone: a truth -/
def strBlD (f : List Nat → Bool) : D → List D → (T → Prop) → Prop
  | .str s, [], P => P (.val (.bl (f s)))
  | _, _, _ => False
theorem mt_strBl {h : Str → Bool} {C : Str → Prop} (hC : ∀ a, C a) (hm : MtR X id (fun x xs H Q => ∃ a, x = .str a ∧ xs = [] ∧ C a ∧ Q (.bl (h a)) H)) : MtD X "str" id (strBlD fun l => h ⟨l.toArray⟩) := by
  refine ⟨_, hm, fun Z H x d h e _ => tyV_str h e, fun Z H x d vs ds P Q hx hl f k => ?_⟩
  cases d with
  | str s =>
    match ds, hl, f with
    | [], .nil, f =>
      obtain ⟨z, rfl, e, _⟩ := hx.str
      refine ⟨z, rfl, rfl, hC z, ?_⟩
      have e2 := str_of_list e
      subst e2
      exact k (.val (.bl _)) _ H Ext.refl (Rep.bl _) f
    | _ :: _, hl, f => exact f.elim
  | _ => exact f.elim
theorem mt_isupperD : MtD X "str" "str.isupper" (strBlD fun l => Txt.isupper ⟨l.toArray⟩) := mt_strBl (fun _ => trivial) mt_isupper
theorem mt_islowerD : MtD X "str" "str.islower" (strBlD fun l => Txt.islower ⟨l.toArray⟩) := mt_strBl (fun _ => trivial) mt_islower
/-- sep.join(texts) -/
def joinD : D → List D → (T → Prop) → Prop
  | .str s, [.lst l], P => ∃ xs, asStrs l = some xs ∧ (xs.map (·.length)).sum + xs.length * s.length ≤ 16777216 ∧ P (.val (.str (TL.joinL s xs)))
  | _, _, _ => False
theorem sok_join {s : List Nat} (hs : SOk s) : ∀ {xs : List (List Nat)}, (∀ x ∈ xs, SOk x) → SOk (TL.joinL s xs)
  | [], _ => fun _ m => nomatch m
  | [x], h => h x List.mem_cons_self
  | x :: y :: r, h => sok_append (h x List.mem_cons_self) (sok_append hs (sok_join hs fun z m => h z (List.mem_cons_of_mem _ m)))
theorem mt_joinD : MtD X "str" "str.join" joinD := by
  refine ⟨_, mt_join, fun Z H x d h e _ => tyV_str h e, fun Z H x d vs ds P Q hx hl f k => ?_⟩
  cases d with
  | str s =>
    match ds, hl, f with
    | [.lst l], hl, f =>
      obtain ⟨v, rfl, h1⟩ := hl.one
      obtain ⟨a, xs, rfl, e, r⟩ := h1.lst
      obtain ⟨z, rfl, es, os⟩ := hx.str
      obtain ⟨ys, ey, f1, f2⟩ := f
      cases asStrs_eq ey
      obtain ⟨zs, rfl, ez, oz⟩ := r.strs
      refine ⟨z, a, zs, rfl, rfl, .inl (.of e), ?_, ?_⟩
      · have h1 : (zs.map (·.length)) = ys.map (·.length) := by
          rw [← ez, List.map_map]
          exact List.map_congr_left fun w _ => len_cps rfl
        rw [h1, len_cps es, ← List.length_map (f := fun z : Str => z.cps.toList) (as := zs), ez]
        exact f1
      · refine k (.val (.str (TL.joinL s ys))) _ H Ext.refl (rep_str ?_ (sok_join os oz)) f2
        show TL.tl (Txt.join z zs) = _
        rw [TL.join_eq, TL.tl_join]
        show TL.joinL z.cps.toList (zs.map fun z => z.cps.toList) = _
        rw [es, ez]
    | [], hl, f => exact f.elim
    | .non :: _, hl, f => exact f.elim
    | .lst _ :: _ :: _, hl, f => exact f.elim
  | _ => exact f.elim
end
end VS
namespace VS
open PySem PySem.Spec PyProof.Rows L2

/-! ### how a parameter is given: read alone, given away, changed -/
inductive Md where
  | rd | fz | mu
def Md.no : Md → Bool
  | .mu => false
  | _ => true
/-- a def's promise on plain data: the arguments; the result, what stands in the changed parameters behind it -/
abbrev DSp := List D → (T → List D → Prop) → Prop
def ArgOk (K : PySem.W.Frag) (Z : Addr → Prop) (H : Hp) : Md → V → D → Prop
  | .rd, v, d => LentAt K Z H v d
  | .fz, v, d => Rep K Z H v d
  | .mu, v, d => ∃ a, v = .ref a ∧ OwnAt K Z H a d ∧ ¬ Z a
inductive ArgsOk (K : PySem.W.Frag) (Z : Addr → Prop) (H : Hp) : List Md → List V → List D → Prop
  | nil : ArgsOk K Z H [] [] []
  | cons {m : Md} {v : V} {d : D} {ms : List Md} {vs : List V} {ds : List D} : ArgOk K Z H m v d → ArgsOk K Z H ms vs ds → ArgsOk K Z H (m :: ms) (v :: vs) (d :: ds)
inductive Outs (K : PySem.W.Frag) (Z : Addr → Prop) (H : Hp) : List Md → List V → List D → Prop
  | nil : Outs K Z H [] [] []
  | skip {m : Md} {v : V} {ms : List Md} {vs : List V} {os : List D} : m.no = true → Outs K Z H ms vs os → Outs K Z H (m :: ms) (v :: vs) os
  | mu {a : Addr} {d : D} {ms : List Md} {vs : List V} {os : List D} : OwnAt K Z H a d → ¬ Z a → Outs K Z H ms vs os → Outs K Z H (.mu :: ms) (.ref a :: vs) (d :: os)
def MutA (ms : List Md) (vs : List V) (a : Addr) : Prop := ∃ i : Nat, ms[i]? = some Md.mu ∧ vs[i]? = some (V.ref a)
/-- the result: a value, or an object of its own -/
def ROk (K : PySem.W.Frag) (H : Hp) (Z' : Addr → Prop) (H' : Hp) (v : V) : T → Prop
  | .val d => Rep K Z' H' v d
  | .tmp d => ∃ a, v = .ref a ∧ OwnAt K Z' H' a d ∧ ¬ Z' a ∧ H a = none
  | .bor _ => False
def liftSp (K : PySem.W.Frag) (ms : List Md) (sp : DSp) : Sp := fun vs H Q _ => ∃ (Z : Addr → Prop) (ds : List D) (P : T → List D → Prop),
  ArgsOk K Z H ms vs ds ∧ (∀ (i j : Nat) (a : Addr), ms[i]? = some Md.mu → vs[i]? = some (V.ref a) → vs[j]? = some (V.ref a) → i = j) ∧ (∀ a, Z a → H a ≠ none) ∧ sp ds P ∧
  ∀ t os v Z' H', (∀ a o, H a = some o → ¬ MutA ms vs a → H' a = some o) → (∀ a, Z a → Z' a) → (∀ a, Z' a → Z a ∨ H a = none) → (∀ a, Z' a → H' a ≠ none) → (∀ a, H a ≠ none → H' a ≠ none) →
    ROk K H Z' H' v t → Outs K Z' H' ms vs os → P t os → Q v H'
theorem ArgsOk.len {K : PySem.W.Frag} {Z : Addr → Prop} {H : Hp} {ms : List Md} {vs : List V} {ds : List D} (h : ArgsOk K Z H ms vs ds) : vs.length = ms.length ∧ ds.length = ms.length := by
  induction h with
  | nil => exact ⟨rfl, rfl⟩
  | cons _ _ ih => exact ⟨by simp [ih.1], by simp [ih.2]⟩
theorem ArgsOk.get {K : PySem.W.Frag} {Z : Addr → Prop} {H : Hp} {ms : List Md} {vs : List V} {ds : List D} (h : ArgsOk K Z H ms vs ds) : ∀ (i : Nat) (m : Md) (d : D), ms[i]? = some m → ds[i]? = some d → ∃ v, vs[i]? = some v ∧ ArgOk K Z H m v d := by
  induction h with
  | nil => intro i m d h; simp at h
  | cons h _ ih =>
    intro i m d h1 h2
    cases i with
    | zero => simp at h1 h2; subst h1; subst h2; exact ⟨_, rfl, h⟩
    | succ i => simpa using ih i m d (by simpa using h1) (by simpa using h2)
theorem liftSp.len {K : PySem.W.Frag} {ms : List Md} {sp : DSp} {vs : List V} {H : Hp} {Q : VK} {E : XK} (h : liftSp K ms sp vs H Q E) : vs.length = ms.length := by
  obtain ⟨Z, ds, P, a, _⟩ := h
  exact a.len.1
theorem liftSp.imp {K : PySem.W.Frag} {ms : List Md} {sp sp' : DSp} {vs : List V} {H : Hp} {Q : VK} {E : XK} (m : ∀ ds P, sp' ds P → sp ds P) (h : liftSp K ms sp' vs H Q E) : liftSp K ms sp vs H Q E := by
  obtain ⟨Z, ds, P, a, b, c, d, e⟩ := h
  exact ⟨Z, ds, P, a, b, c, m _ _ d, e⟩

/-! ### the body of a def -/
def slOf : Md → D → Sl
  | .mu, d => .mu d
  | .fz, d => .fz d
  | .rd, d => if d.top then .lent d else .fz d
def rho0 (n : Nat) : List Md → List D → Rho
  | m :: ms, d :: ds => slOf m d :: rho0 (n - 1) ms ds
  | _, _ => List.replicate n .no
def outsOf : List Md → Rho → Option (List D)
  | [], _ => some []
  | .mu :: ms, .mu d :: ρ => (outsOf ms ρ).map (d :: ·)
  | .rd :: ms, _ :: ρ => outsOf ms ρ
  | .fz :: ms, _ :: ρ => outsOf ms ρ
  | _, _ => none
/-- the exit: a borrowed own thing goes out as the frame's own -/
def exitT (ρ : Rho) : T → Option T
  | .val d => some (.val d)
  | .tmp d => some (.tmp d)
  | .bor i => match gt ρ i with
    | .own d => some (.tmp d)
    | .fz d => some (.val d)
    | _ => none
def exitP (ms : List Md) (P : T → List D → Prop) (t : T) (ρ : Rho) : Prop := match exitT ρ t, outsOf ms ρ with
  | some u, some os => P u os
  | _, _ => False
def bodySp (ms : List Md) (n : Nat) (w : WS) : DSp := fun ds P => w ⟨fun ρ => exitP ms P (.val .non) ρ, fun t ρ => exitP ms P t ρ, fun _ => False, fun _ => False⟩ (rho0 n ms ds)

theorem rho0_length : ∀ {n : Nat} {ms : List Md} {ds : List D}, ms.length = ds.length → ds.length ≤ n → (rho0 n ms ds).length = n
  | n, [], [], _, _ => by simp [rho0]
  | n, m :: ms, d :: ds, h, l => by
    simp only [List.length_cons] at h l
    simp only [rho0, List.length_cons]
    rw [rho0_length (by omega) (by omega)]
    omega
theorem gt_rep {n i : Nat} : gt (List.replicate n .no) i = .no := by
  induction n generalizing i with
  | zero => rfl
  | succ n ih => cases i with
    | zero => rfl
    | succ i => simp only [List.replicate_succ, gt]; exact ih
theorem gt_rho0 : ∀ {n : Nat} {ms : List Md} {ds : List D} {i : Nat} {s : Sl}, ms.length = ds.length → gt (rho0 n ms ds) i = s → s ≠ .no → ∃ m d, ms[i]? = some m ∧ ds[i]? = some d ∧ s = slOf m d
  | n, [], [], i, s, _, h, q => by
    simp only [rho0] at h
    rw [gt_rep] at h
    exact absurd h.symm q
  | n, m :: ms, d :: ds, 0, s, _, h, q => ⟨m, d, rfl, rfl, h.symm⟩
  | n, m :: ms, d :: ds, i + 1, s, l, h, q => by
    obtain ⟨m', d', h1, h2, h3⟩ := gt_rho0 (n := n - 1) (ms := ms) (ds := ds) (i := i) (by simpa using l) h q
    exact ⟨m', d', by simpa using h1, by simpa using h2, h3⟩
theorem start_get {N : List Str} {vs : List V} {i : Nat} {v : V} (h : vs[i]? = some v) : (L2.start N vs)[i]? = some (some v) := by
  have hi : i < vs.length := (List.getElem?_eq_some_iff.mp h).1
  unfold L2.start
  rw [List.getElem?_append_left (by simpa using hi), List.getElem?_map, h]
  rfl
theorem slOf_mine {m : Md} {d : D} (h : (slOf m d).mine = true) : m = .mu := by
  cases m with
  | mu => rfl
  | fz => cases h
  | rd =>
    simp only [slOf] at h
    split at h <;> cases h

theorem rel_start {K : PySem.W.Frag} {Z : Addr → Prop} {H : Hp} {N : List Str} {ms : List Md} {vs : List V} {ds : List D} (a : ArgsOk K Z H ms vs ds) (l : ms.length ≤ N.length) (sep : ∀ (i j : Nat) (a : Addr), ms[i]? = some Md.mu → vs[i]? = some (V.ref a) → vs[j]? = some (V.ref a) → i = j) (zt : ∀ a, Z a → H a ≠ none) :
    Rel K ⟨H, MutA ms vs, Z⟩ Z (L2.start N vs) H (rho0 N.length ms ds) := by
  obtain ⟨l1, l2⟩ := a.len
  have muOk : ∀ b, MutA ms vs b → ∃ d, OwnAt K Z H b d ∧ ¬ Z b := fun b ⟨i, h1, h2⟩ => by
    have hi : i < ms.length := (List.getElem?_eq_some_iff.mp h1).1
    obtain ⟨v, h3, h4⟩ := a.get i .mu (ds[i]'(by omega)) h1 (List.getElem?_eq_getElem (by omega))
    rw [h2] at h3; cases h3
    obtain ⟨b', e, o, z⟩ := h4
    cases e
    exact ⟨_, o, z⟩
  have back : ∀ i v, gt (rho0 N.length ms ds) i ≠ .no → (L2.start N vs)[i]? = some (some v) → vs[i]? = some v := fun i v h1 h2 => by
    obtain ⟨m, d, e1, e2, _⟩ := gt_rho0 l2.symm rfl h1
    obtain ⟨v', e3, _⟩ := a.get i m d e1 e2
    rw [start_get e3] at h2
    cases h2
    exact e3
  exact {
    len := by
      rw [rho0_length l2.symm (by omega)]
      unfold L2.start
      simp only [List.length_append, List.length_map, List.length_replicate]
      omega
    fz := fun i d q => by
      obtain ⟨m, d', e1, e2, e3⟩ := gt_rho0 l2.symm q (fun h => by cases h)
      obtain ⟨v, e4, o⟩ := a.get i m d' e1 e2
      refine ⟨v, start_get e4, ?_⟩
      cases m with
      | mu => cases e3
      | fz => cases e3; exact o
      | rd =>
        simp only [slOf] at e3
        split at e3
        · cases e3
        · rename_i t
          cases e3
          exact LentAt.rep o (by simpa using t)
    own := fun i d q => by
      obtain ⟨m, d', e1, e2, e3⟩ := gt_rho0 l2.symm q (fun h => by cases h)
      cases m with
      | mu => cases e3
      | fz => cases e3
      | rd =>
        simp only [slOf] at e3
        split at e3 <;> cases e3
    mu := fun i d q => by
      obtain ⟨m, d', e1, e2, e3⟩ := gt_rho0 l2.symm q (fun h => by cases h)
      obtain ⟨v, e4, o⟩ := a.get i m d' e1 e2
      cases m with
      | mu =>
        cases e3
        obtain ⟨b, rfl, o, z⟩ := o
        exact ⟨b, start_get e4, o, z, i, e1, e4⟩
      | fz => cases e3
      | rd =>
        simp only [slOf] at e3
        split at e3 <;> cases e3
    lent := fun i d q => by
      obtain ⟨m, d', e1, e2, e3⟩ := gt_rho0 l2.symm q (fun h => by cases h)
      obtain ⟨v, e4, o⟩ := a.get i m d' e1 e2
      cases m with
      | mu => cases e3
      | fz => cases e3
      | rd =>
        simp only [slOf] at e3
        split at e3
        · rename_i t
          cases e3
          exact ⟨v, start_get e4, o, t⟩
        · cases e3
    uniq := fun i j b h1 h2 h3 h4 => by
      have n1 : gt (rho0 N.length ms ds) i ≠ .no := fun q => by rw [q] at h1; cases h1
      have n2 : gt (rho0 N.length ms ds) j ≠ .no := fun q => by rw [q] at h2; cases h2
      obtain ⟨m, d', e1, e2, e3⟩ := gt_rho0 l2.symm rfl n1
      rw [e3] at h1
      rw [slOf_mine h1] at e1
      exact sep i j b e1 (back _ _ n1 h3) (back _ _ n2 h4)
    frame := fun _ _ h _ => h
    zfr := fun _ z => .inl z
    ztr := zt
    mz := fun b m => by obtain ⟨d, _, z⟩ := muOk b m; exact z
    mt := fun b m => by obtain ⟨d, o, _⟩ := muOk b m; exact o.here
    mh := fun b m => by obtain ⟨d, o, _⟩ := muOk b m; exact o.here }

theorem outs_ok {K : PySem.W.Frag} {Z : Addr → Prop} {H : Hp} : ∀ {ms : List Md} {vs : List V} {ρ : Rho} {σ : L2.St} {os : List D}, vs.length = ms.length →
    (∀ i d, gt ρ i = .mu d → ∃ a, σ[i]? = some (some (.ref a)) ∧ OwnAt K Z H a d ∧ ¬ Z a) → (∀ i v d, vs[i]? = some v → gt ρ i = .mu d → σ[i]? = some (some v)) → outsOf ms ρ = some os → Outs K Z H ms vs os
  | [], [], _, _, os, _, _, _, e => by cases e; exact .nil
  | .mu :: ms, v :: vs, .mu d :: ρ, σ, os, l, h1, h2, e => by
    simp only [outsOf, Option.map_eq_some_iff] at e
    obtain ⟨os', e1, rfl⟩ := e
    obtain ⟨a, x, o, z⟩ := h1 0 d rfl
    have := h2 0 v d rfl rfl
    rw [x] at this
    cases this
    refine .mu o z (outs_ok (ρ := ρ) (σ := σ.tail) (by simpa using l) (fun i d q => ?_) (fun i v d q1 q2 => ?_) e1)
    · have := h1 (i + 1) d q
      cases σ <;> simpa using this
    · have := h2 (i + 1) v d (by simpa using q1) q2
      cases σ <;> simpa using this
  | .rd :: ms, v :: vs, s :: ρ, σ, os, l, h1, h2, e => by
    refine .skip rfl (outs_ok (ρ := ρ) (σ := σ.tail) (by simpa using l) (fun i d q => ?_) (fun i v d q1 q2 => ?_) e)
    · have := h1 (i + 1) d q
      cases σ <;> simpa using this
    · have := h2 (i + 1) v d (by simpa using q1) q2
      cases σ <;> simpa using this
  | .fz :: ms, v :: vs, s :: ρ, σ, os, l, h1, h2, e => by
    refine .skip rfl (outs_ok (ρ := ρ) (σ := σ.tail) (by simpa using l) (fun i d q => ?_) (fun i v d q1 q2 => ?_) e)
    · have := h1 (i + 1) d q
      cases σ <;> simpa using this
    · have := h2 (i + 1) v d (by simpa using q1) q2
      cases σ <;> simpa using this

/-- the exit's result -/
theorem exit_ok {K : PySem.W.Frag} {g : G} {Z : Addr → Prop} {σ : L2.St} {Hs H : Hp} {ρ : Rho} {v : V} {t u : T} (R : Rel K g Z σ H ρ) (h : TOk K g Hs Z σ H ρ v t) (e : exitT ρ t = some u) : ROk K g.H0 Z H v u := by
  cases t with
  | val d => cases e; exact h
  | tmp d =>
    cases e
    obtain ⟨a, x, o, z, n, _, f⟩ := h
    exact ⟨a, x, o, z, f⟩
  | bor i =>
    have x : σ[i]? = some (some v) := h
    simp only [exitT] at e
    split at e
    · rename_i d q
      cases e
      obtain ⟨a, y, o, z, f⟩ := R.own i d q
      rw [x] at y; cases y
      exact ⟨a, rfl, o, z, f⟩
    · rename_i d q
      cases e
      obtain ⟨w, y, o⟩ := R.fz i d q
      rw [x] at y; cases y
      exact o
    · cases e

/-- THE RULE for a def -/
theorem fn_vs {P : Program} {w : World} {K : PySem.W.Frag} {mg : Str → Option Value} {base : Heap} {x qual : Str} {st : Stmt} {f : Addr} {fd : FuncData} {N ps : List Str} {k : Nat} (F : Fun K x qual st f fd) (S : FnScope N ps (defScope st)) (ms : List Md) (hms : ms.length = ps.length) (wb : WS)
    (hbody : ∀ (cdv : Value) (A : Around) (outer : List Env) (s : Shared) (H : Hp) (E : XK) (g : G), Room k (A.deeper (envOfC qual (defScope st) s.heap.objs.size f cdv)) → DSs (cxOf CX0 P w K mg base N qual (defScope st) f cdv A outer s H E).nox g (defBody st) wb) :
    FnOk P w K mg base CX0 (k + 1) f fd ps (liftSp K ms (bodySp ms N.length wb)) := by
  refine F.ok S (fun vs H Q E h => by rw [h.len, hms]) fun cdv A outer s H vs Q E hr h => ?_
  obtain ⟨Z, ds, Pp, a, sep, zt, hw, fin⟩ := h
  have hpl : ps.length ≤ N.length := by have := congrArg List.length S.pre; rw [List.length_take] at this; omega
  have R0 := rel_start (N := N) a (by omega) sep zt
  have ex : ∀ t v Z' σ' H' ρ' Hs, Rel K ⟨H, MutA ms vs, Z⟩ Z' σ' H' ρ' → Step Z H (L2.start N vs) (rho0 N.length ms ds) Z' H' σ' ρ' → TOk K ⟨H, MutA ms vs, Z⟩ Hs Z' σ' H' ρ' v t → exitP ms Pp t ρ' → Q v H' := fun t v Z' σ' H' ρ' Hs R' s' h q => by
    unfold exitP at q
    split at q
    · rename_i u os e1 e2
      refine fin u os v Z' H' R'.frame s'.zin (fun b z => ?_) R'.ztr s'.there (exit_ok R' h e1) (outs_ok (σ := σ') a.len.1 (fun i d q => ?_) (fun i v d q1 q2 => ?_) e2) q
      · exact R'.zfr b z
      · obtain ⟨b, x1, x2, x3, _⟩ := R'.mu i d q
        exact ⟨b, x1, x2, x3⟩
      · rw [(s'.mus i d q2).2]
        exact start_get q1
    · exact q.elim
  refine ⟨_, (hbody cdv A outer s H E ⟨H, MutA ms vs, Z⟩ hr).ps, Z, _, _, R0, hw, ?_, ?_, ?_, ?_⟩
  · exact fun Z' σ' H' ρ' R' s' q => ex (.val .non) .non Z' σ' H' ρ' H R' s' .non q
  · exact fun t v Z' σ' H' ρ' Hs R' s' h q => ex t v Z' σ' H' ρ' Hs R' s' h q
  · exact fun _ _ _ _ _ _ q => False.elim q
  · exact fun _ _ _ _ _ _ q => False.elim q
theorem fn_imp {P : Program} {w : World} {K : PySem.W.Frag} {mg : Str → Option Value} {base : Heap} {f : Addr} {fd : FuncData} {ps : List Str} {k : Nat} {ms : List Md} {sp sp' : DSp} (F : FnOk P w K mg base CX0 k f fd ps (liftSp K ms sp)) (m : ∀ ds P, sp' ds P → sp ds P) : FnOk P w K mg base CX0 k f fd ps (liftSp K ms sp') :=
  F.imp fun vs H Q E h => h.imp m

/-! ### the caller -/
def argP : List Md → List T → Rho → (List T → Rho → Prop) → Prop
  | .fz :: ms, t :: ts, ρ, Q => cap t ρ fun d ρ1 => argP ms ts ρ1 fun us ρ2 => Q (.val d :: us) ρ2
  | _ :: ms, .bor i :: ts, ρ, Q => argP ms ts ρ fun us ρ2 => Q (.bor i :: us) ρ2
  | _ :: ms, t :: ts, ρ, Q => cap t ρ fun d ρ1 => argP ms ts ρ1 fun us ρ2 => Q (.val d :: us) ρ2
  | [], [], ρ, Q => Q [] ρ
  | _, _, _, _ => False
def argD (ρ : Rho) : Md → T → Option D
  | .rd, t => rd ρ t
  | .fz, .val d => some d
  | .mu, .bor i => match gt ρ i with
    | .own d => some d
    | .mu d => some d
    | _ => none
  | _, _ => none
def argDs (ρ : Rho) : List Md → List T → Option (List D)
  | [], [] => some []
  | m :: ms, t :: ts => (argD ρ m t).bind fun d => (argDs ρ ms ts).bind fun ds => some (d :: ds)
  | _, _ => none
def notScr : D → Bool
  | .scr _ => false
  | _ => true
/-- an argument that is not the i-th slot's object -/
def sepT (ρ : Rho) (i : Nat) : T → Bool
  | .val d => notScr d
  | .tmp _ => false
  | .bor j => !(j == i) && (match gt ρ j with
    | .no => false
    | .fz d => notScr d
    | _ => true)
def sepTs (ρ : Rho) (i : Nat) : Nat → List T → Bool
  | _, [] => true
  | 0, _ :: ts => ts.all (sepT ρ i)
  | p + 1, t :: ts => sepT ρ i t && sepTs ρ i p ts
def muOnly : Nat → List Md → Bool
  | _, [] => true
  | 0, _ :: ms => ms.all Md.no
  | p + 1, m :: ms => m.no && muOnly p ms
/-- a slot of one's own (or lent to be changed) that holds something new -/
def renew (ρ : Rho) (i : Nat) (d : D) : Rho := match gt ρ i with
  | .mu _ => st ρ i (.mu d)
  | _ => st ρ i (.own d)

/-- a call that changes nothing of ours -/
def wCall (ms : List Md) (sp : DSp) (wa : WA) : WE := fun ρ P => wa ρ fun ts ρ1 => argP ms ts ρ1 fun us ρ2 => ∃ ds, argDs ρ2 ms us = some ds ∧ sp ds fun t os => P t ρ2
/-- a call that changes its p-th argument -/
def wCallM (p : Nat) (ms : List Md) (sp : DSp) (wa : WA) : WE := fun ρ P => wa ρ fun ts ρ1 => argP ms ts ρ1 fun us ρ2 => ∃ ds i, argDs ρ2 ms us = some ds ∧ us[p]? = some (.bor i) ∧ sepTs ρ2 i p us = true ∧
  sp ds fun t os => match os with
    | [d] => P t (renew ρ2 i d)
    | _ => False

section
variable {K : PySem.W.Frag} {g : G} {Z Z' Z1 Z2 : Addr → Prop} {σ σ' : L2.St} {H H' H1 Hs : Hp} {ρ ρ' ρ1 ρ2 : Rho} {a : Addr} {v : V} {vs : List V} {d : D} {t : T} {ts us : List T} {ms : List Md} {ds os : List D}
theorem argP_ok {P : List T → Rho → Prop} (R : Rel K g Z σ H ρ) (s : Step Z1 Hs σ ρ1 Z H σ ρ) (h : TsOk K g Hs Z σ H ρ vs ts) (q : argP ms ts ρ P) :
    ∃ us Z' ρ', P us ρ' ∧ Rel K g Z' σ H ρ' ∧ Step Z1 Hs σ ρ1 Z' H σ ρ' ∧ TsOk K g Hs Z' σ H ρ' vs us ∧ (∀ a, Z a → Z' a) := by
  induction ts generalizing Z ρ vs P ms with
  | nil =>
    cases h
    cases ms with
    | nil => exact ⟨[], Z, ρ, q, R, s, .nil, fun _ z => z⟩
    | cons m ms => cases m <;> exact False.elim q
  | cons t ts ih =>
    cases h with
    | @cons v vs _ _ h0 hr hd =>
      have viaCap : ∀ {ms}, cap t ρ (fun d ρ1 => argP ms ts ρ1 fun us ρ2 => P (.val d :: us) ρ2) → ∃ us Z' ρ', P us ρ' ∧ Rel K g Z' σ H ρ' ∧ Step Z1 Hs σ ρ1 Z' H σ ρ' ∧ TsOk K g Hs Z' σ H ρ' (v :: vs) us ∧ (∀ a, Z a → Z' a) := fun q => by
        obtain ⟨d, Za, ρa, qa, Ra, sa, ra, za, mv⟩ := cap_ok R s h0 q
        obtain ⟨us, Zb, ρb, qb, Rb, sb, tb, zb⟩ := ih Ra sa (mv _ _ hr hd) qa
        exact ⟨.val d :: us, Zb, ρb, qb, Rb, sb, .cons (ra.mono (.ghost zb)) tb (fun h => by cases h), fun a z => zb a (za a z)⟩
      have viaKeep : ∀ {ms} {i : Nat}, t = .bor i → (t = .bor i → argP ms ts ρ (fun us ρ2 => P (.bor i :: us) ρ2)) → ∃ us Z' ρ', P us ρ' ∧ Rel K g Z' σ H ρ' ∧ Step Z1 Hs σ ρ1 Z' H σ ρ' ∧ TsOk K g Hs Z' σ H ρ' (v :: vs) us ∧ (∀ a, Z a → Z' a) := fun {_ i} e q => by
        have q2 := q e
        clear q
        subst e
        obtain ⟨us, Zb, ρb, qb, Rb, sb, tb, zb⟩ := ih R s hr q2
        exact ⟨.bor i :: us, Zb, ρb, qb, Rb, sb, .cons h0 tb (fun h => by cases h), zb⟩
      cases ms with
      | nil => exact False.elim q
      | cons m ms =>
        cases m with
        | fz => exact viaCap q
        | rd => cases t with
          | bor i => exact viaKeep rfl fun _ => q
          | val d => exact viaCap q
          | tmp d => exact viaCap q
        | mu => cases t with
          | bor i => exact viaKeep rfl fun _ => q
          | val d => exact viaCap q
          | tmp d => exact viaCap q
theorem argDs_ok (R : Rel K g Z σ H ρ) (h : TsOk K g Hs Z σ H ρ vs us) (e : argDs ρ ms us = some ds) : ArgsOk K Z H ms vs ds := by
  induction us generalizing vs ms ds with
  | nil =>
    cases h
    cases ms with
    | nil => cases e; exact .nil
    | cons m ms => cases e
  | cons t ts ih =>
    cases h with
    | @cons v vs _ _ h0 hr hd =>
      cases ms with
      | nil => cases e
      | cons m ms =>
        simp only [argDs, Option.bind_eq_some_iff] at e
        obtain ⟨d, e1, ds', e2, e3⟩ := e
        cases e3
        refine .cons ?_ (ih hr e2)
        cases m with
        | rd => exact h0.read R e1
        | fz => cases t with
          | val d' => cases e1; exact h0
          | tmp d' => cases e1
          | bor i => cases e1
        | mu => cases t with
          | val d' => cases e1
          | tmp d' => cases e1
          | bor i =>
            have x : σ[i]? = some (some v) := h0
            simp only [argD] at e1
            split at e1
            · rename_i d' q
              cases e1
              obtain ⟨a, y, o, z, _⟩ := R.own i _ q
              rw [x] at y; cases y
              exact ⟨a, rfl, o, z⟩
            · rename_i d' q
              cases e1
              obtain ⟨a, y, o, z, _⟩ := R.mu i _ q
              rw [x] at y; cases y
              exact ⟨a, rfl, o, z⟩
            · cases e1
/-- more is frozen: what is new -/
theorem Rel.grow (R : Rel K g Z σ H ρ) (zi : ∀ a, Z a → Z' a) (zn : ∀ a, Z' a → Z a ∨ (¬ Used ρ σ a ∧ g.H0 a = none)) (zt : ∀ a, Z' a → H a ≠ none) : Rel K g Z' σ H ρ where
  len := R.len
  fz := fun i d q => let ⟨v, x, y⟩ := R.fz i d q; ⟨v, x, y.mono (.ghost zi)⟩
  own := fun i d q => by
    obtain ⟨b, x, y, z, w⟩ := R.own i d q
    refine ⟨b, x, y.mono (.ghost zi) (fun _ h => h), fun h => ?_, w⟩
    rcases zn b h with h | h
    · exact z h
    · exact h.1 ⟨i, by rw [q]; rfl, x⟩
  mu := fun i d q => by
    obtain ⟨b, x, y, z, w⟩ := R.mu i d q
    refine ⟨b, x, y.mono (.ghost zi) (fun _ h => h), fun h => ?_, w⟩
    rcases zn b h with h | h
    · exact z h
    · exact h.1 ⟨i, by rw [q]; rfl, x⟩
  lent := fun i d q => let ⟨v, x, y, t⟩ := R.lent i d q; ⟨v, x, y.mono (.ghost zi) (fun _ _ _ h => h) (fun _ _ _ h => h), t⟩
  uniq := R.uniq
  frame := R.frame
  zfr := fun b h => by
    rcases zn b h with h | h
    · exact R.zfr b h
    · exact .inr h.2
  ztr := zt
  mz := fun b m h => by
    rcases zn b h with h | h
    · exact R.mz b m h
    · exact R.mt b m h.2
  mt := R.mt
  mh := R.mh
theorem call_rel (R : Rel K g Z σ H ρ) (e : Ext H H') (zi : ∀ a, Z a → Z' a) (zn : ∀ a, Z' a → Z a ∨ H a = none) (zt : ∀ a, Z' a → H' a ≠ none) : Rel K g Z' σ H' ρ ∧ Step Z H σ ρ Z' H' σ ρ := by
  refine ⟨(e.rel R).grow zi (fun a z => ?_) zt, ⟨fun a o h _ => e a o h, zi, fun a z => ?_, fun _ m => .inl m, fun _ _ h => ⟨h, rfl⟩, fun _ _ h => ⟨⟨_, h⟩, rfl⟩, fun a h q => ?_⟩⟩
  · rcases zn a z with h | h
    · exact .inl h
    · exact .inr ⟨(R.fresh h).2.1, (R.fresh h).2.2⟩
  · rcases zn a z with h | h
    · exact .inl h
    · exact .inr (.inl h)
  · cases x : H a with
    | none => exact h x
    | some o => rw [e a o x] at q; cases q
theorem used_st_mine {i : Nat} {y : Sl} (m : (gt ρ i).mine = true) (h : Used (st ρ i y) σ a) : Used ρ σ a := by
  obtain ⟨j, u, e⟩ := h
  rw [gt_st] at u
  split at u
  · rename_i k
    rw [← k.1] at e
    exact Mine.used ⟨i, m, e⟩
  · exact ⟨j, u, e⟩
theorem renew_eq (ρ : Rho) (i : Nat) (d : D) : renew ρ i d = st ρ i (match gt ρ i with | .mu _ => .mu d | _ => .own d) := by
  unfold renew
  cases gt ρ i <;> rfl
theorem call_rel1 {i : Nat} {a0 : Addr} (R : Rel K g Z σ H ρ) (m : (gt ρ i).mine = true) (x : σ[i]? = some (some (.ref a0))) (e : ∀ a o, H a = some o → a ≠ a0 → H' a = some o) (zi : ∀ a, Z a → Z' a) (zn : ∀ a, Z' a → Z a ∨ H a = none) (zt : ∀ a, Z' a → H' a ≠ none)
    (on : OwnAt K Z' H' a0 d) (nz : ¬ Z' a0) : Rel K g Z' σ H' (renew ρ i d) ∧ Step Z H σ ρ Z' H' σ (renew ρ i d) := by
  obtain ⟨ch, z0, _⟩ := R.mineChg ⟨i, m, x⟩
  obtain ⟨o1, h1⟩ : ∃ o1, H' a0 = some o1 := by
    cases q : H' a0 with
    | none => exact absurd q on.here
    | some o => exact ⟨o, rfl⟩
  let H2 : Hp := fun b => if b = a0 then H a0 else H' b
  have e2 : Ext H H2 := fun a o h => by
    by_cases k : a = a0
    · subst k; show (if a = a then H a else H' a) = _; rw [if_pos rfl]; exact h
    · show (if a = a0 then H a0 else H' a) = _; rw [if_neg k]; exact e a o h k
  have zt2 : ∀ a, Z' a → H2 a ≠ none := fun a z => by
    have k : a ≠ a0 := fun q => nz (q ▸ z)
    show (if a = a0 then H a0 else H' a) ≠ _
    rw [if_neg k]
    exact zt a z
  obtain ⟨R2, s2⟩ := call_rel R e2 zi zn zt2
  have eq : H' = upd H2 a0 o1 := by
    funext b
    by_cases k : b = a0
    · subst k; rw [upd_same]; exact h1
    · rw [upd_ne k]; show _ = (if b = a0 then H a0 else H' b); rw [if_neg k]
  rw [renew_eq]
  rw [eq] at on ⊢
  refine ⟨R2.write m x on rfl, s2.write m ?_ x fun d' y => ?_⟩
  · cases gt ρ i <;> rfl
  · cases q : gt ρ i with
    | mu d0 => exact ⟨d0, rfl⟩
    | _ => rw [q] at y; cases y
theorem Outs.at {p : Nat} : ∀ {ms : List Md} {vs : List V} {p : Nat}, Outs K Z H ms vs [d] → muOnly p ms = true → ms[p]? = some Md.mu → vs[p]? = some (V.ref a) → OwnAt K Z H a d ∧ ¬ Z a
  | m :: ms, v :: vs, 0, h, _, e, x => by
    simp at e x
    subst e; subst x
    cases h with
    | skip n _ => cases n
    | mu o z _ => exact ⟨o, z⟩
  | m :: ms, v :: vs, p + 1, h, n, e, x => by
    simp only [muOnly, Bool.and_eq_true] at n
    cases h with
    | skip _ h => exact Outs.at (p := p) h n.2 (by simpa using e) (by simpa using x)
    | mu o z _ => exact absurd n.1 Bool.false_ne_true
theorem muOnly_at : ∀ {ms : List Md} {p i : Nat}, muOnly p ms = true → ms[i]? = some Md.mu → i = p
  | [], _, _, _, e => by simp at e
  | m :: ms, 0, 0, _, _ => rfl
  | m :: ms, 0, i + 1, n, e => by
    simp only [muOnly, List.all_eq_true] at n
    have := n .mu (List.mem_of_getElem? (by simpa using e))
    cases this
  | m :: ms, p + 1, 0, n, e => by
    simp at e
    subst e
    simp [muOnly, Md.no] at n
  | m :: ms, p + 1, i + 1, n, e => by
    simp only [muOnly, Bool.and_eq_true] at n
    exact congrArg (· + 1) (muOnly_at (i := i) n.2 (by simpa using e))
theorem Rep.apart {d' : D} (r : Rep K Z H v d') (o : OwnAt K Z H a d) (z : ¬ Z a) (n : notScr d' = true) : v ≠ .ref a := fun q => by
  subst q
  cases r with
  | tup h _ =>
    have := o.chg
    rw [h] at this
    exact this
  | lst z' _ _ => exact z z'
  | scr _ => cases n
  | dK z' _ _ => exact z z'
  | dT z' _ _ => exact z z'
theorem sepT_ok {i : Nat} (R : Rel K g Z σ H ρ) (h : TOk K g Hs Z σ H ρ v t) (m : (gt ρ i).mine = true) (x : σ[i]? = some (some (.ref a))) (o : OwnAt K Z H a d) (z : ¬ Z a) (n : sepT ρ i t = true) : v ≠ .ref a := by
  cases t with
  | val d' => exact Rep.apart h o z n
  | tmp d' => cases n
  | bor j =>
    have y : σ[j]? = some (some v) := h
    simp only [sepT, Bool.and_eq_true] at n
    obtain ⟨n1, n2⟩ := n
    have ne : j ≠ i := by simpa using n1
    intro q
    subst q
    cases c : gt ρ j with
    | no => rw [c] at n2; cases n2
    | fz d' =>
      rw [c] at n2
      obtain ⟨w, y', r⟩ := R.fz j d' c
      rw [y] at y'; cases y'
      exact Rep.apart r o z n2 rfl
    | own d' => exact ne (R.uniq i j a m (by rw [c]; rfl) x y).symm
    | mu d' => exact ne (R.uniq i j a m (by rw [c]; rfl) x y).symm
    | lent d' => exact ne (R.uniq i j a m (by rw [c]; rfl) x y).symm
theorem allSep {i : Nat} (R : Rel K g Z σ H ρ) (m : (gt ρ i).mine = true) (x : σ[i]? = some (some (.ref a))) (o : OwnAt K Z H a d) (z : ¬ Z a) : ∀ {us : List T} {vs : List V} {j : Nat}, TsOk K g Hs Z σ H ρ vs us → us.all (sepT ρ i) = true → vs[j]? = some (V.ref a) → False
  | _, _, _, .nil, _, e => by simp at e
  | _, _, 0, .cons h0 _ _, n, e => by
    simp only [List.all_cons, Bool.and_eq_true] at n
    simp at e
    exact sepT_ok R h0 m x o z n.1 e
  | _, _, j + 1, .cons _ hr _, n, e => by
    simp only [List.all_cons, Bool.and_eq_true] at n
    exact allSep (j := j) R m x o z hr n.2 (by simpa using e)
theorem sepTs_ok {i : Nat} (R : Rel K g Z σ H ρ) (m : (gt ρ i).mine = true) (x : σ[i]? = some (some (.ref a))) (o : OwnAt K Z H a d) (z : ¬ Z a) : ∀ {us : List T} {vs : List V} {p j : Nat}, TsOk K g Hs Z σ H ρ vs us → sepTs ρ i p us = true → vs[j]? = some (V.ref a) → j = p
  | _, _, _, _, .nil, _, e => by simp at e
  | _, _, 0, 0, .cons _ _ _, _, _ => rfl
  | _, _, 0, j + 1, .cons (vs := vs) (ts := us) _ hr _, n, e => by
    exact (allSep R m x o z hr n (by simpa using e)).elim
  | _, _, p + 1, 0, .cons h0 _ _, n, e => by
    simp only [sepTs, Bool.and_eq_true] at n
    simp at e
    exact absurd e (sepT_ok R h0 m x o z n.1)
  | _, _, p + 1, j + 1, .cons _ hr _, n, e => by
    simp only [sepTs, Bool.and_eq_true] at n
    exact congrArg (· + 1) (sepTs_ok (j := j) R m x o z hr n.2 (by simpa using e))
end

section
variable {X : Cx} {g : G} {k : Nat} {f : Addr} {fd : FuncData} {ps : List Str} {ms : List Md} {sp : DSp} {x : Str} {p pos : Pos} {es : List Expr} {e : Expr} {wa : WA}
theorem all_no {i : Nat} (h : ms.all Md.no = true) : ms[i]? ≠ some Md.mu := fun e => by
  have := List.all_eq_true.mp h .mu (List.mem_of_getElem? e)
  cases this
theorem call_imp (hn : ms.all Md.no = true) (σ : L2.St) (H : Hp) (Q : VK) (q : liftE X.K g (wCall ms sp wa) σ H Q) : tCall (liftSp X.K ms sp) [] E0 (liftA X.K g wa) σ H Q := by
  obtain ⟨Z, ρ, P, R, w, fin⟩ := q
  refine ⟨Z, ρ, _, R, w, fun ts vs Z1 H1 ρ1 R1 s1 t1 q => ?_⟩
  obtain ⟨us, Z2, ρ2, ⟨ds, e1, hs⟩, R2, s2, t2, z2⟩ := argP_ok R1 s1 t1 q
  rw [List.append_nil]
  refine ⟨Z2, ds, _, argDs_ok R2 t2 e1, fun i j a h => absurd h (all_no hn), R2.ztr, hs, fun t os v Z' H' fr zi zn zt th ro _ q => ?_⟩
  have ex : Ext H1 H' := fun a o h => fr a o h fun ⟨i, m, _⟩ => all_no hn m
  obtain ⟨R3, s3⟩ := call_rel R2 ex zi zn zt
  refine fin t v Z' H' ρ2 R3 (s2.trans s3) ?_ q
  cases t with
  | val d => exact ro
  | tmp d =>
    obtain ⟨a, y, o, z, n⟩ := ro
    refine ⟨a, y, o, z, ?_, (R2.fresh n).2.1, (R2.fresh n).2.2⟩
    exact Classical.byContradiction fun q => s2.there a q n
  | bor i => exact ro.elim
theorem de_call (F : FnOk X.prog X.w X.K X.mg X.base CX0 k f fd ps (liftSp X.K ms sp)) (hn : ms.all Md.no = true) (hr : Room k X.A) (hg : Gl X x) (hm : X.mg x = some (.ref f)) (hk : PySem.W.keepIn X.K (.ref f) = true) (hb : Binds X.K fd ps []) (ha : DA X g (e :: es) wa)
    (hdb : (x == ("__debug__" : Str)) = false := by decide) (he : starEach (e :: es) X.env = (false, eval e X.env) :: starEach es X.env := by rfl) (hpl : (backTo pos (starEach es X.env)).any (·.1) = false := by rfl) :
    DE X g (.Call (.Name x p) (e :: es) [] pos) (wCall ms sp wa) :=
  ⟨(pe_call F hr hg hm hk hb .nil pass0 ha.pa hdb he hpl).imp (call_imp hn)⟩
theorem callM_imp {n : Nat} (h1 : ms[n]? = some Md.mu) (h2 : muOnly n ms = true) (σ : L2.St) (H : Hp) (Q : VK) (q : liftE X.K g (wCallM n ms sp wa) σ H Q) : tCall (liftSp X.K ms sp) [] E0 (liftA X.K g wa) σ H Q := by
  obtain ⟨Z, ρ, P, R, w, fin⟩ := q
  refine ⟨Z, ρ, _, R, w, fun ts vs Z1 H1 ρ1 R1 s1 t1 q => ?_⟩
  obtain ⟨us, Z2, ρ2, ⟨ds, i, e1, e2, e3, hs⟩, R2, s2, t2, z2⟩ := argP_ok R1 s1 t1 q
  rw [List.append_nil]
  have ar := argDs_ok R2 t2 e1
  -- the slot and its address
  have hlen := ar.len
  have hn : n < ms.length := (List.getElem?_eq_some_iff.mp h1).1
  obtain ⟨v0, x1, a0, rfl, o, z⟩ := ar.get n .mu (ds[n]'(by omega)) h1 (List.getElem?_eq_getElem (by omega))
  have mk : ∀ {us : List T} {vs : List V} {n : Nat}, TsOk X.K g H Z2 σ H1 ρ2 vs us → us[n]? = some (.bor i) → vs[n]? = some (V.ref a0) → σ[i]? = some (some (.ref a0)) := by
    intro us vs n t
    induction t generalizing n with
    | nil => intro h; simp at h
    | cons h0 _ _ ih =>
      intro h1 h2
      cases n with
      | zero => simp at h1 h2; subst h1; subst h2; exact h0
      | succ n => exact ih (by simpa using h1) (by simpa using h2)
  have xi := mk t2 e2 x1
  have m : (gt ρ2 i).mine = true := by
    have ge : ∀ {us : List T} {ms : List Md} {ds : List D} {n : Nat}, argDs ρ2 ms us = some ds → ms[n]? = some Md.mu → us[n]? = some (.bor i) → (gt ρ2 i).mine = true := by
      intro us
      induction us with
      | nil => intro ms ds n _ _ h; simp at h
      | cons t ts ih =>
        intro ms ds n a b c
        cases ms with
        | nil => simp at b
        | cons m ms =>
          simp only [argDs, Option.bind_eq_some_iff] at a
          obtain ⟨d, a1, ds', a2, a3⟩ := a
          cases n with
          | zero =>
            simp at b c
            subst b; subst c
            simp only [argD] at a1
            cases q : gt ρ2 i <;> rw [q] at a1 <;> first | rfl | cases a1
          | succ n => exact ih a2 (by simpa using b) (by simpa using c)
    exact ge e1 h1 e2
  refine ⟨Z2, ds, _, ar, fun a b c ha hb hc => ?_, R2.ztr, hs, fun t os v Z' H' fr zi zn zt th ro ou q => ?_⟩
  · have ea := muOnly_at h2 ha
    subst ea
    rw [x1] at hb
    cases hb
    exact (sepTs_ok R2 m xi o z t2 e3 hc).symm
  · match os, q, ou with
    | [d], q, ou =>
      obtain ⟨o', z'⟩ := ou.at (p := n) h2 h1 x1
      obtain ⟨R3, s3⟩ := call_rel1 R2 m xi (fun a u h ne => fr a u h fun ⟨j, y1, y2⟩ => by
        have := muOnly_at h2 y1
        subst this
        rw [x1] at y2
        cases y2
        exact ne rfl) zi zn zt o' z'
      refine fin t v Z' H' _ R3 (s2.trans s3) ?_ q
      cases t with
      | val d => exact ro
      | tmp d =>
        obtain ⟨a, y, o, z, n⟩ := ro
        refine ⟨a, y, o, z, ?_, fun u => (R2.fresh n).2.1 ?_, (R2.fresh n).2.2⟩
        · exact Classical.byContradiction fun q => s2.there a q n
        · rw [renew_eq] at u
          exact used_st_mine m u
      | bor i => exact ro.elim
theorem de_callM {n : Nat} (F : FnOk X.prog X.w X.K X.mg X.base CX0 k f fd ps (liftSp X.K ms sp)) (h1 : ms[n]? = some Md.mu) (h2 : muOnly n ms = true) (hr : Room k X.A) (hg : Gl X x) (hm : X.mg x = some (.ref f)) (hk : PySem.W.keepIn X.K (.ref f) = true) (hb : Binds X.K fd ps []) (ha : DA X g (e :: es) wa)
    (hdb : (x == ("__debug__" : Str)) = false := by decide) (he : starEach (e :: es) X.env = (false, eval e X.env) :: starEach es X.env := by rfl) (hpl : (backTo pos (starEach es X.env)).any (·.1) = false := by rfl) :
    DE X g (.Call (.Name x p) (e :: es) [] pos) (wCallM n ms sp wa) :=
  ⟨(pe_call F hr hg hm hk hb .nil pass0 ha.pa hdb he hpl).imp (callM_imp h1 h2)⟩
end
end VS
namespace VS
open PySem PySem.Spec PyProof.Rows L2

/-! ### a slot's object is lent to a loop, and given back -/
abbrev Back := Option (Nat × Sl)
def lend : Back → Rho → Rho
  | some (i, .own d), ρ => st ρ i (.lent d)
  | some (i, .mu d), ρ => st ρ i (.lent d)
  | _, ρ => ρ
def unl : Back → Rho → Rho
  | some (i, y), ρ => match gt ρ i with
    | .lent _ => st ρ i y
    | _ => ρ
  | none, ρ => ρ
def BackOk (ρ : Rho) : Back → Prop
  | none => True
  | some (i, y) => gt ρ i = y ∧ y.mine = true
section
variable {K : PySem.W.Frag} {g : G} {Z Z' Z1 Z2 : Addr → Prop} {σ σ' σ1 σ2 : L2.St} {H H' H1 H2 Hs : Hp} {ρ ρ' ρ1 ρ2 : Rho} {a : Addr} {v : V} {vs : List V} {d : D} {t : T} {ts : List T} {i : Nat} {b : Back}
theorem Sl.mine_cases {y : Sl} (h : y.mine = true) : ∃ d, y = .own d ∨ y = .mu d := by
  cases y with
  | own d => exact ⟨d, .inl rfl⟩
  | mu d => exact ⟨d, .inr rfl⟩
  | _ => cases h
theorem lend_eq {y : Sl} {d : D} (h : y = .own d ∨ y = .mu d) : lend (some (i, y)) ρ = st ρ i (.lent d) := by
  rcases h with h | h <;> (subst h; rfl)
theorem Rel.mineAt {d : D} (R : Rel K g Z σ H ρ) (h : gt ρ i = .own d ∨ gt ρ i = .mu d) : ∃ a, σ[i]? = some (some (.ref a)) ∧ OwnAt K Z H a d ∧ ¬ Z a := by
  rcases h with h | h
  · obtain ⟨a, e, o, z, _⟩ := R.own i d h; exact ⟨a, e, o, z⟩
  · obtain ⟨a, e, o, z, _⟩ := R.mu i d h; exact ⟨a, e, o, z⟩
theorem Rel.lend1 {d : D} (R : Rel K g Z σ H ρ) (h : gt ρ i = .own d ∨ gt ρ i = .mu d) : Rel K g Z σ H (st ρ i (.lent d)) := by
  have m : (gt ρ i).mine = true := by rcases h with h | h <;> (rw [h]; rfl)
  have u : (gt ρ i).used = true := by rcases h with h | h <;> (rw [h]; rfl)
  have hi : i < ρ.length := gt_len fun q => by rw [q] at m; cases m
  have self : gt (st ρ i (.lent d)) i = .lent d := gt_st_same hi
  have other : ∀ j, j ≠ i → gt (st ρ i (.lent d)) j = gt ρ j := fun j q => gt_st_ne (Ne.symm q)
  have ne : ∀ {j : Nat} {s : Sl}, gt (st ρ i (.lent d)) j = s → s ≠ .lent d → j ≠ i := fun q n e => by
    subst e
    rw [self] at q
    exact n q.symm
  refine ⟨by rw [st_length]; exact R.len, fun j d' q => ?_, fun j d' q => ?_, fun j d' q => ?_, fun j d' q => ?_, fun j k a mj uk x y => ?_, R.frame, R.zfr, R.ztr, R.mz, R.mt, R.mh⟩
  · have := ne q (fun z => by cases z)
    rw [other j this] at q
    exact R.fz j d' q
  · have := ne q (fun z => by cases z)
    rw [other j this] at q
    exact R.own j d' q
  · have := ne q (fun z => by cases z)
    rw [other j this] at q
    exact R.mu j d' q
  · by_cases e : j = i
    · subst e
      rw [self] at q
      cases q
      obtain ⟨a, x, o, _⟩ := R.mineAt h
      exact ⟨_, x, o.lent, o.top⟩
    · rw [other j e] at q
      exact R.lent j d' q
  · have nj : j ≠ i := fun e => by subst e; rw [self] at mj; cases mj
    rw [other j nj] at mj
    have uk' : (gt ρ k).used = true := by
      by_cases e : k = i
      · rw [e]; exact u
      · rw [other k e] at uk; exact uk
    exact R.uniq j k a mj uk' x y
theorem Rel.lendB (R : Rel K g Z σ H ρ) (h : BackOk ρ b) : Rel K g Z σ H (lend b ρ) := by
  cases b with
  | none => exact R
  | some p =>
    obtain ⟨i, y⟩ := p
    obtain ⟨e, m⟩ := h
    obtain ⟨d, q⟩ := Sl.mine_cases m
    rw [lend_eq q]
    exact R.lend1 (by rcases q with q | q <;> (rw [q] at e; first | exact .inl e | exact .inr e))
theorem mine_lend {y : Sl} {d : D} (h : Mine (st ρ i (.lent d)) σ a) : Mine ρ σ a := by
  obtain ⟨j, u, e⟩ := h
  rw [gt_st] at u
  split at u
  · cases u
  · exact ⟨j, u, e⟩
/-- the loop is over: the slot is its own again -/
theorem unl_ok (R : Rel K g Z σ H ρ) (h : BackOk ρ b) (s : Step Z H σ (lend b ρ) Z' H' σ' ρ') (R' : Rel K g Z' σ' H' ρ') :
    Rel K g Z' σ' H' (unl b ρ') ∧ Step Z H σ ρ Z' H' σ' (unl b ρ') ∧ ∀ a, Used (unl b ρ') σ' a → Used ρ' σ' a := by
  cases b with
  | none => exact ⟨R', s, fun _ u => u⟩
  | some p =>
    obtain ⟨i, y⟩ := p
    obtain ⟨e, m⟩ := h
    obtain ⟨d, q⟩ := Sl.mine_cases m
    rw [lend_eq q] at s
    have hq : gt ρ i = .own d ∨ gt ρ i = .mu d := by rcases q with q | q <;> (rw [q] at e; first | exact .inl e | exact .inr e)
    have RL := R.lend1 hq
    obtain ⟨a, x, o, nz⟩ := R.mineAt hq
    have hi : i < ρ.length := gt_len fun q => by rw [q] at e; subst e; cases m
    have self : gt (st ρ i (.lent d)) i = .lent d := gt_st_same hi
    have other : ∀ j, j ≠ i → gt (st ρ i (.lent d)) j = gt ρ j := fun j q => gt_st_ne (Ne.symm q)
    have nm : ¬ Mine (st ρ i (.lent d)) σ a := fun ⟨j, u, w⟩ => by
      have := RL.uniq j i a u (by rw [self]; rfl) w x
      subst this
      rw [self] at u
      cases u
    have nmE : ∀ c, Mine ρ σ c → c = a ∨ Mine (st ρ i (.lent d)) σ c := fun c ⟨j, u, w⟩ => by
      by_cases k : j = i
      · subst k
        rw [x] at w
        cases w
        exact .inl rfl
      · exact .inr ⟨j, by rw [other j k]; exact u, w⟩
    have ha : H a ≠ none := o.here
    have nz' : ¬ Z' a := fun z => by
      rcases s.znew a z with h | h | h
      · exact nz h
      · exact ha h
      · exact nm h
    have o' : OwnAt K Z' H' a d := o.mono (s.mv RL) fun u w => s.keep a u w nm
    have nm' : ¬ Mine ρ' σ' a := fun w => by
      rcases s.mine a w with h | h
      · exact nm h
      · exact ha h
    have base : Step Z H σ ρ Z' H' σ' ρ' → True := fun _ => trivial
    have st0 : ∀ ρ'' : Rho, (∀ c, Mine ρ'' σ' c → c = a ∨ Mine ρ' σ' c) → (∀ j d', gt ρ'' j = .lent d' → j ≠ i ∧ gt ρ' j = .lent d') → (∀ j d', gt ρ'' j = .mu d' → ((∃ e, gt ρ j = .mu e) ∧ σ'[j]? = σ[j]?)) → Step Z H σ ρ Z' H' σ' ρ'' := fun ρ'' k1 k2 k3 => {
      keep := fun c u w n => s.keep c u w fun z => n (mine_lend (y := .no) z)
      zin := s.zin
      znew := fun c z => by
        rcases s.znew c z with h | h | h
        · exact .inl h
        · exact .inr (.inl h)
        · exact .inr (.inr (mine_lend (y := .no) h))
      mine := fun c w => by
        rcases k1 c w with h | h
        · subst h; exact .inl ⟨i, by rw [e]; exact m, x⟩
        · rcases s.mine c h with h | h
          · exact .inl (mine_lend (y := .no) h)
          · exact .inr h
      lent := fun j d' w => by
        obtain ⟨n, w'⟩ := k2 j d' w
        obtain ⟨w1, w2⟩ := s.lent j d' w'
        rw [other j n] at w1
        exact ⟨w1, w2⟩
      mus := k3
      there := s.there }
    have musOld : ∀ j d', gt ρ' j = .mu d' → ((∃ e, gt ρ j = .mu e) ∧ σ'[j]? = σ[j]?) := fun j d' w => by
      obtain ⟨⟨e', w1⟩, w2⟩ := s.mus j d' w
      have n : j ≠ i := fun k => by subst k; rw [self] at w1; cases w1
      rw [other j n] at w1
      exact ⟨⟨e', w1⟩, w2⟩
    show Rel K g Z' σ' H' (unl (some (i, y)) ρ') ∧ Step Z H σ ρ Z' H' σ' (unl (some (i, y)) ρ') ∧ ∀ c, Used (unl (some (i, y)) ρ') σ' c → Used ρ' σ' c
    by_cases lt : ∃ d', gt ρ' i = .lent d'
    · obtain ⟨d', l⟩ := lt
      obtain ⟨l1, l2⟩ := s.lent i d' l
      rw [self] at l1
      cases l1
      have x' : σ'[i]? = some (some (.ref a)) := l2.trans x
      have un : unl (some (i, y)) ρ' = st ρ' i y := by simp only [unl, l]
      have hi' : i < ρ'.length := gt_len fun q => by rw [q] at l; cases l
      have self' : gt (st ρ' i y) i = y := gt_st_same hi'
      have other' : ∀ j, j ≠ i → gt (st ρ' i y) j = gt ρ' j := fun j q => gt_st_ne (Ne.symm q)
      rw [un]
      refine ⟨?_, st0 _ (fun c ⟨j, u, w⟩ => ?_) (fun j d' w => ?_) (fun j d' w => ?_), fun c ⟨j, u, w⟩ => ?_⟩
      · refine ⟨by rw [st_length]; exact R'.len, fun j d' w => ?_, fun j d' w => ?_, fun j d' w => ?_, fun j d' w => ?_, fun j k c mj uk w1 w2 => ?_, R'.frame, R'.zfr, R'.ztr, R'.mz, R'.mt, R'.mh⟩
        · have n : j ≠ i := fun k => by
            subst k
            rw [self'] at w
            subst w
            cases m
          rw [other' j n] at w
          exact R'.fz j d' w
        · by_cases n : j = i
          · subst n
            rw [self'] at w
            subst w
            rcases q with q | q
            · cases q
              obtain ⟨a2, x2, _, _, f⟩ := R.own j d e
              rw [x] at x2; cases x2
              exact ⟨a, x', o', nz', f⟩
            · cases q
          · rw [other' j n] at w
            exact R'.own j d' w
        · by_cases n : j = i
          · subst n
            rw [self'] at w
            subst w
            rcases q with q | q
            · cases q
            · cases q
              obtain ⟨a2, x2, _, _, f⟩ := R.mu j d e
              rw [x] at x2; cases x2
              exact ⟨a, x', o', nz', f⟩
          · rw [other' j n] at w
            exact R'.mu j d' w
        · have n : j ≠ i := fun k => by
            subst k
            rw [self'] at w
            subst w
            cases m
          rw [other' j n] at w
          exact R'.lent j d' w
        · by_cases nj : j = i
          · subst nj
            rw [x'] at w1
            cases w1
            by_cases nk : k = j
            · exact nk.symm
            · exfalso
              rw [other' k nk] at uk
              cases c2 : gt ρ' k with
              | no => rw [c2] at uk; cases uk
              | fz d2 => rw [c2] at uk; cases uk
              | own d2 => exact nm' ⟨k, by rw [c2]; rfl, w2⟩
              | mu d2 => exact nm' ⟨k, by rw [c2]; rfl, w2⟩
              | lent d2 =>
                obtain ⟨w3, w4⟩ := s.lent k d2 c2
                rw [other k nk] at w3
                exact nk (R.uniq j k a (by rw [e]; exact m) (by rw [w3]; rfl) x (by rw [← w4]; exact w2)).symm
          · rw [other' j nj] at mj
            have uk' : (gt ρ' k).used = true := by
              by_cases n : k = i
              · rw [n, l]; rfl
              · rw [other' k n] at uk; exact uk
            exact R'.uniq j k c mj uk' w1 w2
      · by_cases n : j = i
        · subst n
          rw [x'] at w
          cases w
          exact .inl rfl
        · rw [other' j n] at u
          exact .inr ⟨j, u, w⟩
      · by_cases n : j = i
        · subst n
          rw [self'] at w
          subst w
          cases m
        · rw [other' j n] at w
          exact ⟨n, w⟩
      · by_cases n : j = i
        · subst n
          rw [self'] at w
          subst w
          exact ⟨⟨_, e⟩, l2⟩
        · rw [other' j n] at w
          exact musOld j d' w
      · by_cases n : j = i
        · subst n
          exact ⟨j, by rw [l]; rfl, w⟩
        · rw [other' j n] at u
          exact ⟨j, u, w⟩
    · have un : unl (some (i, y)) ρ' = ρ' := by
        simp only [unl]
        split
        · rename_i d' l
          exact absurd ⟨d', l⟩ lt
        · rfl
      rw [un]
      exact ⟨R', st0 _ (fun c w => .inr w) (fun j d' w => ⟨fun k => by subst k; exact lt ⟨d', w⟩, w⟩) musOld, fun _ u => u⟩
theorem TOk.unl (h : TOk K g Hs Z' σ' H' ρ' v t) (u : ∀ a, Used (unl b ρ') σ' a → Used ρ' σ' a) : TOk K g Hs Z' σ' H' (unl b ρ') v t := by
  cases t with
  | val d => exact h
  | tmp d =>
    obtain ⟨a, e, o, z, n, w, f⟩ := h
    exact ⟨a, e, o, z, n, fun q => w (u a q), f⟩
  | bor i => exact h
end

/-! ### what is walked: the items as plain data -/
def Walks (K : PySem.W.Frag) (g : G) (Z : Addr → Prop) (σ : L2.St) (H : Hp) (ρ : Rho) (J : It) (ds : List D) : Prop :=
  ∀ (Z' : Addr → Prop) (σ' : L2.St) (H' : Hp) (ρ' : Rho), Rel K g Z' σ' H' ρ' → Step Z H σ ρ Z' H' σ' ρ' →
    (∀ (i : Nat) (d : D), ds[i]? = some d → J.go i H' ∧ ∀ x H2, J.yld i H' x H2 → Ext H' H2 ∧ Rep K Z' H2 x d) ∧ ∀ i, ds.length ≤ i → J.stop i H'
abbrev WI := Rho → (List D → Back → Rho → Prop) → Prop
def liftI (K : PySem.W.Frag) (g : G) (w : WI) : TI := fun σ H R => ∃ Z ρ P, Rel K g Z σ H ρ ∧ w ρ P ∧
  ∀ ds b J Z' H' ρm, Rel K g Z' σ H' ρm → Step Z H σ ρ Z' H' σ ρm → BackOk ρm b → Walks K g Z' σ H' (lend b ρm) J ds → P ds b (lend b ρm) → R J H'
structure DI (X : Cx) (g : G) (tg e : Expr) (w : WI) : Prop where
  pi : PI X tg e (liftI X.K g w)
theorem _root_.L2.PI.imp {X : Cx} {tg e : Expr} {t t' : TI} (h : PI X tg e t) (m : ∀ σ H R, t' σ H R → t σ H R) : PI X tg e t' := ⟨fun pins s σ H R I q => h.run pins s σ H R I (m σ H R q)⟩

/-! ### for -/
def wLoop (wg : WG) (wb : WS) (P : WEnds) : List D → Rho → Prop
  | [], ρ => P.nx ρ
  | d :: ds, ρ => wg d ρ fun ρ1 => wb ⟨fun ρ2 => wLoop wg wb P ds ρ2, P.rt, P.bk, fun ρ2 => wLoop wg wb P ds ρ2⟩ ρ1
def wFor (wi : WI) (wg : WG) (wb : WS) : WS := fun P ρ => wi ρ fun ds b ρ1 => wLoop wg wb ⟨fun ρ2 => P.nx (unl b ρ2), fun t ρ2 => P.rt t (unl b ρ2), fun ρ2 => P.nx (unl b ρ2), fun _ => False⟩ ds ρ1
section
variable {X : Cx} {g : G} {tg iter : Expr} {body : List Stmt} {wi : WI} {wg : WG} {wb : WS} {wc : WT} {c : Expr} {pos : Pos}
theorem ds_for (hp : PassesOwn (model X.prog X.w) X.A X.env X.xe) (hc : X.calm = true) (hi : DI X g tg iter wi) (hg : DG X g tg wg) (hb : DSs X g body wb) (hs : ∀ x, foldedSetIterable iter X.env x = pure x := by intro _; rfl) :
    DS X g (.For tg iter body [] pos) (wFor wi wg wb) := by
  refine ⟨(ps_for hp hc hi.pi hg.pg hb.ps hs).imp fun D σ H h => ?_⟩
  obtain ⟨Z, ρ, P, R, w, k1, k2, k3, k4⟩ := h
  refine ⟨Z, ρ, _, R, w, fun ds b J Z1 H1 ρm Rm sm bo wk q => ?_⟩
  have RL := Rm.lendB bo
  refine ⟨fun i m σ' H' => ∃ Z' ρ', Rel X.K g Z' σ' H' ρ' ∧ Step Z1 H1 σ (lend b ρm) Z' H' σ' ρ' ∧ i + m = ds.length ∧ wLoop wg wb ⟨fun ρ2 => P.nx (unl b ρ2), fun t ρ2 => P.rt t (unl b ρ2), fun ρ2 => P.nx (unl b ρ2), fun _ => False⟩ (ds.drop i) ρ',
    ⟨ds.length, Z1, lend b ρm, RL, Step.refl, by omega, q⟩, fun i m σ' H' ⟨Z', ρ', R', s', le, w'⟩ => ?_⟩
  obtain ⟨wk1, wk2⟩ := wk Z' σ' H' ρ' R' s'
  cases m with
  | zero =>
    have e : i = ds.length := by omega
    subst e
    rw [List.drop_length] at w'
    obtain ⟨R2, s2, _⟩ := unl_ok Rm bo s' R'
    exact .inl ⟨wk2 _ (Nat.le_refl _), k1 Z' σ' H' _ R2 (sm.trans s2) w'⟩
  | succ m =>
    have hi : i < ds.length := by omega
    rw [List.drop_eq_getElem_cons hi] at w'
    obtain ⟨go, yl⟩ := wk1 i ds[i] (List.getElem?_eq_getElem hi)
    refine .inr ⟨go, fun σ'' H'' => ∃ m', m' < m + 1 ∧ ∃ Z' ρ', Rel X.K g Z' σ'' H'' ρ' ∧ Step Z1 H1 σ (lend b ρm) Z' H'' σ'' ρ' ∧ (i + 1) + m' = ds.length ∧ wLoop wg wb ⟨fun ρ2 => P.nx (unl b ρ2), fun t ρ2 => P.rt t (unl b ρ2), fun ρ2 => P.nx (unl b ρ2), fun _ => False⟩ (ds.drop (i + 1)) ρ',
      fun σ'' H'' h => h, fun x H2 y => ?_⟩
    obtain ⟨ex, rx⟩ := yl x H2 y
    refine ⟨Z', ρ', _, _, ex.rel R', rx, w', fun σ2 ρ2 R2 s2 q2 => ?_⟩
    have s3 := (s'.trans ex.step).trans s2
    refine ⟨Z', ρ2, _, R2, q2, fun Z4 σ4 H4 ρ4 R4 s4 q4 => ?_, fun t v Z4 σ4 H4 ρ4 Hs R4 s4 o4 q4 => ?_, fun Z4 σ4 H4 ρ4 R4 s4 q4 => ?_, fun Z4 σ4 H4 ρ4 R4 s4 q4 => ?_⟩
    · exact ⟨m, by omega, Z4, ρ4, R4, s3.trans s4, by omega, q4⟩
    · obtain ⟨R5, s5, u5⟩ := unl_ok Rm bo (s3.trans s4) R4
      exact k2 t v Z4 σ4 H4 _ Hs R5 (sm.trans s5) (o4.unl u5) q4
    · obtain ⟨R5, s5, u5⟩ := unl_ok Rm bo (s3.trans s4) R4
      exact k1 Z4 σ4 H4 _ R5 (sm.trans s5) q4
    · exact ⟨m, by omega, Z4, ρ4, R4, s3.trans s4, by omega, q4⟩

/-! ### while -/
def wLoopW (wc : WT) (wb : WS) (P : WEnds) : Nat → Rho → Prop
  | 0, _ => False
  | n + 1, ρ => wc ρ fun k ρ1 => br k (wb ⟨wLoopW wc wb P n, P.rt, P.nx, wLoopW wc wb P n⟩ ρ1) (P.nx ρ1)
def wWhile (wc : WT) (wb : WS) : WS := fun P ρ => ∃ n, wLoopW wc wb P n ρ
theorem ds_while (hp : PassesOwn (model X.prog X.w) X.A X.env X.xe) (hc : DT X g c wc) (hb : DSs X g body wb) : DS X g (.While c body [] pos) (wWhile wc wb) := by
  refine ⟨(ps_while hp hc.pt hb.ps).imp fun D σ H h => ?_⟩
  obtain ⟨Z, ρ, P, R, ⟨n, w⟩, k1, k2, k3, k4⟩ := h
  refine ⟨fun m σ' H' => ∃ Z' ρ', Rel X.K g Z' σ' H' ρ' ∧ Step Z H σ ρ Z' H' σ' ρ' ∧ wLoopW wc wb P m ρ', ⟨n, Z, ρ, R, Step.refl, w⟩, fun m σ' H' ⟨Z', ρ', R', s', w'⟩ => ?_⟩
  cases m with
  | zero => exact w'.elim
  | succ m =>
    refine ⟨Z', ρ', _, R', w', fun k Z2 H2 ρ2 R2 s2 q => ?_⟩
    cases k with
    | false => exact k1 Z2 σ' H2 ρ2 R2 (s'.trans s2) (q.2 rfl)
    | true =>
      refine ⟨fun σ'' H'' => ∃ Z' ρ', Rel X.K g Z' σ'' H'' ρ' ∧ Step Z H σ ρ Z' H'' σ'' ρ' ∧ wLoopW wc wb P m ρ', fun σ'' H'' h => ⟨m, Nat.lt_succ_self m, h⟩, ?_⟩
      refine ⟨Z2, ρ2, _, R2, q.1 rfl, fun Z4 σ4 H4 ρ4 R4 s4 q4 => ?_, fun t v Z4 σ4 H4 ρ4 Hs R4 s4 o4 q4 => ?_, fun Z4 σ4 H4 ρ4 R4 s4 q4 => ?_, fun Z4 σ4 H4 ρ4 R4 s4 q4 => ?_⟩
      · exact ⟨Z4, ρ4, R4, (s'.trans s2).trans s4, q4⟩
      · exact k2 t v Z4 σ4 H4 ρ4 Hs R4 ((s'.trans s2).trans s4) o4 q4
      · exact k1 Z4 σ4 H4 ρ4 R4 ((s'.trans s2).trans s4) q4
      · exact ⟨Z4, ρ4, R4, (s'.trans s2).trans s4, q4⟩
end
end VS
namespace VS
open PySem PySem.Spec PyProof.Rows L2

/-! ### a sequence of any kind, walked -/
def iAny (K : PySem.W.Frag) (te : TE) : TI := fun σ H R => te σ H fun v H1 => (∃ a xs, v = .ref a ∧ SqL K H1 a xs ∧ R (Itl K a) H1) ∨ (∃ a xs, v = .ref a ∧ SqT K H1 a xs ∧ R (Itt K a) H1) ∨ ∃ x, v = .str x ∧ R (Its x) H1
theorem pi_any {X : Cx} {tg e : Expr} {te : TE} (he : PE X e te) : PI X tg e (iAny X.K te) := by
  constructor
  intro pins s σ H R I h
  refine thn (he.run pins s σ H _ I h) ?_
  rintro v s1 ⟨y, H1, I1, r1, q⟩
  rcases q with ⟨a, xs, rfl, hx, q⟩ | ⟨a, xs, rfl, hx, q⟩ | ⟨x, rfl, q⟩
  · cases r1
    obtain ⟨its, -, p, -⟩ := I1.list hx
    exact wpAny_pyIter_list p.isList (pi_one (tk := s1.toks) I1 _ (turn_list a _) ⟨_, Heap.get?_push_size _ rfl, rfl, rfl⟩ q)
  · cases r1
    obtain ⟨its, -, p, -⟩ := I1.tuple hx
    exact wpAny_pyIter_tuple (show s1.heap.IsTuple a its.toArray from p) (pi_one (tk := s1.toks) I1 _ (turn_tuple a _) ⟨_, Heap.get?_push_size _ rfl, rfl, rfl⟩ q)
  · obtain ⟨t, rfl⟩ := r1
    cases asc : x.cps.all (· < 128) with
    | true => exact wpAny_pyIter_ascii asc (pi_one (tk := s1.toks) I1 _ (turn_str _ x t _ (.inl rfl)) ⟨_, Heap.get?_push_size _ rfl, rfl, rfl⟩ q)
    | false => exact wpAny_pyIter_wide asc (pi_one (tk := s1.toks) I1 _ (turn_str _ x t _ (.inr rfl)) ⟨_, Heap.get?_push_size _ rfl, rfl, rfl⟩ q)

def itemsD : D → Option (List D)
  | .lst l => some l
  | .tup l => some l
  | .str s => some (s.map fun c => .str [c])
  | .scr l => some (l.map .int)
  | _ => none
def backOf (t : T) (ρ : Rho) : Back := match t with
  | .bor i => match gt ρ i with
    | .own d => some (i, .own d)
    | .mu d => some (i, .mu d)
    | _ => none
  | _ => none
def seqP (t : T) (ρ : Rho) (P : List D → Back → Rho → Prop) : Prop := ∃ d ds, rd ρ t = some d ∧ itemsD d = some ds ∧ P ds (backOf t ρ) (lend (backOf t ρ) ρ)
def wiSeq (we : WE) : WI := fun ρ P => we ρ fun t ρ1 => seqP t ρ1 P
section
variable {K : PySem.W.Frag} {g : G} {Z Z' : Addr → Prop} {σ σ' : L2.St} {H H' Hs : Hp} {ρ ρ' : Rho} {a : Addr} {v : V} {d : D} {ds : List D} {t : T}
theorem backOf_ok : BackOk ρ (backOf t ρ) := by
  cases t with
  | val d => trivial
  | tmp d => trivial
  | bor i =>
    simp only [backOf]
    split
    · rename_i d q; exact ⟨q, rfl⟩
    · rename_i d q; exact ⟨q, rfl⟩
    · trivial
/-- a list that is read stands still while it is walked -/
theorem lst_still (R : Rel K g Z σ H ρ) (h : TOk K g Hs Z σ H ρ v t) (e : rd ρ t = some (.lst ds)) : ∃ a xs, v = .ref a ∧ H a = some (.lst xs) ∧ Reps K Z H xs ds ∧ ¬ Mine (lend (backOf t ρ) ρ) σ a := by
  obtain ⟨a, xs, rfl, hx, r⟩ := h.read R e
  refine ⟨a, xs, rfl, hx, r, ?_⟩
  cases t with
  | val d =>
    cases e
    intro m
    have h : Rep K Z H (.ref a) (.lst ds) := h
    cases h with
    | lst z _ _ => exact (R.mineChg m).2.1 z
  | tmp d =>
    obtain ⟨b, x, _, _, _, u, _⟩ := h
    cases x
    exact fun m => u m.used
  | bor i =>
    have x : σ[i]? = some (some (.ref a)) := h
    have e : (gt ρ i).dat = some (.lst ds) := e
    have lent1 : ∀ d, gt ρ i = .own d ∨ gt ρ i = .mu d → ¬ Mine (st ρ i (.lent d)) σ a := fun d q m => by
      have RL := R.lend1 q
      have hi : i < ρ.length := gt_len fun z => by rcases q with q | q <;> (rw [z] at q; cases q)
      obtain ⟨j, u, w⟩ := m
      have := RL.uniq j i a u (by rw [gt_st_same hi]; rfl) w x
      subst this
      rw [gt_st_same hi] at u
      cases u
    cases q : gt ρ i with
    | no => rw [q] at e; cases e
    | own d => simp only [backOf, q, lend]; exact lent1 d (.inl q)
    | mu d => simp only [backOf, q, lend]; exact lent1 d (.inr q)
    | lent d =>
      simp only [backOf, q, lend]
      rintro ⟨j, u, w⟩
      have := R.uniq j i a u (by rw [q]; rfl) w x
      subst this
      rw [q] at u
      cases u
    | fz d =>
      simp only [backOf, q, lend]
      rw [q] at e
      cases e
      obtain ⟨w, y, r⟩ := R.fz i _ q
      rw [x] at y
      cases y
      intro m
      cases r with
      | lst z _ _ => exact (R.mineChg m).2.1 z
theorem walks_lst {xs : List V} (R : Rel K g Z σ H ρ) (hx : H a = some (.lst xs)) (r : Reps K Z H xs ds) (n : ¬ Mine ρ σ a) : Walks K g Z σ H ρ (Itl K a) ds := by
  intro Z' σ' H' ρ' R' s
  have q : SqL K H' a xs := .inl (.inl (s.keep a _ hx n))
  have r' := s.reps R r
  refine ⟨fun i d e => ?_, fun i le => ⟨xs, q, by rw [r.length]; exact le⟩⟩
  obtain ⟨w, e1, rw'⟩ := r'.get e
  refine ⟨⟨xs, w, q, e1⟩, fun x H2 y => ?_⟩
  obtain ⟨y1, y2⟩ := y
  subst y1
  have e2 := y2 xs q
  rw [e1] at e2
  cases e2
  exact ⟨Ext.refl, rw'⟩
theorem walks_scr {ns : List Int} (R : Rel K g Z σ H ρ) (h : SqF K H a (ns.map V.int)) : Walks K g Z σ H ρ (Itl K a) (ns.map D.int) := by
  intro Z' σ' H' ρ' R' s
  have q : SqL K H' a (ns.map V.int) := SqF.sql ((s.mv R).f _ _ h)
  have r' : Reps K Z' H' (ns.map V.int) (ns.map D.int) := Reps.of_ints
  refine ⟨fun i d e => ?_, fun i le => ⟨_, q, by rw [r'.length]; exact le⟩⟩
  obtain ⟨w, e1, rw'⟩ := r'.get e
  refine ⟨⟨_, w, q, e1⟩, fun x H2 y => ?_⟩
  obtain ⟨y1, y2⟩ := y
  subst y1
  have e2 := y2 _ q
  rw [e1] at e2
  cases e2
  exact ⟨Ext.refl, rw'⟩
theorem walks_tup {xs : List V} (R : Rel K g Z σ H ρ) (hx : H a = some (.tup xs)) (r : Reps K Z H xs ds) : Walks K g Z σ H ρ (Itt K a) ds := by
  intro Z' σ' H' ρ' R' s
  have q : SqT K H' a xs := .inl (.inl ((s.mv R).t _ _ hx))
  have r' := s.reps R r
  refine ⟨fun i d e => ?_, fun i le => ⟨xs, q, by rw [r.length]; exact le⟩⟩
  obtain ⟨w, e1, rw'⟩ := r'.get e
  refine ⟨⟨xs, w, q, e1⟩, fun x H2 y => ?_⟩
  obtain ⟨y1, y2⟩ := y
  subst y1
  have e2 := y2 xs q
  rw [e1] at e2
  cases e2
  exact ⟨Ext.refl, rw'⟩
theorem walks_str {x : Str} (ok : SOk x.cps.toList) : Walks K g Z σ H ρ (Its x) (x.cps.toList.map fun c => .str [c]) := by
  intro Z' σ' H' ρ' R' s
  refine ⟨fun i d e => ?_, fun i le => ?_⟩
  · rw [List.getElem?_map] at e
    cases q : x.cps.toList[i]? with
    | none => rw [q] at e; cases e
    | some c =>
      rw [q] at e
      cases e
      have hi : i < x.cps.size := by
        have := (List.getElem?_eq_some_iff.mp q).1
        simpa using this
      refine ⟨hi, fun y H2 yl => ?_⟩
      obtain ⟨y1, c', y2, y3⟩ := yl
      subst y1
      have : x.cps.toList[i]? = some c' := by simpa using y2
      rw [q] at this
      cases this
      rw [y3]
      exact ⟨Ext.refl, Rep.str ⟨#[c]⟩ (fun c' m => by
        have : c' = c := by simpa using m
        rw [this]
        exact ok c (List.mem_of_getElem? q))⟩
  · simp at le
    exact le
end
section
variable {X : Cx} {g : G} {tg e e2 : Expr} {we : WE} {wa : WA} {p pos : Pos}
theorem di_seq (he : DE X g e we) : DI X g tg e (wiSeq we) := by
  refine ⟨(pi_any he.pe).imp fun σ H Q h => ?_⟩
  obtain ⟨Z, ρ, P, R, w, k⟩ := h
  refine ⟨Z, ρ, _, R, w, fun t v Z' H' ρ' R' s' o q => ?_⟩
  obtain ⟨d, ds, e1, e2, q⟩ := q
  have RL := R'.lendB (backOf_ok (t := t))
  cases d with
  | lst l =>
    cases e2
    obtain ⟨a, xs, rfl, hx, r, n⟩ := lst_still R' o e1
    exact .inl ⟨a, xs, rfl, .inl (.inl hx), k _ _ _ Z' H' ρ' R' s' backOf_ok (walks_lst RL hx r n) q⟩
  | tup l =>
    cases e2
    obtain ⟨a, xs, rfl, hx, r⟩ := (o.read R' e1).tup
    exact .inr (.inl ⟨a, xs, rfl, .inl (.inl hx), k _ _ _ Z' H' ρ' R' s' backOf_ok (walks_tup RL hx r) q⟩)
  | str l =>
    cases e2
    obtain ⟨x, rfl, rfl, so⟩ := (o.read R' e1).str
    exact .inr (.inr ⟨x, rfl, k _ _ _ Z' H' ρ' R' s' backOf_ok (walks_str so) q⟩)
  | scr l =>
    cases e2
    obtain ⟨a, rfl, sq⟩ := (o.read R' e1).scr
    exact .inl ⟨a, _, rfl, sq.sql, k _ _ _ Z' H' ρ' R' s' backOf_ok (walks_scr RL sq) q⟩
  | _ => cases e2

/-! ### ranges -/
def rng (lo : Int) (n : Nat) : List D := (List.range n).map fun (k : Nat) => D.int (lo + (k : Int))
def wiR1 (wa : WA) : WI := fun ρ P => wa ρ fun ts ρ1 => ∃ j : Int, rds ρ1 ts = some [.int j] ∧ (-(2 ^ 62) ≤ j ∧ j < 2 ^ 62) ∧ P (rng 0 j.toNat) none ρ1
def wiR2 (wa : WA) : WI := fun ρ P => wa ρ fun ts ρ1 => ∃ i j : Int, rds ρ1 ts = some [.int i, .int j] ∧ (-(2 ^ 62) ≤ i ∧ i < 2 ^ 62 ∧ -(2 ^ 62) ≤ j ∧ j < 2 ^ 62) ∧ P (rng i (j - i).toNat) none ρ1
theorem walks_rng {K : PySem.W.Frag} {Z : Addr → Prop} {σ : L2.St} {H : Hp} {ρ : Rho} {lo : Int} {n : Nat} : Walks K g Z σ H ρ (Itr lo n) (rng lo n) := by
  intro Z' σ' H' ρ' R' s
  refine ⟨fun i d e => ?_, fun i le => ?_⟩
  · have hi : i < n := by
      have := (List.getElem?_eq_some_iff.mp e).1
      simpa [rng] using this
    refine ⟨hi, fun y H2 yl => ?_⟩
    obtain ⟨y1, y2⟩ := yl
    subst y1
    have : d = .int (lo + i) := by
      simp [rng, hi] at e
      exact e.symm
    rw [this, y2]
    exact ⟨Ext.refl, Rep.int _⟩
  · simp [rng] at le
    exact le
theorem di_r1 (hg : Gl X "range") (hm : X.mg "range" = none) (ha : DA X g [e] wa) (hs : starEach [e] X.env = [(false, eval e X.env)] := by rfl) : DI X g tg (.Call (.Name "range" p) [e] [] pos) (wiR1 wa) := by
  refine ⟨(pi_range1 hg hm ha.pa hs).imp fun σ H Q h => ?_⟩
  obtain ⟨Z, ρ, P, R, w, k⟩ := h
  refine ⟨Z, ρ, _, R, w, fun ts vs Z' H' ρ' R' s' o q => ?_⟩
  obtain ⟨j, e1, ⟨e2, e3⟩, q⟩ := q
  obtain ⟨v, rfl, l⟩ := (o.read R' e1).one
  rw [l.int]
  exact ⟨j, rfl, e2, e3, k _ none _ Z' H' ρ' R' s' trivial walks_rng q⟩
theorem di_r2 (hg : Gl X "range") (hm : X.mg "range" = none) (ha : DA X g [e, e2] wa) (hs : starEach [e, e2] X.env = [(false, eval e X.env), (false, eval e2 X.env)] := by rfl) (hs2 : starEach [e2] X.env = [(false, eval e2 X.env)] := by rfl) :
    DI X g tg (.Call (.Name "range" p) [e, e2] [] pos) (wiR2 wa) := by
  refine ⟨(pi_range2 hg hm ha.pa hs hs2).imp fun σ H Q h => ?_⟩
  obtain ⟨Z, ρ, P, R, w, k⟩ := h
  refine ⟨Z, ρ, _, R, w, fun ts vs Z' H' ρ' R' s' o q => ?_⟩
  obtain ⟨i, j, e1, e2, q⟩ := q
  obtain ⟨v, u, rfl, l, l2⟩ := (o.read R' e1).two
  rw [l.int, l2.int]
  exact ⟨i, j, rfl, e2, k _ none _ Z' H' ρ' R' s' trivial walks_rng q⟩

/-! ### enumerate of a list -/
def numbered (ds : List D) : List D := (List.range ds.length).zipWith (fun k d => .tup [.int (k : Nat), d]) ds
def wiEnum (wa : WA) : WI := fun ρ P => wa ρ fun ts ρ1 => match ts with
  | [t] => ∃ ds, rd ρ1 t = some (.lst ds) ∧ P (numbered ds) (backOf t ρ1) (lend (backOf t ρ1) ρ1)
  | _ => False
theorem numbered_get {ds : List D} {i : Nat} {d : D} (h : (numbered ds)[i]? = some d) : ∃ e, ds[i]? = some e ∧ d = .tup [.int (i : Nat), e] := by
  unfold numbered at h
  rw [List.getElem?_zipWith] at h
  by_cases hi : i < ds.length
  · rw [List.getElem?_range hi, List.getElem?_eq_getElem hi] at h
    cases h
    exact ⟨_, List.getElem?_eq_getElem hi, rfl⟩
  · rw [List.getElem?_eq_none (by simpa using hi)] at h
    cases h
theorem walks_enum {K : PySem.W.Frag} {Z : Addr → Prop} {σ : L2.St} {H : Hp} {ρ : Rho} {a : Addr} {ds : List D} {xs : List V} (R : Rel K g Z σ H ρ) (hx : H a = some (.lst xs)) (r : Reps K Z H xs ds) (n : ¬ Mine ρ σ a) : Walks K g Z σ H ρ (Ite K a) (numbered ds) := by
  intro Z' σ' H' ρ' R' s
  have q : SqL K H' a xs := .inl (.inl (s.keep a _ hx n))
  have r' := s.reps R r
  refine ⟨fun i d e => ?_, fun i le => ⟨xs, q, by rw [r.length]; simpa [numbered] using le⟩⟩
  obtain ⟨e0, h0, rfl⟩ := numbered_get e
  obtain ⟨w, e1, rw'⟩ := r'.get h0
  refine ⟨⟨xs, w, q, e1⟩, fun x H2 y => ?_⟩
  obtain ⟨T, z, y1, y2, y3, y4⟩ := y
  have e2 := y4 xs q
  rw [e1] at e2
  cases e2
  rw [y3, y1]
  have ex : Ext H' (upd H' T (.tup [.int (i : Nat), w])) := Ext.new y2
  exact ⟨ex, .tup upd_same (.cons (.int _) (.cons (ex.rep rw') .nil))⟩
theorem di_enum {elts : List Expr} {kk : Nat} {tpos : Pos} (hg : Gl X "enumerate") (hm : X.mg "enumerate" = none) (ha : DA X g [e] wa) (hs : starEach [e] X.env = [(false, eval e X.env)] := by rfl) :
    DI X g (.Tuple elts kk tpos) (.Call (.Name "enumerate" p) [e] [] pos) (wiEnum wa) := by
  refine ⟨(pi_enum hg hm ha.pa hs).imp fun σ H Q h => ?_⟩
  obtain ⟨Z, ρ, P, R, w, k⟩ := h
  refine ⟨Z, ρ, _, R, w, fun ts vs Z' H' ρ' R' s' o q => ?_⟩
  match ts, o, q with
  | [t], o, q =>
    obtain ⟨ds, e1, q⟩ := q
    cases o with
    | cons o1 r1 _ =>
      cases r1
      obtain ⟨a, xs, rfl, hx, r, n⟩ := lst_still R' o1 e1
      exact ⟨a, xs, rfl, .inl (.inl hx), k _ _ _ Z' H' ρ' R' s' backOf_ok (walks_enum (R'.lendB backOf_ok) hx r n) q⟩

/-! ### zip of two lists, of two tuples -/
def paired (ds es : List D) : List D := ds.zipWith (fun d e => .tup [d, e]) es
def wiZip (wa : WA) : WI := fun ρ P => wa ρ fun ts ρ1 => capAll ts ρ1 fun ds ρ2 => match ds with
  | [.lst a, .lst b] => P (paired a b) none ρ2
  | [.tup a, .tup b] => P (paired a b) none ρ2
  | _ => False
theorem paired_get {ds es : List D} {i : Nat} {d : D} (h : (paired ds es)[i]? = some d) : ∃ a b, ds[i]? = some a ∧ es[i]? = some b ∧ d = .tup [a, b] := by
  unfold paired at h
  rw [List.getElem?_zipWith] at h
  split at h
  · rename_i a b e1 e2
    cases h
    exact ⟨a, b, e1, e2, rfl⟩
  · cases h
theorem zipA_two {elts : List Expr} {kk : Nat} {tpos : Pos} (hg : Gl X "zip") (hm : X.mg "zip" = none) (ha : DA X g [e, e2] wa) (hs : starEach [e, e2] X.env = (false, eval e X.env) :: starEach [e2] X.env := by rfl) (hpl : (backTo pos (starEach [e2] X.env)).any (·.1) = false := by rfl) :
    DI X g (.Tuple elts kk tpos) (.Call (.Name "zip" p) [e, e2] [] pos) (wiZip wa) := by
  refine ⟨(RZ.pi_zipA hg hm ha.pa hs hpl).imp fun σ H Q h => ?_⟩
  obtain ⟨Z, ρ, P, R, w, k⟩ := h
  refine ⟨Z, ρ, _, R, w, fun ts vs Z1 H' ρ1 R1 s1 o q => ?_⟩
  obtain ⟨ds, Z', ρ', q, R', s', rs, zz⟩ := capAll_ok R1 s1 o q
  match ds, rs, q with
  | [.lst la, .lst lb], rs, q =>
    cases rs with
    | cons r1 rr => cases rr with
      | cons r2 rr =>
        cases rr
        cases r1 with
        | @lst a xs _ z1 h1 p1 => cases r2 with
          | @lst b ys _ z2 h2 p2 =>
            refine ⟨a, b, xs, ys, rfl, .inl ⟨.inl (.inl h1), .inl (.inl h2), k _ none _ Z' H' ρ' R' s' trivial (fun Z2 σ2 H2 ρ2 R2 s2 => ?_) q⟩⟩
            have c1 : SqL X.K H2 a xs := .inl (.inl (s2.zk R' z1 h1))
            have c2 : SqL X.K H2 b ys := .inl (.inl (s2.zk R' z2 h2))
            refine ⟨fun i d e => ?_, fun i le => ⟨xs, ys, c1, c2, by rw [p1.length, p2.length]; simp [paired] at le; omega⟩⟩
            obtain ⟨da, db, e1, e2, rfl⟩ := paired_get e
            obtain ⟨wa, f1, g1⟩ := (s2.reps R' p1).get e1
            obtain ⟨wb, f2, g2⟩ := (s2.reps R' p2).get e2
            refine ⟨⟨xs, ys, wa, wb, c1, c2, f1, f2⟩, fun x H3 y => ?_⟩
            obtain ⟨T, x', y', y1, y2, y3, y4, y5⟩ := y
            have e3 := y4 xs c1
            have e4 := y5 ys c2
            rw [f1] at e3
            rw [f2] at e4
            cases e3
            cases e4
            rw [y3, y1]
            have ex : Ext H2 (upd H2 T (.tup [wa, wb])) := Ext.new y2
            exact ⟨ex, .tup upd_same (.cons (ex.rep g1) (.cons (ex.rep g2) .nil))⟩
  | [.tup la, .tup lb], rs, q =>
    cases rs with
    | cons r1 rr => cases rr with
      | cons r2 rr =>
        cases rr
        cases r1 with
        | @tup a xs _ h1 p1 => cases r2 with
          | @tup b ys _ h2 p2 =>
            refine ⟨a, b, xs, ys, rfl, .inr ⟨.inl (.inl h1), .inl (.inl h2), k _ none _ Z' H' ρ' R' s' trivial (fun Z2 σ2 H2 ρ2 R2 s2 => ?_) q⟩⟩
            have c1 : SqT X.K H2 a xs := .inl (.inl ((s2.mv R').t _ _ h1))
            have c2 : SqT X.K H2 b ys := .inl (.inl ((s2.mv R').t _ _ h2))
            refine ⟨fun i d e => ?_, fun i le => ⟨xs, ys, c1, c2, by rw [p1.length, p2.length]; simp [paired] at le; omega⟩⟩
            obtain ⟨da, db, e1, e2, rfl⟩ := paired_get e
            obtain ⟨wa, f1, g1⟩ := (s2.reps R' p1).get e1
            obtain ⟨wb, f2, g2⟩ := (s2.reps R' p2).get e2
            refine ⟨⟨xs, ys, wa, wb, c1, c2, f1, f2⟩, fun x H3 y => ?_⟩
            obtain ⟨T, x', y', y1, y2, y3, y4, y5⟩ := y
            have e3 := y4 xs c1
            have e4 := y5 ys c2
            rw [f1] at e3
            rw [f2] at e4
            cases e3
            cases e4
            rw [y3, y1]
            have ex : Ext H2 (upd H2 T (.tup [wa, wb])) := Ext.new y2
            exact ⟨ex, .tup upd_same (.cons (ex.rep g1) (.cons (ex.rep g2) .nil))⟩
end
end VS
namespace VS
open PySem PySem.Spec PyProof.Rows L2

/-! ### slots forgotten for a block -/
def wipeR : List Nat → Rho → Rho
  | [], ρ => ρ
  | v :: vs, ρ => st (wipeR vs ρ) v .no
/-- behind the block: what stood there for good is known again -/
def unw : List Nat → Rho → Rho → Rho
  | [], _, ρ => ρ
  | v :: vs, ρ0, ρ => st (unw vs ρ0 ρ) v (match gt ρ0 v with
    | .fz d => .fz d
    | _ => .no)
theorem gt_wipeR {ρ : Rho} {i : Nat} : ∀ {vs : List Nat}, gt (wipeR vs ρ) i = if i ∈ vs then .no else gt ρ i
  | [] => by simp [wipeR]
  | v :: vs => by
    simp only [wipeR]
    rw [gt_st, gt_wipeR (vs := vs)]
    by_cases e : v = i
    · subst e
      simp only [List.mem_cons, true_or, if_true, true_and]
      split
      · rfl
      · rename_i n
        have : gt (wipeR vs ρ) v = .no := Classical.byContradiction fun q => n (gt_len q)
        rw [gt_wipeR (vs := vs)] at this
        exact this
    · rw [if_neg (fun q => e q.1)]
      simp only [List.mem_cons]
      by_cases m : i ∈ vs
      · rw [if_pos m, if_pos (.inr m)]
      · rw [if_neg m, if_neg (fun q => q.elim (fun z => e z.symm) m)]
theorem wipeR_length {ρ : Rho} : ∀ {vs : List Nat}, (wipeR vs ρ).length = ρ.length
  | [] => rfl
  | v :: vs => by simp only [wipeR]; rw [st_length, wipeR_length (vs := vs)]
section
variable {K : PySem.W.Frag} {g : G} {Z Z' Z1 Z2 : Addr → Prop} {σ σ' σ1 σ2 : L2.St} {H H' H1 H2 Hs : Hp} {ρ ρ' ρ1 ρ2 : Rho} {a : Addr} {v : V} {d : D} {vs : List Nat} {i : Nat}
theorem gt_ne {s : Sl} (h : gt ρ i = s) (n : s ≠ .no) : gt ρ i ≠ .no := by rw [h]; exact n
/-- the same at every slot of which something is known -/
theorem Rel.agree (R : Rel K g Z σ H ρ) (l : σ'.length = σ.length) (e : ∀ i, gt ρ i ≠ .no → σ'[i]? = σ[i]?) : Rel K g Z σ' H ρ where
  len := by rw [l]; exact R.len
  fz := fun i d q => by rw [e i (gt_ne q fun z => nomatch z)]; exact R.fz i d q
  own := fun i d q => by rw [e i (gt_ne q fun z => nomatch z)]; exact R.own i d q
  mu := fun i d q => by rw [e i (gt_ne q fun z => nomatch z)]; exact R.mu i d q
  lent := fun i d q => by rw [e i (gt_ne q fun z => nomatch z)]; exact R.lent i d q
  uniq := fun i j a m u x y => by
    rw [e i (fun z => by rw [z] at m; cases m)] at x
    rw [e j (fun z => by rw [z] at u; cases u)] at y
    exact R.uniq i j a m u x y
  frame := R.frame
  zfr := R.zfr
  ztr := R.ztr
  mz := R.mz
  mt := R.mt
  mh := R.mh
theorem Step.agree (s : Step Z1 H1 σ1 ρ1 Z H σ ρ) (e : ∀ i, gt ρ i ≠ .no → σ'[i]? = σ[i]?) : Step Z1 H1 σ1 ρ1 Z H σ' ρ where
  keep := s.keep
  zin := s.zin
  znew := s.znew
  mine := fun b ⟨i, m, x⟩ => s.mine b ⟨i, m, by rw [← e i (fun z => by rw [z] at m; cases m)]; exact x⟩
  lent := fun i d q => by rw [e i (gt_ne q fun z => nomatch z)]; exact s.lent i d q
  mus := fun i d q => by rw [e i (gt_ne q fun z => nomatch z)]; exact s.mus i d q
  there := s.there
/-- less is known -/
theorem Rel.less (R : Rel K g Z σ H ρ) (l : ρ'.length = ρ.length) (e : ∀ i, gt ρ' i ≠ .no → gt ρ' i = gt ρ i) : Rel K g Z σ H ρ' where
  len := by rw [l]; exact R.len
  fz := fun i d q => R.fz i d (by rw [← e i (gt_ne q fun z => nomatch z)]; exact q)
  own := fun i d q => R.own i d (by rw [← e i (gt_ne q fun z => nomatch z)]; exact q)
  mu := fun i d q => R.mu i d (by rw [← e i (gt_ne q fun z => nomatch z)]; exact q)
  lent := fun i d q => R.lent i d (by rw [← e i (gt_ne q fun z => nomatch z)]; exact q)
  uniq := fun i j a m u x y => R.uniq i j a (by rw [← e i (fun z => by rw [z] at m; cases m)]; exact m) (by rw [← e j (fun z => by rw [z] at u; cases u)]; exact u) x y
  frame := R.frame
  zfr := R.zfr
  ztr := R.ztr
  mz := R.mz
  mt := R.mt
  mh := R.mh
theorem Step.less (s : Step Z1 H1 σ1 ρ1 Z H σ ρ) (e : ∀ i, gt ρ' i ≠ .no → gt ρ' i = gt ρ i) : Step Z1 H1 σ1 ρ1 Z H σ ρ' where
  keep := s.keep
  zin := s.zin
  znew := s.znew
  mine := fun b ⟨i, m, x⟩ => s.mine b ⟨i, by rw [← e i (fun z => by rw [z] at m; cases m)]; exact m, x⟩
  lent := fun i d q => s.lent i d (by rw [← e i (gt_ne q fun z => nomatch z)]; exact q)
  mus := fun i d q => s.mus i d (by rw [← e i (gt_ne q fun z => nomatch z)]; exact q)
  there := s.there
theorem wipeR_less (i : Nat) : gt (wipeR vs ρ) i ≠ .no → gt (wipeR vs ρ) i = gt ρ i := fun q => by
  rw [gt_wipeR] at q ⊢
  split
  · rename_i h; rw [if_pos h] at q; exact absurd rfl q
  · rfl
theorem wipeR_in (m : i ∈ vs) : gt (wipeR vs ρ) i = .no := by rw [gt_wipeR, if_pos m]
theorem wipe_agree (h : ∀ i, i ∈ vs → gt ρ i = .no) (i : Nat) : gt ρ i ≠ .no → (wipe σ vs)[i]? = σ[i]? := fun q => wipe_out fun m => q (h i m)
theorem Rel.wiped (R : Rel K g Z σ H ρ) (vs : List Nat) : Rel K g Z (wipe σ vs) H (wipeR vs ρ) :=
  (R.less wipeR_length wipeR_less).agree (wipe_length σ vs) (wipe_agree fun i m => wipeR_in m)
theorem Step.wiped (s : Step Z1 H1 σ1 ρ1 Z H σ ρ) (vs : List Nat) : Step Z1 H1 σ1 ρ1 Z H (wipe σ vs) (wipeR vs ρ) := (s.less wipeR_less).agree (wipe_agree fun i m => wipeR_in m)
theorem Rel.unwiped (R : Rel K g Z (wipe σ vs) H ρ) (h : ∀ i, i ∈ vs → gt ρ i = .no) : Rel K g Z σ H ρ :=
  R.agree (wipe_length σ vs).symm fun i q => (wipe_agree h i q).symm
theorem Step.unwiped (s : Step Z1 H1 σ1 ρ1 Z H (wipe σ vs) ρ) (h : ∀ i, i ∈ vs → gt ρ i = .no) : Step Z1 H1 σ1 ρ1 Z H σ ρ := s.agree fun i q => (wipe_agree h i q).symm
theorem set_same {w : V} (h : σ[i]? = some (some w)) : σ.set i (some w) = σ := by
  apply List.ext_getElem?
  intro j
  rw [set_get]
  split
  · rename_i q; rw [← q.1]; exact h.symm
  · rfl
theorem unw_ok (R0 : Rel K g Z1 σ H1 ρ1) (R : Rel K g Z σ H ρ) (s : Step Z1 H1 σ ρ1 Z H σ ρ) : ∀ {vs : List Nat}, Rel K g Z σ H (unw vs ρ1 ρ) ∧ Step Z1 H1 σ ρ1 Z H σ (unw vs ρ1 ρ)
  | [] => ⟨R, s⟩
  | v :: vs => by
    obtain ⟨R2, s2⟩ := unw_ok R0 R s (vs := vs)
    simp only [unw]
    split
    · rename_i d q
      obtain ⟨w, x, r⟩ := R0.fz v d q
      have e := set_same x
      have r2 := s.rep R0 r
      have R3 := R2.put (i := v) (y := .fz d) (w := w) (fun d' z => by cases z; exact r2) (fun _ z => nomatch z) (fun _ z => nomatch z) (fun _ z => nomatch z)
      have s3 := s2.put (i := v) (y := .fz d) (w := w) R2.len (fun _ z => nomatch z) (fun _ z => nomatch z) (fun _ z => nomatch z)
      rw [e] at R3 s3
      exact ⟨R3, s3⟩
    · have le : ∀ i, gt (st (unw vs ρ1 ρ) v .no) i ≠ .no → gt (st (unw vs ρ1 ρ) v .no) i = gt (unw vs ρ1 ρ) i := fun i n => by
        rw [gt_st] at n ⊢
        split
        · rename_i q; rw [if_pos q] at n; exact absurd rfl n
        · rfl
      exact ⟨R2.less (st_length _ _ _) le, s2.less le⟩
theorem used_unw {ρ0 : Rho} : ∀ {vs : List Nat}, Used (unw vs ρ0 ρ) σ a → Used ρ σ a
  | [], h => h
  | v :: vs, h => by
    simp only [unw] at h
    obtain ⟨j, u, e⟩ := h
    rw [gt_st] at u
    split at u
    · split at u <;> cases u
    · exact used_unw (vs := vs) ⟨j, u, e⟩

theorem Step.looseG {o : HO} (s : Step Z1 H1 σ1 ρ1 Z H σ ρ) (f : H1 a = none) : Step Z1 H1 σ1 ρ1 Z (upd H a o) σ ρ where
  keep := fun b u q n => by
    have ne : b ≠ a := fun k => by subst k; rw [f] at q; cases q
    rw [upd_ne ne]
    exact s.keep b u q n
  zin := s.zin
  znew := s.znew
  mine := s.mine
  lent := s.lent
  mus := s.mus
  there := fun b h => by
    by_cases k : b = a
    · subst k; rw [upd_same]; exact fun z => nomatch z
    · rw [upd_ne k]; exact s.there b h
/-! ### the list that grows -/
def AccOk (K : PySem.W.Frag) (Z : Addr → Prop) (σ : L2.St) (H : Hp) (ρ : Rho) (a : Addr) (d : D) : Prop := OwnAt K Z H a d ∧ ¬ Z a ∧ ¬ Used ρ σ a
theorem Step.usedG (s : Step Z H σ ρ Z' H' σ' ρ') (h : Used ρ' σ' a) : Used ρ σ a ∨ H a = none := by
  obtain ⟨i, u, e⟩ := h
  cases q : gt ρ' i with
  | lent d =>
    obtain ⟨l1, l2⟩ := s.lent i d q
    exact .inl ⟨i, by rw [l1]; rfl, by rw [← l2]; exact e⟩
  | own d =>
    rcases s.mine a ⟨i, by rw [q]; rfl, e⟩ with h | h
    · exact .inl h.used
    · exact .inr h
  | mu d =>
    rcases s.mine a ⟨i, by rw [q]; rfl, e⟩ with h | h
    · exact .inl h.used
    · exact .inr h
  | no => rw [q] at u; cases u
  | fz d => rw [q] at u; cases u
theorem AccOk.move (h : AccOk K Z σ H ρ a d) (R : Rel K g Z σ H ρ) (s : Step Z H σ ρ Z' H' σ' ρ') : AccOk K Z' σ' H' ρ' a d := by
  obtain ⟨o, z, u⟩ := h
  have nm : ¬ Mine ρ σ a := fun m => u m.used
  refine ⟨o.mono (s.mv R) fun w q => s.keep a w q nm, fun q => ?_, fun q => ?_⟩
  · rcases s.znew a q with h | h | h
    · exact z h
    · exact o.here h
    · exact nm h
  · rcases s.usedG q with h | h
    · exact u h
    · exact o.here h
theorem AccOk.wiped (h : AccOk K Z σ H ρ a d) : AccOk K Z (wipe σ vs) H (wipeR vs ρ) a d := by
  refine ⟨h.1, h.2.1, fun ⟨i, u, e⟩ => ?_⟩
  have n : gt (wipeR vs ρ) i ≠ .no := fun z => by rw [z] at u; cases u
  rw [wipeR_less i n] at u
  exact h.2.2 ⟨i, u, by rw [← wipe_agree (ρ := wipeR vs ρ) (σ := σ) (vs := vs) (fun i m => wipeR_in m) i n]; exact e⟩
theorem AccOk.grow {acc : List D} {w : V} {e : D} (h : AccOk K Z σ H ρ a (.lst acc)) (r : Rep K Z H w e) : ∃ xs, H a = some (.lst xs) ∧ xs.length = acc.length ∧ AccOk K Z σ (upd H a (.lst (xs ++ [w]))) ρ a (.lst (acc ++ [e])) := by
  obtain ⟨⟨xs, hx, rs⟩, z, u⟩ := h
  have lo : Loose Z H a := ⟨z, .inr (by rw [hx]; trivial)⟩
  exact ⟨xs, hx, rs.length, ⟨_, upd_same, (lo.reps rs).append (.cons (lo.rep r) .nil)⟩, z, u⟩
end

/-! ### targets inside a block: they store its own names alone -/
def liftGv (K : PySem.W.Frag) (g : G) (vs : List Nat) (w : WG) : TG := fun v σ H Q => ∃ Z ρ P d, Rel K g Z σ H ρ ∧ Rep K Z H v d ∧ w d ρ P ∧ ∀ σ' ρ', Rel K g Z σ' H ρ' → Step Z H σ ρ Z H σ' ρ' → wipe σ' vs = wipe σ vs → P ρ' → Q σ' H
def liftGvs (K : PySem.W.Frag) (g : G) (us : List Nat) (w : WGs) : TGs := fun vs σ H Q => ∃ Z ρ P ds, Rel K g Z σ H ρ ∧ Reps K Z H vs ds ∧ w ds ρ P ∧ ∀ σ' ρ', Rel K g Z σ' H ρ' → Step Z H σ ρ Z H σ' ρ' → wipe σ' us = wipe σ us → P ρ' → Q σ' H
structure DGv (X : Cx) (g : G) (vs : List Nat) (e : Expr) (w : WG) : Prop where
  pg : PG X e (liftGv X.K g vs w)
structure DGvs (X : Cx) (g : G) (vs : List Nat) (e : List Expr) (w : WGs) : Prop where
  pg : PGs X e (liftGvs X.K g vs w)
theorem wipe_at {j : Nat} {vs : List Nat} (m : j ∈ vs) (τ : L2.St) : (wipe τ vs)[j]? = if j < τ.length then some none else none := by
  by_cases l : j < τ.length
  · rw [if_pos l]
    have l' : j < (wipe τ vs).length := by rw [wipe_length]; exact l
    rw [List.getElem?_eq_getElem l']
    cases q : (wipe τ vs)[j] with
    | none => rfl
    | some y =>
      have e : (wipe τ vs)[j]? = some (some y) := by rw [List.getElem?_eq_getElem l', q]
      exact absurd m (wipe_some e).2
  · rw [if_neg l, List.getElem?_eq_none (by rw [wipe_length]; omega)]
theorem wipe_set {σ : L2.St} {i : Nat} {x : Option V} {vs : List Nat} (h : i ∈ vs) : wipe (σ.set i x) vs = wipe σ vs := by
  apply List.ext_getElem?
  intro j
  by_cases m : j ∈ vs
  · rw [wipe_at m, wipe_at m, List.length_set]
  · have ne : i ≠ j := fun e => by subst e; exact m h
    rw [wipe_out m, wipe_out m, List.getElem?_set_ne ne]
theorem wipe_wipe {σ : L2.St} {vs : List Nat} : wipe (wipe σ vs) vs = wipe σ vs := by
  apply List.ext_getElem?
  intro j
  by_cases m : j ∈ vs
  · rw [wipe_at m, wipe_at m, wipe_length]
  · rw [wipe_out m]
section
variable {X : Cx} {g : G} {vs : List Nat} {e : Expr} {pos : Pos}
theorem dgv_name {i : Nat} {x : Str} (hN : X.N.Nodup) (hi : X.N[i]? = some x) (hx : Loc X.env.scope x) (hv : i ∈ vs) (hf : X.fn x = true ∨ X.env.scope.names.lookup x = some .local := by first | exact .inl rfl | exact .inr rfl | assumption) : DGv X g vs (.Name x pos) (wgN i) := by
  refine ⟨PG.imp (pg_name hN hi hx hf) fun v σ H Q h => ?_⟩
  obtain ⟨Z, ρ, P, d, R, r, w, k⟩ := h
  exact k _ (st ρ i (.fz d)) (R.put (fun d' e => by cases e; exact r) (fun _ e => nomatch e) (fun _ e => nomatch e) (fun _ e => nomatch e)) (Step.refl.put R.len (fun _ e => nomatch e) (fun _ e => nomatch e) (fun _ e => nomatch e)) (wipe_set hv) w
theorem dgvs_nil : DGvs X g vs [] wgNil := by
  refine ⟨PGs.imp pgs_nil fun v σ H Q h => ?_⟩
  obtain ⟨Z, ρ, P, d, R, r, w, k⟩ := h
  cases d with
  | nil =>
    cases r
    exact ⟨rfl, k σ ρ R Step.refl rfl w⟩
  | cons _ _ => exact w.elim
theorem dgvs_cons {es : List Expr} {wg : WG} {wgs : WGs} (h1 : DGv X g vs e wg) (h2 : DGvs X g vs es wgs) (hs : (assignEach (e :: es) X.env).map (·.2) = assign e X.env :: (assignEach es X.env).map (·.2) := by rfl) : DGvs X g vs (e :: es) (wgCons wg wgs) := by
  refine ⟨PGs.imp (pgs_cons h1.pg h2.pg hs) fun v σ H Q h => ?_⟩
  obtain ⟨Z, ρ, P, d, R, r, w, k⟩ := h
  cases d with
  | nil => exact w.elim
  | cons d ds =>
    cases r with
    | cons r1 rr =>
      refine ⟨_, _, rfl, Z, ρ, _, d, R, r1, w, fun σ' ρ' R' s' e' q => ?_⟩
      exact ⟨Z, ρ', P, ds, R', rr, q, fun σ'' ρ'' R'' s'' e'' q'' => k σ'' ρ'' R'' (s'.trans s'') (e''.trans e') q''⟩
theorem dgv_tup {es : List Expr} {k : Nat} {wgs : WGs} {n : Nat} (hc : X.calm = true) (h : DGvs X g vs es wgs) (hn : (assignEach es X.env).length = n := by rfl) (hst : (assignEach es X.env).findIdx? (·.1) = none := by rfl) : DGv X g vs (.Tuple es k pos) (wgT n wgs) := by
  refine ⟨PG.imp (pg_tup hc h.pg hn hst) fun v σ H Q h => ?_⟩
  obtain ⟨Z, ρ, P, d, R, r, w, k⟩ := h
  cases d with
  | tup ds =>
    obtain ⟨w1, w2⟩ := w
    cases r with
    | tup e rr => exact ⟨_, _, rfl, .of e, rr.length.trans w1, Z, ρ, P, ds, R, rr, w2, k⟩
  | _ => exact w.elim
end

/-! ### the tests of a block -/
structure DTs (X : Cx) (g : G) (es : List Expr) (w : WT) : Prop where
  pt : PTs X es (liftT X.K g w)
theorem PTs.imp {X : Cx} {e : List Expr} {t t' : TT} (h : PTs X e t) (m : ∀ σ H Q, t' σ H Q → t σ H Q) : PTs X e t' := ⟨fun pins s σ H Q I q => h.run pins s σ H Q I (m σ H Q q)⟩
def wYes : WT := fun ρ P => P true ρ
theorem dts_nil {X : Cx} {g : G} : DTs X g [] wYes := by
  refine ⟨PTs.imp pts_nil fun σ H Q h => ?_⟩
  obtain ⟨Z, ρ, P, R, w, k⟩ := h
  exact k true Z H ρ R Step.refl w
theorem dts_one {X : Cx} {g : G} {c : Expr} {w : WT} (h : DT X g c w) : DTs X g [c] w := ⟨pts_one h.pt⟩

/-! ### a list comprehension -/
def wComp (wg : WG) (wt : WT) (we : WE) (vs : List Nat) (F : List D → Rho → Prop) : List D → List D → Rho → Prop
  | [], acc, ρ => F acc ρ
  | d :: ds, acc, ρ => wg d ρ fun ρ1 => wt ρ1 fun b ρ2 => br b (we ρ2 fun t ρ3 => cap t ρ3 fun e ρ4 => wComp wg wt we vs F ds (acc ++ [e]) (wipeR vs ρ4)) (wComp wg wt we vs F ds acc (wipeR vs ρ2))
def wLc (wi : WI) (wg : WG) (wt : WT) (we : WE) (vs : List Nat) : WE := fun ρ P => wi ρ fun ds b ρ1 => ds.length ≤ 16777216 ∧
  wComp wg wt we vs (fun acc ρ2 => P (.tmp (.lst acc)) (unl b (unw vs ρ1 ρ2))) ds [] (wipeR vs ρ1)
theorem lc_imp {K : PySem.W.Frag} {g : G} {wi : WI} {wg : WG} {wt : WT} {we : WE} {vs : List Nat} (σ : L2.St) (H : Hp) (Q : VK) (h : liftE K g (wLc wi wg wt we vs) σ H Q) : tLc (liftI K g wi) (liftGv K g vs wg) (liftT K g wt) (liftE K g we) vs σ H Q := by
  obtain ⟨Z, ρ, P, R, w, k⟩ := h
  refine ⟨Z, ρ, _, R, w, fun ds b J Z1 H1 ρm Rm sm bo wk q C hC => ?_⟩
  obtain ⟨hl, q⟩ := q
  have RL := Rm.lendB bo
  obtain ⟨f1, f2, f3⟩ := RL.fresh hC
  have lo : Loose Z1 H1 C := ⟨f1, .inl hC⟩
  let F : List D → Rho → Prop := fun acc ρ2 => P (.tmp (.lst acc)) (unl b (unw vs (lend b ρm) ρ2))
  refine ⟨fun i m H' => ∃ Z' ρ' acc, Rel K g Z' (wipe σ vs) H' ρ' ∧ Step Z1 H1 σ (lend b ρm) Z' H' (wipe σ vs) ρ' ∧ (∀ i, i ∈ vs → gt ρ' i = .no) ∧ AccOk K Z' (wipe σ vs) H' ρ' C (.lst acc) ∧ acc.length ≤ i ∧ i + m = ds.length ∧ wComp wg wt we vs F (ds.drop i) acc ρ',
    ⟨ds.length, Z1, _, [], (RL.loose f1 (.inl hC) f2 f3).wiped vs, (Step.refl.loose hC).wiped vs, fun i m => wipeR_in m, AccOk.wiped ⟨⟨[], upd_same, .nil⟩, f1, f2⟩, Nat.zero_le _, by omega, q⟩, fun i m H' hW => ?_⟩
  obtain ⟨Z', ρ', acc, R', s', nv, ac, la, le, w'⟩ := hW
  obtain ⟨wk1, wk2⟩ := wk Z' (wipe σ vs) H' ρ' R' s'
  cases m with
  | zero =>
    have e : i = ds.length := by omega
    subst e
    rw [List.drop_length] at w'
    have Ru := R'.unwiped nv
    have su := s'.unwiped nv
    obtain ⟨R2, s2⟩ := unw_ok RL Ru su (vs := vs)
    obtain ⟨R3, s3, u3⟩ := unl_ok Rm bo s2 R2
    refine .inl ⟨wk2 _ (Nat.le_refl _), k (.tmp (.lst acc)) (.ref C) Z' H' _ R3 (sm.trans s3) ⟨C, rfl, ac.1, ac.2.1, ?_, fun u => ac.2.2 ?_, f3⟩ w'⟩
    · exact Classical.byContradiction fun z => sm.there C z hC
    · obtain ⟨j, u1, u2⟩ := used_unw (u3 C u)
      exact ⟨j, u1, by rw [wipe_agree nv j (fun z => by rw [z] at u1; cases u1)]; exact u2⟩
  | succ m =>
    have hi : i < ds.length := by omega
    rw [List.drop_eq_getElem_cons hi] at w'
    obtain ⟨go, yl⟩ := wk1 i ds[i] (List.getElem?_eq_getElem hi)
    refine .inr ⟨go, fun H'' => ∃ m', m' < m + 1 ∧ ∃ Z' ρ' acc, Rel K g Z' (wipe σ vs) H'' ρ' ∧ Step Z1 H1 σ (lend b ρm) Z' H'' (wipe σ vs) ρ' ∧ (∀ i, i ∈ vs → gt ρ' i = .no) ∧ AccOk K Z' (wipe σ vs) H'' ρ' C (.lst acc) ∧ acc.length ≤ i + 1 ∧ (i + 1) + m' = ds.length ∧ wComp wg wt we vs F (ds.drop (i + 1)) acc ρ',
      fun H'' h => h, fun x H2 y => ?_⟩
    obtain ⟨ex, rx⟩ := yl x H2 y
    refine ⟨Z', ρ', _, _, ex.rel R', rx, w', fun σ2 ρ2 R2 s2 ew0 q2 => ⟨ew0.trans wipe_wipe, ?_⟩⟩
    have ew := ew0.trans wipe_wipe
    have ac2 := (ac.move R' ex.step).move (ex.rel R') s2
    have s3 := (s'.trans ex.step).trans s2
    refine ⟨Z', ρ2, _, R2, q2, fun bb Z3 H3 ρ3 R3 s4 q3 => ?_⟩
    have ac3 := ac2.move R2 s4
    cases bb with
    | false =>
      refine ⟨m, by omega, Z3, wipeR vs ρ3, acc, ?_, ?_, fun i m => wipeR_in m, ?_, by omega, by omega, q3.2 rfl⟩
      · rw [← ew]; exact R3.wiped vs
      · rw [← ew]; exact (s3.trans s4).wiped vs
      · rw [← ew]; exact ac3.wiped
    | true =>
      refine ⟨Z3, ρ3, _, R3, q3.1 rfl, fun t v Z4 H4 ρ4 R4 s5 o q4 => ?_⟩
      obtain ⟨e, Z5, ρ5, q5, R5, s6, re, zz, _⟩ := cap_ok R4 s5 o q4
      have ac5 := ac3.move R3 s6
      obtain ⟨xs, hx, lx, ac6⟩ := ac5.grow re
      have f5 : g.H0 C = none := f3
      refine ⟨xs, hx, by rw [lx, sizeLine_eq]; omega, m, by omega, Z5, wipeR vs ρ5, acc ++ [e], ?_, ?_, fun i m => wipeR_in m, ?_, ?_, by omega, q5⟩
      · rw [← ew]; exact (R5.loose ac5.2.1 (.inr (by rw [hx]; trivial)) ac5.2.2 f5).wiped vs
      · rw [← ew]; exact (((s3.trans s4).trans s6).looseG hC).wiped vs
      · rw [← ew]; exact ac6.wiped
      · simp; omega
section
variable {X : Cx} {g : G} {elt tg iter : Expr} {ifs : List Expr} {scope : Scope} {own : List (Str × Nat)} {pos spos : Pos} {wi : WI} {wg : WG} {wt : WT} {we : WE}
theorem de_lc (hc : X.calm = true) (hN : X.N.Nodup) (hi : DI X g tg iter wi) (ok : BlkOk X.N X.env.scope scope own)
    (hg : ∀ (s : Shared) (H : Hp) (C : Addr) (cl : List (Str × Addr)) (fp : List Addr), DGv (X.blk s H scope (compEnvC scope cl C X.env) fp) g (own.map (·.2)) tg wg) (ht : ∀ (s : Shared) (H : Hp) (C : Addr) (cl : List (Str × Addr)) (fp : List Addr), DTs (X.blk s H scope (compEnvC scope cl C X.env) fp) g ifs wt)
    (he : ∀ (s : Shared) (H : Hp) (C : Addr) (cl : List (Str × Addr)) (fp : List Addr), DE (X.blk s H scope (compEnvC scope cl C X.env) fp) g elt we) (hs : ∀ x, foldedSetIterable iter X.env x = pure x := by intro _; rfl) :
    DE X g (.ListComp elt [⟨tg, iter, ifs, 0⟩] scope pos) (wLc wi wg wt we (own.map (·.2))) :=
  ⟨(pe_lc (g := liftGv X.K g (own.map (·.2)) wg) (tt := liftT X.K g wt) (te := liftE X.K g we) hc hN hi.pi ok (fun s H C cl fp => (hg s H C cl fp).pg) (fun s H C cl fp => (ht s H C cl fp).pt) (fun s H C cl fp => (he s H C cl fp).pe) hs).imp lc_imp⟩
theorem ds_asgLc {i : Nat} {y : Str} {py : Pos} (hc : X.calm = true) (hN : X.N.Nodup) (hy : X.N[i]? = some y) (hyl : X.env.scope.names.lookup y = some .local)
    (hsw : swapsWith (.ListComp elt [⟨tg, iter, ifs, 0⟩] scope pos) (some (.Name y py)) spos.line X.env = pure true) (hi : DI X g tg iter wi) (ok : BlkOk X.N X.env.scope scope own)
    (hg : ∀ (s : Shared) (H : Hp) (C : Addr) (cl : List (Str × Addr)) (fp : List Addr), DGv (X.blk s H scope (compEnvC scope cl C X.env) fp) g (own.map (·.2)) tg wg) (ht : ∀ (s : Shared) (H : Hp) (C : Addr) (cl : List (Str × Addr)) (fp : List Addr), DTs (X.blk s H scope (compEnvC scope cl C X.env) fp) g ifs wt)
    (he : ∀ (s : Shared) (H : Hp) (C : Addr) (cl : List (Str × Addr)) (fp : List Addr), DE (X.blk s H scope (compEnvC scope cl C X.env) fp) g elt we) (hs : ∀ x, foldedSetIterable iter X.env x = pure x := by intro _; rfl) :
    DS X g (.Assign [.Name y py] (.ListComp elt [⟨tg, iter, ifs, 0⟩] scope pos) spos) (wAsg i (wLc wi wg wt we (own.map (·.2)))) := by
  refine ⟨(ps_setLc (g := liftGv X.K g (own.map (·.2)) wg) (tt := liftT X.K g wt) (te := liftE X.K g we) hc hN hy hyl hsw hi.pi ok (fun s H C cl fp => (hg s H C cl fp).pg) (fun s H C cl fp => (ht s H C cl fp).pt) (fun s H C cl fp => (he s H C cl fp).pe) hs).imp fun D σ H h => ?_⟩
  obtain ⟨Z, ρ, P, R, w, k, _⟩ := h
  have aim : liftE X.K g (wLc wi wg wt we (own.map (·.2))) σ H fun x H1 => D.nx (σ.set i (some x)) H1 := by
    refine ⟨Z, ρ, _, R, w, fun t v Z' H' ρ' R' s' o' q' => ?_⟩
    obtain ⟨Z2, ρ2, q2, R2, s2⟩ := store_ok R' s' o' q'
    exact k Z2 _ H' ρ2 R2 s2 q2
  exact lc_imp σ H _ aim
end
end VS
namespace VS
open PySem PySem.Spec PyProof.Rows L2

/-! ### n += e, n -= e of ints -/
def wAug (h : Int → Int → Int) (i : Nat) (we : WE) : WS := fun P ρ => (∃ a, gt ρ i = .fz (.int a)) ∧ we ρ fun t ρ1 => match rd ρ1 t, gt ρ i with
  | some (.int b), .fz (.int a) => P.nx (st ρ1 i (.fz (.int (h a b))))
  | _, _ => False
section
variable {X : Cx} {g : G} {e : Expr} {we : WE} {pos : Pos}
theorem ds_aug {h : Int → Int → Int} {op : Operator} {i : Nat} {x : Str} {p : Pos} (hip : PIp X op (ipI h)) (hN : X.N.Nodup) (hi : X.N[i]? = some x) (hx : Loc X.env.scope x) (he : DE X g e we) (hf : X.fn x = true ∨ X.env.scope.names.lookup x = some .local := by first | exact .inl rfl | exact .inr rfl | assumption) :
    DS X g (.AugAssign (.Name x p) op e pos) (wAug h i we) := by
  refine ⟨(ps_aug hN hi hx he.pe hip hf).imp fun D σ H q => ?_⟩
  obtain ⟨Z, ρ, P, R, w, k, _⟩ := q
  obtain ⟨⟨a, ea⟩, w⟩ := w
  obtain ⟨v, ev, rv⟩ := R.fz i _ ea
  cases rv
  refine ⟨.int a, ev, Z, ρ, _, R, w, fun t u Z' H' ρ' R' s' o q => ?_⟩
  rw [ea] at q
  cases c : rd ρ' t with
  | none => rw [c] at q; exact q.elim
  | some d =>
    rw [c] at q
    cases d with
    | int b =>
      have l := o.read R' c
      have e2 : u = .int b := l.int
      subst e2
      refine ⟨a, b, rfl, rfl, ?_⟩
      exact k Z' _ H' _ (R'.put (i := i) (y := .fz (.int (h a b))) (w := .int (h a b)) (fun d' e => by cases e; exact .int _) (fun _ e => nomatch e) (fun _ e => nomatch e) (fun _ e => nomatch e))
        (s'.put R'.len (fun _ e => nomatch e) (fun _ e => nomatch e) (fun _ e => nomatch e)) q
    | _ => exact q.elim
end
end VS
namespace VS
open PySem PySem.Spec PyProof.Rows L2

/-- the built-in names that the text does not write -/
structure Bls (mg : Str → Option Value) : Prop where
  len : mg "len" = none
  int : mg "int" = none
  list : mg "list" = none
  tuple : mg "tuple" = none
  sorted : mg "sorted" = none
  range : mg "range" = none
  all : mg "all" = none
  any : mg "any" = none
  sum : mg "sum" = none
  max : mg "max" = none
  min : mg "min" = none
  repr : mg "repr" = none
  isinstance : mg "isinstance" = none
  str : mg "str" = none
  bool : mg "bool" = none
  enumerate : mg "enumerate" = none
  zip : mg "zip" = none
/-- a def of the text that is known by its promise -/
structure Dn (P : Program) (w : World) (K : PySem.W.Frag) (mg : Str → Option Value) (base : Heap) (k : Nat) (x : Str) (ms : List Md) (sp : DSp) : Prop where
  ex : ∃ f fd ps, mg x = some (.ref f) ∧ PySem.W.keepIn K (.ref f) = true ∧ Binds K fd ps [] ∧ FnOk P w K mg base CX0 k f fd ps (liftSp K ms sp)
theorem Dn.mono {P : Program} {w : World} {K : PySem.W.Frag} {mg : Str → Option Value} {base : Heap} {j k : Nat} {x : Str} {ms : List Md} {sp : DSp} (d : Dn P w K mg base j x ms sp) (h : j ≤ k) : Dn P w K mg base k x ms sp := by
  obtain ⟨f, fd, ps, a, b, c, F⟩ := d.ex
  exact ⟨f, fd, ps, a, b, c, F.mono h⟩
theorem Dn.imp {P : Program} {w : World} {K : PySem.W.Frag} {mg : Str → Option Value} {base : Heap} {k : Nat} {x : Str} {ms : List Md} {sp sp' : DSp} (d : Dn P w K mg base k x ms sp) (m : ∀ ds Q, sp' ds Q → sp ds Q) : Dn P w K mg base k x ms sp' := by
  obtain ⟨f, fd, ps, a, b, c, F⟩ := d.ex
  exact ⟨f, fd, ps, a, b, c, fn_imp F m⟩
section
variable {X : Cx} {g : G} {pos p : Pos} {x : Str} {e : Expr} {es : List Expr} {wa : WA} {k : Nat} {ms : List Md} {sp : DSp} {vs : List Nat}
theorem dv (i : Nat) (hN : X.N[i]? = some x := by rfl) (hv : Vis X.env.scope x := by first | exact Or.inl rfl | exact Or.inr (Or.inl rfl) | exact Or.inr (Or.inr rfl)) (hd : (x == ("__debug__" : Str)) = false := by decide)
    (hcd : (x == ("__classdict__" : Str)) = false := by decide) : DE X g (.Name x pos) (wVar i) := de_var hN hv hd hcd
theorem dgn (hN : X.N.Nodup) (i : Nat) (hi : X.N[i]? = some x := by rfl) (hx : Loc X.env.scope x := by first | exact Or.inl rfl | exact Or.inr rfl) (hf : X.fn x = true ∨ X.env.scope.names.lookup x = some .local := by first | exact .inl rfl | exact .inr rfl) : DG X g (.Name x pos) (wgN i) := dg_name hN hi hx hf
theorem dgnv (hN : X.N.Nodup) (i : Nat) (hv : i ∈ vs := by decide) (hi : X.N[i]? = some x := by rfl) (hx : Loc X.env.scope x := by first | exact Or.inl rfl | exact Or.inr rfl) (hf : X.fn x = true ∨ X.env.scope.names.lookup x = some .local := by first | exact .inl rfl | exact .inr rfl) : DGv X g vs (.Name x pos) (wgN i) := dgv_name hN hi hx hv hf
theorem dsa {we : WE} (hN : X.N.Nodup) (i : Nat) (he : DE X g e we) (hi : X.N[i]? = some x := by rfl) (hx : Loc X.env.scope x := by first | exact Or.inl rfl | exact Or.inr rfl) (hs : swapsWith e (some (.Name x p)) pos.line X.env = pure false := by rfl)
    (hf : X.fn x = true ∨ X.env.scope.names.lookup x = some .local := by first | exact .inl rfl | exact .inr rfl) : DS X g (.Assign [.Name x p] e pos) (wAsg i we) := ds_asg hN hi hx he hs hf
theorem dsg {we : WE} {h : Int → Int → Int} {op : Operator} (hN : X.N.Nodup) (i : Nat) (hip : PIp X op (ipI h)) (he : DE X g e we) (hi : X.N[i]? = some x := by rfl) (hx : Loc X.env.scope x := by first | exact Or.inl rfl | exact Or.inr rfl)
    (hf : X.fn x = true ∨ X.env.scope.names.lookup x = some .local := by first | exact .inl rfl | exact .inr rfl) : DS X g (.AugAssign (.Name x p) op e pos) (wAug h i we) := ds_aug hip hN hi hx he hf
theorem dcall (d : Dn X.prog X.w X.K X.mg X.base k x ms sp) (hr : Room k X.A) (ha : DA X g (e :: es) wa) (hn : ms.all Md.no = true := by rfl) (hg : Gl X x := by rfl)
    (hdb : (x == ("__debug__" : Str)) = false := by decide) (he : starEach (e :: es) X.env = (false, eval e X.env) :: starEach es X.env := by rfl) (hpl : (backTo pos (starEach es X.env)).any (·.1) = false := by rfl) :
    DE X g (.Call (.Name x p) (e :: es) [] pos) (wCall ms sp wa) := by
  obtain ⟨f, fd, ps, a, b, c, F⟩ := d.ex
  exact de_call F hn hr hg a b c ha hdb he hpl
theorem dcallM (n : Nat) (d : Dn X.prog X.w X.K X.mg X.base k x ms sp) (hr : Room k X.A) (ha : DA X g (e :: es) wa) (h1 : ms[n]? = some Md.mu := by rfl) (h2 : muOnly n ms = true := by rfl) (hg : Gl X x := by rfl)
    (hdb : (x == ("__debug__" : Str)) = false := by decide) (he : starEach (e :: es) X.env = (false, eval e X.env) :: starEach es X.env := by rfl) (hpl : (backTo pos (starEach es X.env)).any (·.1) = false := by rfl) :
    DE X g (.Call (.Name x p) (e :: es) [] pos) (wCallM n ms sp wa) := by
  obtain ⟨f, fd, ps, a, b, c, F⟩ := d.ex
  exact de_callM F h1 h2 hr hg a b c ha hdb he hpl
end
/-- a def of the text, by its body -/
theorem dn_of {P : Program} {w : World} {K : PySem.W.Frag} {mg : Str → Option Value} {base : Heap} {x : Str} {st : Stmt} {f : Addr} {fd : FuncData} {N ps : List Str} {k : Nat} (F : Fun K x x st f fd) (hm : mg x = some (.ref f)) (hb : Binds K fd ps []) (S : FnScope N ps (defScope st)) (ms : List Md) (hms : ms.length = ps.length) (wb : WS)
    (hbody : ∀ (cdv : Value) (A : Around) (outer : List Env) (s : Shared) (H : Hp) (E : XK) (g : G), Room k (A.deeper (envOfC x (defScope st) s.heap.objs.size f cdv)) → DSs (cxOf CX0 P w K mg base N x (defScope st) f cdv A outer s H E).nox g (defBody st) wb) :
    Dn P w K mg base (k + 1) x ms (bodySp ms N.length wb) := ⟨f, fd, ps, hm, F.kp, hb, fn_vs F S ms hms wb hbody⟩
theorem room65 {k : Nat} {A : Around} (r : Room k A) : A.units + 65 < cLine := by have := r.un; omega
end VS
set_option maxHeartbeats 2000000
namespace VS
open PySem PySem.Spec PyProof.Rows L2

/-! ### a set of ints and texts, with what its walk needs -/
def SetM (P : Program) (w : World) (h : Heap) (a : Addr) (ks : List Key) : Prop :=
  ∃ o es ep t, h.get? a = some o ∧ o.ExactSet ∧ o.data = .set es ep t ∧ ElemsOf (mixKind P w) es.toList ∧ Paired (fun (e : Int × Value) k => keyIs k e.2 = true) es.toList ks ∧ ks.Nodup ∧
    es.size < scanBound ∧ t.fits es.size = true ∧ Ris t.place.toList ∧ (w.params.followText "set-order" = true ∨ t.led = true)
theorem paired_perm {α β : Type} {F : α → β → Prop} {l m : List α} (p : l.Perm m) : ∀ {ks : List β}, Paired F m ks → ∃ js, Paired F l js ∧ js.Perm ks := by
  induction p with
  | nil => intro ks h; exact ⟨ks, h, .refl _⟩
  | cons x _ ih =>
    intro ks h
    cases h with
    | cons r t =>
      obtain ⟨js, a, b⟩ := ih t
      exact ⟨_ :: js, .cons r a, b.cons _⟩
  | swap x y l =>
    intro ks h
    cases h with
    | cons r t => cases t with
      | cons r2 t2 => exact ⟨_, .cons r2 (.cons r t2), .swap _ _ _⟩
  | trans _ _ i1 i2 =>
    intro ks h
    obtain ⟨js, a, b⟩ := i2 h
    obtain ⟨is, c, d⟩ := i1 a
    exact ⟨is, c, d.trans b⟩
theorem paired_app {α β : Type} {F : α → β → Prop} : ∀ {l m : List α} {ks js : List β}, Paired F l ks → Paired F m js → Paired F (l ++ m) (ks ++ js)
  | _, _, _, _, .nil, s => s
  | _, _, _, _, .cons r t, s => .cons r (paired_app t s)
theorem key_one {j k : Key} {v : Value} (a : keyIs j v = true) (b : keyIs k v = true) : j = k := by
  rcases keyIs_shape a with ⟨i, t, rfl, rfl⟩ | ⟨x, t, rfl, rfl⟩
  · rcases keyIs_shape b with ⟨i', t', rfl, e⟩ | ⟨x', t', rfl, e⟩
    · cases e; rfl
    · cases e
  · rcases keyIs_shape b with ⟨i', t', rfl, e⟩ | ⟨x', t', rfl, e⟩
    · cases e
    · cases e; rfl
theorem paired_mem {es : List (Int × Value)} {ks : List Key} (p : Paired (fun (e : Int × Value) k => keyIs k e.2 = true) es ks) (k : Key) : k ∈ ks ↔ ∃ e ∈ es, keyIs k e.2 = true := by
  induction p with
  | nil => simp
  | @cons e j l m r _ ih =>
    simp only [List.mem_cons, ih]
    constructor
    · rintro (rfl | ⟨e', m, q⟩)
      · exact ⟨e, .inl rfl, r⟩
      · exact ⟨e', .inr m, q⟩
    · rintro ⟨e', rfl | m, q⟩
      · exact .inl (key_one q r)
      · exact .inr ⟨e', m, q⟩
theorem paired_len {α β : Type} {F : α → β → Prop} {l : List α} {m : List β} (p : Paired F l m) : l.length = m.length := Paired.length p
theorem scan_key {k : Key} {v : Value} (h : keyIs k v = true) : v.scannable = true := by
  rcases keyIs_shape h with ⟨i, t, rfl, rfl⟩ | ⟨x, t, rfl, rfl⟩ <;> rfl
section
variable {P : Program} {w : World} {h h' : Heap} {a : Addr} {ks : List Key} {A : Around} {E : Value → Shared → Prop} {s : Shared}
theorem SetM.at (R : SetM P w h a ks) (k : ∀ o, h.get? a = some o → h'.get? a = some o) : SetM P w h' a ks := by
  obtain ⟨o, es, ep, t, ho, r⟩ := R
  exact ⟨o, es, ep, t, k o ho, r⟩
theorem setM_fresh (P : Program) (w : World) : SetM P w (h.push { cls := .type "set", dict := none, data := .set #[] 0 (.fresh 0 0 (!w.params.followText "set-order")) }) h.objs.size [] := by
  refine ⟨_, #[], 0, _, Heap.get?_push_size _ rfl, ⟨rfl, rfl, rfl⟩, rfl, fun e m => absurd m (by simp), .nil, .nil, by decide, rfl, .nil, ?_⟩
  cases e : w.params.followText "set-order" with
  | true => exact .inl rfl
  | false => exact .inr rfl
/-- what is laid down at the end of an add -/
theorem setM_store {g : Bool → Sem Unit} (hg : ∀ (b : Bool) (s1 : Shared) (R : Unit → Shared → Prop), R () s1 → wpAny (model P w) A (g b) R E s1) {o : Obj} {es es1 : Array (Int × Value)} {ep : Nat} {t t2 : SetTable} {js : List Key}
    (ho : s.heap.get? a = some o) (hx : o.ExactSet) (hd : o.data = .set es ep t) (el : ElemsOf (mixKind P w) es1.toList) (pr : Paired (fun (e : Int × Value) k => keyIs k e.2 = true) es1.toList js) (nd : js.Nodup)
    (hb : es1.size < scanBound) (hf : t2.fits es1.size = true) (hr : Ris t2.place.toList) (hl : w.params.followText "set-order" = true ∨ t2.led = true) {dm : Bool} {R : Option Bool → Shared → Prop}
    (fin : ∀ h' is, Heap.SameBut a s.heap h' → SetM P w h' a is → is.Perm js → R (some true) { s with heap := h' }) :
    wpAny (model P w) A (do
        storeSet a es1 t2
        if (!dm && t2.tooFull) = true then do
            g (relayAll t2 es1 (SetTable.grown es1.size)).2.2
            storeSet a (relayAll t2 es1 (SetTable.grown es1.size)).1 (relayAll t2 es1 (SetTable.grown es1.size)).2.1
            pure (some true)
          else pure (some true)) R E s := by
  refine wpAny_bind (wpAny_storeSet_of ho hd ?_ (fits_of_scanBound hb))
  have o1 := store_at (es' := es1) (t' := t2) ho hd
  have b1 := Heap.SameBut.update s.heap a (Obj.putSet es1 t2)
  split
  · obtain ⟨is, p1, p2⟩ := paired_perm (relayAll_perm t2 es1 (SetTable.grown es1.size)) pr
    have el2 := el.perm (relayAll_perm t2 es1 (SetTable.grown es1.size))
    have f2 := relayAll_fits t2 es1 (SetTable.grown es1.size)
    have r2 := relayAll_ris t2 es1 (SetTable.grown es1.size)
    have l2 := relayAll_led t2 es1 (SetTable.grown es1.size)
    have sz : (relayAll t2 es1 (SetTable.grown es1.size)).1.size = es1.size := by
      have := (relayAll_perm t2 es1 (SetTable.grown es1.size)).length_eq
      simpa using this
    have hb2 := hb
    rw [← sz] at hb2
    refine wpAny_bind (hg _ _ _ (wpAny_bind (wpAny_storeSet_of o1 rfl ?_ (fits_of_scanBound hb2))))
    refine wpAny_pure (fin _ is (b1.trans (Heap.SameBut.update _ a _)) ⟨_, _, _, _, store_at o1 rfl, hx, rfl, el2, p1, p2.nodup_iff.mpr nd, hb2, f2, r2, ?_⟩ p2)
    exact hl.imp id fun z => by rw [l2]; exact z
  · exact wpAny_pure (fin _ js b1 ⟨_, _, _, _, o1, hx, rfl, el, pr, nd, hb, hf, hr, hl⟩ (.refl _))
def hasK (k : Key) (l : List Key) : Bool := l.any fun j => decide (j = k)
theorem hasK_iff {k : Key} {l : List Key} : hasK k l = true ↔ k ∈ l := by
  unfold hasK
  rw [List.any_eq_true]
  constructor
  · rintro ⟨j, m, e⟩
    rw [← of_decide_eq_true e]
    exact m
  · exact fun m => ⟨k, m, decide_eq_true rfl⟩
def insK (k : Key) (l : List Key) : List Key := if hasK k l = true then l else l ++ [k]
theorem setM_hashed {k : Key} {x : Value} {Q : Bool → Shared → Prop} (hk : keyIs k x = true) (R : SetM P w s.heap a ks) (room : ks.length + 1 < scanBound)
    (hQ : ∀ h' is b, Heap.SameBut a s.heap h' → SetM P w h' a is → is.Perm (insK k ks) → Q b { s with heap := h' }) : wpAny (model P w) A (setAddHashed a x ((mixKind P w).hash k)) Q E s := by
  obtain ⟨o, es, ep, t, ho, hx, hd, el, pr, nd, hb, hf, hr, hl⟩ := R
  have sc := scan_key hk
  have key : (mixKind P w).is k x = true := hk
  have none_ok : ∀ (b : Bool) {s1 : Shared} {R : Unit → Shared → Prop}, R () s1 → wpAny (model P w) A (match b with | true => rule "set.scan.the-table-gave-way" | false => pure ()) R E s1 := fun b s1 R q => by
    cases b with
    | true => exact wpAny_rule q
    | false => exact wpAny_pure q
  unfold setAddHashed setAddHashedIn
  refine wpAny_holding (wpAny_bind (wpAny_setState_of ho hd hf ?_))
  dsimp only
  rw [byScan_of sc hb el]
  simp only [↓reduceIte]
  unfold setAddByScan
  refine wpAny_bind (wpAny_bind (wpAny_rule (wpAny_bind (wpAny_setScan_of key ho hd hf el ?_))))
  cases fi : List.findIdx? (fun e => (mixKind P w).is k e.2) es.toList with
  | some j =>
    dsimp only
    obtain ⟨hj, pj, _⟩ := List.findIdx?_eq_some_iff_getElem.mp fi
    have m : k ∈ ks := (paired_mem pr k).2 ⟨es.toList[j], List.getElem_mem hj, pj⟩
    refine wpAny_pure (wpAny_pure (hQ s.heap ks _ (Heap.SameBut.refl a s.heap) ⟨o, es, ep, t, ho, hx, hd, el, pr, nd, hb, hf, hr, hl⟩ ?_))
    rw [insK, if_pos (hasK_iff.2 m)]
  | none =>
    dsimp only
    have nm : k ∉ ks := fun m => by
      obtain ⟨e, he, q⟩ := (paired_mem pr k).1 m
      have := List.findIdx?_eq_none_iff.mp fi e he
      rw [show (mixKind P w).is k e.2 = true from q] at this
      cases this
    have pm := layNew_perm t es ((mixKind P w).hash k) x
    have f1 := layNew_fits t es ((mixKind P w).hash k) x
    have r1 := layNew_ris t es ((mixKind P w).hash k) x hr
    have l1 := layNew_led t es ((mixKind P w).hash k) x
    generalize layNew t es ((mixKind P w).hash k) x = Y at pm f1 r1 l1 ⊢
    obtain ⟨es1, t1, dm, gave⟩ := Y
    dsimp only at pm f1 r1 l1 ⊢
    rw [Array.toList_push] at pm
    obtain ⟨js, p1, p2⟩ := paired_perm pm (paired_app pr (Paired.cons (F := fun (e : Int × Value) k => keyIs k e.2 = true) (a := ((mixKind P w).hash k, x)) (b := k) hk .nil))
    have el1 : ElemsOf (mixKind P w) es1.toList := (ElemsOf.push el key sc).perm pm
    have nd1 : js.Nodup := p2.nodup_iff.mpr (by
      rw [List.nodup_append]
      exact ⟨nd, List.pairwise_singleton _ _, fun a m b m' e => nm (by simp at m'; rw [← m', ← e]; exact m)⟩)
    have sz : es1.size < scanBound := by
      have := p1.length
      have q := p2.length_eq
      simp at this q
      omega
    have ld : w.params.followText "set-order" = true ∨ t1.led = true := hl.imp id fun z => by rw [l1]; exact z
    have fin : ∀ h' is b, Heap.SameBut a s.heap h' → SetM P w h' a is → is.Perm js → Q b { s with heap := h' } := fun h' is b sb r p => hQ h' is b sb r (by rw [insK, if_neg (fun z => nm (hasK_iff.1 z))]; exact p.trans p2)
    refine wpAny_bind (none_ok _ ?_)
    split
    · refine wpAny_bind ?_
      rw [hashByValue_scannable 8 sc]
      refine wpAny_pure (setM_store ?_ ho hx hd el1 p1 nd1 sz ?_ ?_ ?_ fun h' is sb r p => ?_)
      · intro b s1 R q
        cases b with
        | true => exact wpAny_rule q
        | false => exact wpAny_pure q
      · first | exact f1 | (split <;> first | exact f1 | exact SetTable.fits_plain_off f1)
      · first | exact r1 | (split <;> exact r1)
      · first | exact ld | (split <;> exact ld)
      · dsimp only; exact wpAny_pure (fin h' is _ sb r p)
    · refine wpAny_bind (wpAny_pure ?_)
      simp only [↓reduceIte]
      refine setM_store ?_ ho hx hd el1 p1 nd1 sz f1 r1 ld fun h' is sb r p => ?_
      · intro b s1 R q
        cases b with
        | true => exact wpAny_rule q
        | false => exact wpAny_pure q
      · dsimp only; exact wpAny_pure (fin h' is _ sb r p)
theorem SetM.setOf (R : SetM P w h a ks) : h.SetOf (mixKind P w) a (fun k => hasK k ks) ks.length := by
  obtain ⟨o, es, ep, t, ho, hx, hd, el, pr, nd, hb, hf, hr, hl⟩ := R
  refine ⟨o, es, ep, t, ho, hx, hd, el, fun k => ?_, hb, hf, by have := pr.length; simpa using this⟩
  rw [hasK_iff, paired_mem pr k]
  exact Iff.rfl
theorem setM_add {k : Key} {x : Value} {Q : Value → Shared → Prop} (hk : keyIs k x = true) (R : SetM P w s.heap a ks) (room : ks.length + 1 < scanBound)
    (hQ : ∀ h' is tk, Heap.SameBut a s.heap h' → SetM P w h' a is → is.Perm (insK k ks) → Q .none { s with heap := h', toks := tk }) : wpAny (model P w) A (call (.builtin "set.add") [.ref a, x]) Q E s := by
  have S := R.setOf
  refine wpAny_call_entry F.slot_set_add S.typeIs F.entry_set_add ?_ (F.args_set_add_2 _ _)
  unfold Builtin.«set.add» Builtin.Frozenset.oneOther
  simp only [List.isEmpty_nil, bind_assoc]
  unfold Builtin.Frozenset.addrOf setAdd
  refine wpAny_bind (wpAny_pure ?_)
  try dsimp only
  refine wpAny_bind (wpAny_pure ?_)
  try dsimp only
  refine wpAny_bind (wpAny_holding (wpAny_bind ((mixKind P w).pyHash hk ?_)))
  refine setM_hashed (s := { s with toks := s.toks + 1 }) hk R room fun h' is b sb r p => ?_
  show wpAny _ _ (ret Value.none) _ _ _
  exact wpAny_pure ⟨_, rfl, hQ h' is _ sb r p⟩
end
end VS
set_option maxHeartbeats 2000000
namespace VS
open PySem PySem.Spec PyProof.Rows L2

def SetMO (P : Program) (w : World) (a : Addr) (l : List Key) : HO := .ext fun h => ∃ ks, ks.Perm l ∧ SetM P w h a ks
theorem setMO_new {P : Program} {w : World} {H : Hp} {h : Heap} {a : Addr} {l ks : List Key} (p : ks.Perm l) (R : SetM P w h a ks) : ObjOk P w H h a (SetMO P w a l) := by
  have ⟨o, _, _, _, ho, _⟩ := R
  exact ⟨⟨ks, p, R⟩, ⟨o, ho⟩, fun h1 h2 ⟨ks, p, R⟩ k => ⟨ks, p, R.at k⟩⟩
theorem insK_perm {k : Key} {l m : List Key} (p : l.Perm m) : (insK k l).Perm (insK k m) := by
  unfold insK
  by_cases h : k ∈ l
  · rw [if_pos (hasK_iff.2 h), if_pos (hasK_iff.2 (p.mem_iff.mp h))]
    exact p
  · rw [if_neg (fun z => h (hasK_iff.1 z)), if_neg (fun z => h (p.mem_iff.mpr (hasK_iff.1 z)))]
    exact p.append_right _
theorem relK {k : Key} {v : Value} (r : RelV (kV k) v) : keyIs k v = true := by
  cases k with
  | inl i => obtain ⟨t, rfl⟩ := r; exact keyIs_int i t
  | inr x => obtain ⟨t, rfl⟩ := r; exact keyIs_str x t
section
variable {X : Cx}
theorem addM_ok {pins : List (Addr × Obj)} {σ : L2.St} {H : Hp} {s : Shared} {E : Value → Shared → Prop} {a : Addr} {l : List Key} {k : Key} {v : Value} {Q : Value → Shared → Prop} (I : Inv X pins σ H s) (hD : H a = some (SetMO X.prog X.w a l)) (room : l.length + 1 < scanBound) (r : RelV (kV k) v)
    (h : ∀ s', Inv X pins σ (upd H a (SetMO X.prog X.w a (insK k l))) s' → Q .none s') : wpAny (model X.prog X.w) X.A (call (.builtin "set.add") [.ref a, v]) Q E s := by
  obtain ⟨⟨ks, p, R⟩, -, -⟩ := I.hok a _ hD
  refine setM_add (relK r) R (by rw [p.length_eq]; exact room) fun h' is tk sb new p2 => ?_
  have ex : ∃ u, h'.get? a = some u := by
    have ⟨o, _, _, _, ho, _⟩ := new
    exact ⟨o, ho⟩
  exact h _ (I.write (e := a) (t' := tk) (by rw [hD]; trivial) (.inl rfl) (fun b u ne e => (sb.2 b ne).trans e) ex (setMO_new (p2.trans (insK_perm p)) new))

/-- {elt for tg in iter if ..} of ints and texts: D the new set, W the invariant by the turn and a measure -/
def tScM (P : Program) (w : World) (wi : TI) (g : TG) (tt : TT) (te : TE) (vs : List Nat) : TE := fun σ H Q => wi σ H fun J H1 => ∀ C, H1 C = none → ∃ W : Nat → Nat → Hp → Prop, (∃ m, W 0 m (upd H1 C (SetMO P w C []))) ∧ ∀ i m H, W i m H →
  (J.stop i H ∧ Q (.ref C) H) ∨ (J.go i H ∧ ∃ Nx : Hp → Prop, (∀ H', Nx H' → ∃ m', m' < m ∧ W (i + 1) m' H') ∧ ∀ x H', J.yld i H x H' → g x (wipe σ vs) H' fun σ2 H2 => wipe σ2 vs = wipe σ vs ∧ tt σ2 H2 fun b H3 =>
    if b = true then te σ2 H3 fun y H4 => ∃ k l, y = kV k ∧ H4 C = some (SetMO P w C l) ∧ l.length + 1 < scanBound ∧ Nx (upd H4 C (SetMO P w C (insK k l))) else Nx H3)
theorem pe_scM {elt tg iter : Expr} {ifs : List Expr} {scope : Scope} {own : List (Str × Nat)} {pos : Pos} {wi : TI} {g : TG} {tt : TT} {te : TE} (hc : X.calm = true) (hN : X.N.Nodup) (hi : PI X tg iter wi) (ok : BlkOk X.N X.env.scope scope own)
    (hg : ∀ (s : Shared) (H : Hp) (C : Addr) (cl : List (Str × Addr)) (fp : List Addr), PG (X.blk s H scope (compEnvC scope cl C X.env) fp) tg g) (ht : ∀ (s : Shared) (H : Hp) (C : Addr) (cl : List (Str × Addr)) (fp : List Addr), PTs (X.blk s H scope (compEnvC scope cl C X.env) fp) ifs tt)
    (he : ∀ (s : Shared) (H : Hp) (C : Addr) (cl : List (Str × Addr)) (fp : List Addr), PE (X.blk s H scope (compEnvC scope cl C X.env) fp) elt te) (hs : ∀ x, foldedSetIterable iter X.env x = pure x := by intro _; rfl) :
    PE X (.SetComp elt [⟨tg, iter, ifs, 0⟩] scope pos) (tScM X.prog X.w wi g tt te (own.map (·.2))) := by
  constructor
  intro pins s σ H Q I h
  rw [PpSet.eval_SetComp]
  have caught : ∀ y ∈ scope.names, y.2 = .free → ∃ c, X.env.cells.lookup y.1 = some c := fun y m e => (ok.free y m e).elim (fun k => I.ok.has _ (.inl k)) (fun k => I.ok.has _ (.inr k))
  refine wpAny_comprehension_free rfl hs (closure_ok caught) ok.kind (fun y m e => (ok.uniq y m).trans (congrArg some e)) (thn (hi.run pins s σ H _ I h) fun xv s1 hx => thn hx fun itv s2 h2 => ?_)
  obtain ⟨it, fp, tn, J, H2, rfl, I2, T, at0, ff, q⟩ := h2
  refine PpSet.newSet_ok (newEnv_comp ?_)
  obtain ⟨W, ⟨m0, w0⟩, turn⟩ := q s2.heap.objs.size (I2.hok.fresh (Nat.le_refl _))
  generalize hC : s2.heap.objs.size = C at turn w0 ⊢
  generalize e3 : (⟨s2.heap.push { cls := .type "set", dict := none, data := .set #[] 0 (.fresh 0 0 (!X.w.params.followText "set-order")) }, s2.gens, s2.drawn, s2.toks, s2.os⟩ : Shared) = s3
  have p3 : s3.heap = s2.heap.push { cls := .type "set", dict := none, data := .set #[] 0 (.fresh 0 0 (!X.w.params.followText "set-order")) } := by rw [← e3]
  have I3 : Inv X pins σ (upd H2 C (SetMO X.prog X.w C [])) s3 := by
    rw [← e3]
    refine I2.laid (t' := s2.toks) (fun b o e => Heap.get?_push_of_some _ e) (Nat.le_of_eq hC) ?_
    rw [← hC]
    exact setMO_new (.refl _) (setM_fresh X.prog X.w)
  have f3 : ∀ b ∈ fp, FpOk X pins (upd H2 C (SetMO X.prog X.w C [])) b ∧ b < s3.heap.objs.size := fun b m => by
    obtain ⟨o, e, _⟩ := T.obj _ _ at0 b m
    have lt := Heap.lt_size e
    have ne : b ≠ C := by rw [← hC]; exact Nat.ne_of_lt lt
    exact ⟨⟨by rw [upd_ne ne]; exact (ff b m).1, (ff b m).2⟩, by rw [p3, Heap.size_push]; exact Nat.lt_succ_of_lt lt⟩
  have at3 : tn 0 s3.heap := T.keep _ _ _ at0 fun b _ o e => by rw [p3]; exact Heap.get?_push_of_some _ e
  have I4 := block_start I3 ok hN f3
  have pg := hg s3 (upd H2 C (SetMO X.prog X.w C [])) s3.heap.objs.size (cellsFrom (s3.heap.objs.size + 1) scope.names (cloFrom X.env.cells scope.names [])) fp
  have pt := ht s3 (upd H2 C (SetMO X.prog X.w C [])) s3.heap.objs.size (cellsFrom (s3.heap.objs.size + 1) scope.names (cloFrom X.env.cells scope.names [])) fp
  have pe := he s3 (upd H2 C (SetMO X.prog X.w C [])) s3.heap.objs.size (cellsFrom (s3.heap.objs.size + 1) scope.names (cloFrom X.env.cells scope.names [])) fp
  have nf : ∀ b ∈ fp, (upd H2 C (SetMO X.prog X.w C [])) b = none := fun b m => (f3 b m).1.1
  show codeAny _ _ (.compStart (.SetComp elt [⟨tg, iter, ifs, 0⟩] scope pos) 0 (.ref it) (.ref C) (compEnvC scope (cellsFrom (s3.heap.objs.size + 1) scope.names (cloFrom X.env.cells scope.names [])) s3.heap.objs.size X.env)) (compPost (model X.prog X.w) X.A X.xe none (EP X pins σ Q) (.ref C) s3.heap.objs.size) { s3 with heap := pushCells (s3.heap.push { cls := .type "dict", data := .dict #[] }) scope.names }
  generalize hce : compEnvC scope (cellsFrom (s3.heap.objs.size + 1) scope.names (cloFrom X.env.cells scope.names [])) s3.heap.objs.size X.env = ce at I4 pg pt pe ⊢
  have cl : ce.locals = s3.heap.objs.size := by rw [← hce] <;> rfl
  generalize hH : upd H2 C (SetMO X.prog X.w C []) = H3 at I3 I4 pg pt pe w0 nf f3
  generalize e4 : ({ s3 with heap := pushCells (s3.heap.push { cls := .type "dict", data := .dict #[] }) scope.names } : Shared) = s4 at I4 ⊢
  have at4 : tn 0 s4.heap := T.keep _ _ _ at3 fun b _ o e => by rw [← e4]; exact pushCells_keeps _ _ _ _ (Heap.get?_push_of_some _ e)
  have still : ∀ {τ : L2.St} {H' : Hp} {s' : Shared}, Inv (X.blk s3 H3 scope ce fp) [] τ H' s' → (∀ b ∈ fp, H' b = none) → ∀ b ∈ fp, FpOk (X.blk s3 H3 scope ce fp) [] H' b := fun {τ H' s'} J n b m =>
    ⟨n b m, (J.ok.exf b m).1, J.ok.exfs b m, .inl m, fun x c e => (J.ok.exf b m).2 x c e, fun p hp => absurd (show p ∈ ([] : List (Addr × Obj)) ++ [] from hp) (by simp)⟩
  have loop : codeAny (model X.prog X.w) X.A (.compLoop (.SetComp elt [⟨tg, iter, ifs, 0⟩] scope pos) 0 (.ref it) (.ref C) ce) (compPost (model X.prog X.w) X.A X.xe none (EP X pins σ Q) (.ref C) s3.heap.objs.size) s4 := by
    refine PpSet.compLoopS_any (fun n s' => ∃ i H', Inv (X.blk s3 H3 scope ce fp) [] (wipe σ (own.map (·.2))) H' s' ∧ tn i s'.heap ∧ (∀ b ∈ fp, H' b = none) ∧ W i n H') ?_ m0 ⟨0, H3, I4, at4, nf, w0⟩
    rintro n s5 ⟨i, H5, I5, at5, n5, w5⟩
    rcases turn i n H5 w5 with ⟨stop, qq⟩ | ⟨go, Nx, hNx, step⟩
    · refine thnF (T.done (X.blk s3 H3 scope ce fp) rfl rfl rfl hc i [] s5 _ H5 (fun _ _ => False) I5 (still I5 n5) at5 stop) fun r s6 z => ?_
      obtain ⟨rfl, I6⟩ := z
      have I7 : Inv X pins σ H5 s6 := I3.call' (ch := fp) I6.os I6.base I6.hok I6.bare fun b m => ⟨(f3 b m).1.2.2.2.1, (f3 b m).1.2.1, (f3 b m).1.2.2.2.2.1, (f3 b m).1.2.2.2.2.2⟩
      have nC : H5 s3.heap.objs.size = none := by
        rw [← cl]
        exact I6.free
      obtain ⟨m, hn, _⟩ := I6.loc
      have hn : s6.heap.Ns ce.locals m := hn
      rw [cl] at hn
      refine ⟨m, hn, fun h'' sb => ?_⟩
      obtain ⟨g0, g1, g2, g3, g4, g5⟩ := I3.fpOk (b := s3.heap.objs.size) (H' := H5) (Nat.le_refl _) nC
      exact ⟨.ref C, H5, I7.turned (t' := s6.toks) (fun b o ne e => (sb.2 b ne).trans e) g0 g1 g3 g4 g5, rfl, qq⟩
    · refine thnF (T.item (X.blk s3 H3 scope ce fp) rfl rfl rfl hc i [] s5 _ H5 (fun _ _ => False) I5 (still I5 n5) at5 go) fun r s6 z => ?_
      obtain ⟨u, rfl, h6⟩ := z
      refine thnF h6 fun _ s7 z => ?_
      obtain ⟨x, H7, I7, r7, y7, at7, n7⟩ := z
      have I7p := I7.pinned (still I7 n7) (T.obj _ _ at7)
      refine thnF (pg.run _ s7 _ H7 x u _ I7p r7 (step x H7 y7)) fun _ s8 z => ?_
      obtain ⟨σ8, H8, I8, hw, q8⟩ := z
      refine thnF (pt.run _ s8 σ8 H8 _ I8 q8) fun b s9 z => ?_
      obtain ⟨H9, I9, q9⟩ := z
      have fin : ∀ {s' : Shared} {H' : Hp}, Inv (X.blk s3 H3 scope ce fp) ([] ++ pinsAt fp s7.heap) σ8 H' s' → Nx H' → ∃ m, m < n ∧ ∃ i H', Inv (X.blk s3 H3 scope ce fp) [] (wipe σ (own.map (·.2))) H' s' ∧ tn i s'.heap ∧ (∀ b ∈ fp, H' b = none) ∧ W i m H' := fun {s' H'} J nx => by
        obtain ⟨m', lt, w'⟩ := hNx H' nx
        have pinned : ∀ b ∈ fp, ∀ o, s7.heap.get? b = some o → s'.heap.get? b = some o ∧ H' b = none := fun b m o e =>
          have z := J.pin (b, o) (List.mem_append_right _ (List.mem_append_right _ (mem_pinsAt m e)))
          ⟨z.1, z.2.1⟩
        have len : (wipe σ (own.map (·.2))).length = σ8.length := by rw [← hw, wipe_length]
        refine ⟨m', lt, i + 1, H', (J.unpinned (pins := [])).weak len (fun j v e => (wipe_some (by rw [← hw] at e; exact e)).1), T.keep _ _ _ at7 fun b m o e => (pinned b m o e).1, fun b m => ?_, w'⟩
        obtain ⟨o, e, _⟩ := T.obj _ _ at7 b m
        exact (pinned b m o e).2
      cases b with
      | false =>
        simp only [Bool.false_eq_true, if_false] at q9 ⊢
        exact fin I9 q9
      | true =>
        simp only [if_true] at q9 ⊢
        refine thnF (pe.run _ s9 σ8 H9 _ I9 q9) fun z s10 zz => ?_
        obtain ⟨yv, H10, I10, r10, k, l, rfl, hl, room, nx⟩ := zz
        exact addM_ok (X := X.blk s3 H3 scope ce fp) I10 hl room r10 fun s11 I11 => fin I11 nx
  exact PpSet.codeAny_compStart_set loop (T.self X.A 0 _ _ _ at4 loop)
end
end VS
set_option maxHeartbeats 2000000
namespace VS
open PySem PySem.Spec PyProof.Rows L2 Srt

theorem paired_map {α β γ : Type} {F : α → β → Prop} {f : γ → α} : ∀ {l : List γ} {m : List β}, Paired (fun x y => F (f x) y) l m → Paired F (l.map f) m
  | _, _, .nil => .nil
  | _, _, .cons r t => .cons r (paired_map t)
theorem keys_ints : ∀ {vs : List Value} {ns : List Int}, Paired (fun v k => keyIs k v = true) vs (ns.map Sum.inl) → IntsAre vs ns
  | [], [], _ => .nil
  | v :: vs, n :: ns, .cons r t => by
    rcases keyIs_shape r with ⟨i, u, e, rfl⟩ | ⟨x, u, e, rfl⟩
    · cases e; exact .cons _ _ (keys_ints t)
    · cases e
theorem keys_strs : ∀ {vs : List Value} {ns : List Str}, Paired (fun v k => keyIs k v = true) vs (ns.map Sum.inr) → StrsAre vs ns
  | [], [], _ => .nil
  | v :: vs, n :: ns, .cons r t => by
    rcases keyIs_shape r with ⟨i, u, e, rfl⟩ | ⟨x, u, e, rfl⟩
    · cases e
    · cases e; exact .cons _ _ (keys_strs t)
theorem perm_map_inv {α β : Type} {f : α → β} : ∀ {l : List β} {m : List α}, l.Perm (m.map f) → ∃ k : List α, l = k.map f ∧ k.Perm m := fun {l m} p => by
  generalize e : m.map f = n at p
  induction p generalizing m with
  | nil => exact ⟨[], rfl, by cases m with | nil => exact .refl _ | cons _ _ => cases e⟩
  | cons x p ih =>
    cases m with
    | nil => cases e
    | cons y m =>
      cases e
      obtain ⟨k, rfl, q⟩ := ih rfl
      exact ⟨y :: k, rfl, q.cons _⟩
  | swap x y l =>
    match m, e with
    | a :: b :: m, e => cases e; exact ⟨b :: a :: m, rfl, .swap _ _ _⟩
  | trans _ _ i1 i2 =>
    obtain ⟨k, rfl, q⟩ := i2 e
    obtain ⟨k', rfl, q'⟩ := i1 rfl
    exact ⟨k', rfl, q'.trans q⟩
section
variable {P : Program} {w : World} {A : Around} {E : Value → Shared → Prop} {s : Shared} {a : Addr} {ks : List Key}
/-- sorted(the set): a new list, sorted by ltv -/
theorem sorted_setM {ltv : Value → Value → Bool} {Q : Value → Shared → Prop} (O : SrtO.Swo ltv) (R : SetM P w s.heap a ks) (hh : A.handled = none)
    (hS : ∀ (s1 : Shared) (A1 : Around) (b : Addr) (vs : List Value) (js : List Key), Paired (fun v k => keyIs k v = true) vs js → js.Perm ks → 2 ≤ vs.length → SrtO.SortableO P w A1 s1 b vs ltv)
    (hQ : ∀ s' p (out vs : List Value) (c : Nat) (js : List Key), (∀ b o, s.heap.get? b = some o → s'.heap.get? b = some o) → s'.gens = s.gens → s'.os = s.os → s.heap.objs.size ≤ p →
      s'.heap.get? p = some (seqObj "list" out.toArray c) → Paired (fun v k => keyIs k v = true) vs js → js.Perm ks → SrtO.Srtd ltv out → SrtO.Stb ltv out vs → vs.length ≤ sizeLine → Q (.ref p) s') :
    wpAny (model P w) A (call (.builtin "sorted") [.ref a]) Q E s := by
  obtain ⟨o, es, ep, t, ho, hx, hd, el, pr, nd, hb, hf, hr, hl⟩ := R
  refine Calls.call_function_entry kind_sorted plain_sorted entry_sorted (args_sorted1 _) ?_
  unfold Builtin.«sorted»
  refine wpAny_bind (m := checkCount "sorted" 1 1 _) (wpAny_pure ?_)
  refine wpAny_bind (collect_set (A := A.in1) hh ⟨o, ho, hx.1, hd⟩ hf hb hr hl fun s1 vs k1 hz g1 o1 pm => ?_)
  obtain ⟨js, p1, p2⟩ := paired_perm pm (paired_map (F := fun v k => keyIs k v = true) pr)
  have hsz : vs.length ≤ sizeLine := by
    rw [pm.length_eq, List.length_map, Array.length_toList]
    exact fits_of_scanBound hb
  refine wpAny_bind (wpAny_newList ?_ hsz)
  have hoL : (s1.heap.push (seqObj "list" vs.toArray 0)).get? s1.heap.objs.size = some (seqObj "list" vs.toArray 0) := Heap.get?_push_size _ rfl
  refine wpAny_bind (wpAny_holding (wpAny_call_entry slot_list_sort ⟨_, hoL, rfl⟩ entry_list_sort (SrtO.list_sort_ord O hoL hsz (fun h2 => hS _ _ _ vs js p1 p2 h2) fun out r1 r2 => ⟨_, rfl, ?_⟩) (args_list_sort _)))
  obtain ⟨c, hc⟩ := sortedHeap_at (vs := vs) (out := out.toArray) hoL
  refine wpAny_pure ⟨_, rfl, hQ _ s1.heap.objs.size out vs c js (fun b u e => ?_) g1 o1 hz hc p1 p2 r1 r2 hsz⟩
  have q := k1 b u e
  have lt := Heap.lt_size q
  show (sortedHeap (s1.heap.push (seqObj "list" vs.toArray 0)) s1.heap.objs.size vs out.toArray).get? b = some u
  rw [sortedHeap_old (Nat.ne_of_lt lt) (by rw [size_push']; exact Nat.lt_succ_of_lt lt)]
  exact Heap.get?_push_of_some _ q
end
def rSortedM (P : Program) (w : World) : List V → Hp → VK → Prop := fun vs H Q => ∃ (a : Addr) (l : List Key), vs = [V.ref a] ∧ H a = some (SetMO P w a l) ∧
  ((∃ ns : List Int, l = ns.map Sum.inl ∧ ∀ p, H p = none → Q (.ref p) (upd H p (.lst ((sortI ns).map V.int)))) ∨
    ∃ zs : List Str, l = zs.map Sum.inr ∧ ∀ (ys : List Str) (p : Addr), ys.Perm zs → ys.map (fun z => z.cps.toList) = sortS (zs.map fun z => z.cps.toList) → H p = none → Q (.ref p) (upd H p (.lst (ys.map V.str))))
def rLenM (P : Program) (w : World) : List V → Hp → VK → Prop := fun vs H Q => ∃ (a : Addr) (l : List Key), vs = [V.ref a] ∧ H a = some (SetMO P w a l) ∧ Q (.int l.length) H
section
variable {X : Cx}
theorem cr_sortedM (hc : X.calm = true) : CallR X (.builtin "sorted") (rSortedM X.prog X.w) := by
  rintro pins s σ H vs us Q I r ⟨a, l, rfl, ha, q⟩
  obtain ⟨⟨ks, p, R⟩, -, -⟩ := I.hok a _ ha
  rw [Vals.ref1 r]
  have put : ∀ (s' : Shared) (b : Addr) (xs : List V) (out : List Value) (c : Nat), (∀ b o, s.heap.get? b = some o → s'.heap.get? b = some o) → s'.gens = s.gens → s'.os = s.os → s.heap.objs.size ≤ b → s'.heap.get? b = some (seqObj "list" out.toArray c) →
      xs.length ≤ sizeLine → Vals xs out → Inv X pins σ (upd H b (.lst xs)) s' := fun s' b xs out c k g o hp hg hz hv => by
    have hn : H b = none := I.hok.fresh hp
    have J : Inv X pins σ (upd H b (.lst xs)) { s with heap := s'.heap, gens := s'.gens, drawn := s'.drawn, toks := s'.toks } :=
      I.call (ch := []) (Un.laid k hp hn) (I.hok.laid k hp ⟨hz, out, c, hv, hg⟩) (by rw [g]; exact I.bare) (fun _ z => nomatch z)
    have e : s' = { s with heap := s'.heap, gens := s'.gens, drawn := s'.drawn, toks := s'.toks } := by
      cases s'
      cases s
      cases o
      rfl
    rw [e]
    exact J
  rcases q with ⟨ns, rfl, q⟩ | ⟨zs, rfl, q⟩
  · refine sorted_setM SrtO.swo_int R (I.ok.hd hc) (fun s1 A1 b vs js pv pj h2 => ?_) fun s' b out vs c js k g o hp hg pv pj h1 h2 hz => ?_
    · obtain ⟨ms, rfl, pm⟩ := perm_map_inv (pj.trans p)
      exact SrtO.ints_sortable (keys_ints pv) h2
    · obtain ⟨ms, rfl, pm⟩ := perm_map_inv (pj.trans p)
      obtain ⟨k1, k2, k3⟩ := SrtO.ints_out (keys_ints pv) h1 h2
      have e := sortI_uniq (k2.trans pm) k3
      have lz : ((out.map SrtO.iv).map V.int).length ≤ sizeLine := by
        rw [List.length_map, List.length_map, h2.perm.length_eq]
        exact hz
      have J := put s' b _ out c k g o hp hg lz (vals_of_ints k1)
      rw [e] at J
      exact ⟨.ref b, _, J, rfl, q b (I.hok.fresh hp)⟩
  · refine sorted_setM swo_str R (I.ok.hd hc) (fun s1 A1 b vs js pv pj h2 => ?_) fun s' b out vs c js k g o hp hg pv pj h1 h2 hz => ?_
    · obtain ⟨ms, rfl, pm⟩ := perm_map_inv (pj.trans p)
      exact strs_sortable (keys_strs pv) h2
    · obtain ⟨ms, rfl, pm⟩ := perm_map_inv (pj.trans p)
      obtain ⟨k1, k2, k3⟩ := strs_out (keys_strs pv) h1 h2
      have lz : ((out.map sv).map V.str).length ≤ sizeLine := by
        rw [List.length_map, List.length_map, h2.perm.length_eq]
        exact hz
      have J := put s' b _ out c k g o hp hg lz (vals_of_strs k1)
      exact ⟨.ref b, _, J, rfl, q _ b (k2.trans pm) (sortS_uniq ((k2.trans pm).map _) (List.pairwise_map.mpr k3)) (I.hok.fresh hp)⟩
theorem cr_lenM : CallR X (.builtin "len") (rLenM X.prog X.w) := by
  rintro pins s σ H vs us Q I r ⟨a, l, rfl, ha, q⟩
  obtain ⟨⟨ks, p, R⟩, -, -⟩ := I.hok a _ ha
  rw [Vals.ref1 r]
  obtain ⟨o, es, ep, t, ho, hx, hd, el, pr, nd, hb, hf, hr, hl⟩ := R
  have e : es.size = l.length := by
    have := pr.length
    have q := p.length_eq
    simp at this
    omega
  have hb2 : es.size < 4096 := hb
  refine call_len_set ho hx hd hf (by omega) ⟨.int es.size, H, ?_, ⟨_, rfl⟩, by rw [e]; exact q⟩
  exact (I.tok _).tok _
end

/-! ### the set as plain data -/
def asKeys : List D → Option (List Key)
  | [] => some []
  | .int i :: l => (asKeys l).map (.inl i :: ·)
  | .str x :: l => (asKeys l).map (.inr ⟨x.toArray⟩ :: ·)
  | _ :: _ => none
def keyOfD : D → Option Key
  | .int i => some (.inl i)
  | .str x => some (.inr ⟨x.toArray⟩)
  | _ => none
/-- the first ones of each, in their order -/
def dedup : List D → List D → List D
  | acc, [] => acc
  | acc, d :: ds => dedup (if acc.any (fun e => eqb e d) then acc else acc ++ [d]) ds
end VS
set_option maxHeartbeats 2000000
namespace VS
open PySem PySem.Spec PyProof.Rows L2

def insD (e : D) (acc : List D) : List D := if (acc.any fun x => eqb x e) = true then acc else acc ++ [e]
def wScomp (wg : WG) (wt : WT) (we : WE) (vs : List Nat) (F : List D → Rho → Prop) : List D → List D → Rho → Prop
  | [], acc, ρ => F acc ρ
  | d :: ds, acc, ρ => wg d ρ fun ρ1 => wt ρ1 fun b ρ2 => br b (we ρ2 fun t ρ3 => ∃ e, rd ρ3 t = some e ∧ isKey e = true ∧ wScomp wg wt we vs F ds (insD e acc) (wipeR vs ρ3)) (wScomp wg wt we vs F ds acc (wipeR vs ρ2))
def wScs (wi : WI) (wg : WG) (wt : WT) (we : WE) (vs : List Nat) (F : List D → Rho → Prop) : Rho → Prop := fun ρ => wi ρ fun ds b ρ1 => ds.length ≤ 4000 ∧
  wScomp wg wt we vs (fun acc ρ2 => F acc (unl b (unw vs ρ1 ρ2))) ds [] (wipeR vs ρ1)
def sortedKD (acc : List D) (P : List D → Prop) : Prop := (∃ ns, asInts acc = some ns ∧ P ((sortI ns).map .int)) ∨ ∃ ss, asStrs acc = some ss ∧ P ((sortS ss).map .str)
def wSortedSc (wi : WI) (wg : WG) (wt : WT) (we : WE) (vs : List Nat) : WE := fun ρ P => wScs wi wg wt we vs (fun acc ρ' => sortedKD acc fun l => P (.tmp (.lst l)) ρ') ρ
def wLenSc (wi : WI) (wg : WG) (wt : WT) (we : WE) (vs : List Nat) : WE := fun ρ P => wScs wi wg wt we vs (fun acc ρ' => P (.val (.int acc.length)) ρ') ρ

def SOkD : D → Prop
  | .str s => SOk s
  | _ => True
def KeysOk (acc : List D) : Prop := ∀ e ∈ acc, isKey e = true ∧ SOkD e
theorem hasK_map {e : D} {acc : List D} (k : isKey e = true) (h : KeysOk acc) : hasK (keyD e) (acc.map keyD) = acc.any fun x => eqb x e := by
  induction acc with
  | nil => rfl
  | cons a l ih =>
    have ha := (h a List.mem_cons_self).1
    have e1 : eqb a e = decide (keyD a = keyD e) := by
      rw [← eqb_kD, kD_keyD ha, kD_keyD k]
    show (decide (keyD a = keyD e) || hasK (keyD e) (l.map keyD)) = (eqb a e || l.any fun x => eqb x e)
    rw [e1, ih fun x m => h x (List.mem_cons_of_mem _ m)]
theorem insK_map {e : D} {acc : List D} (k : isKey e = true) (h : KeysOk acc) : insK (keyD e) (acc.map keyD) = (insD e acc).map keyD := by
  unfold insK insD
  rw [hasK_map k h]
  split <;> simp
theorem insD_ok {e : D} {acc : List D} (k : isKey e = true) (o : SOkD e) (h : KeysOk acc) : KeysOk (insD e acc) := by
  unfold insD
  split
  · exact h
  · intro x m
    rcases List.mem_append.mp m with m | m
    · exact h x m
    · simp at m
      subst m
      exact ⟨k, o⟩
theorem insD_len (e : D) (acc : List D) : (insD e acc).length ≤ acc.length + 1 := by
  unfold insD
  split
  · omega
  · simp
section
variable {P : Program} {w : World} {K : PySem.W.Frag} {g : G} {Z Z' Z1 Z2 : Addr → Prop} {σ σ' σ1 σ2 : L2.St} {H H' H1 H2 Hs : Hp} {ρ ρ' ρ1 ρ2 : Rho} {a : Addr} {v : V} {d : D} {vs : List Nat} {i : Nat} {o : HO}
/-- an object that nothing else speaks of is written -/
theorem Rel.looseX (R : Rel K g Z σ H ρ) (z : ¬ Z a) (nt : ∀ xs, H a ≠ some (.tup xs)) (nf : ∀ o u, H a ≠ some (.frz o u)) (u : ¬ Used ρ σ a) (f : g.H0 a = none) : Rel K g Z σ (upd H a o) ρ := by
  have mv : Mv K Z Z H (upd H a o) := {
    z := fun _ z => z
    r := fun b u zb h => by
      have ne : b ≠ a := fun e => z (e ▸ zb)
      rcases h with h | ⟨x, h⟩
      · exact .inl (by rw [upd_ne ne]; exact h)
      · exact .inr ⟨x, by rw [upd_ne ne]; exact h⟩
    l := fun b u zb h => by
      have ne : b ≠ a := fun e => z (e ▸ zb)
      rw [upd_ne ne]; exact h
    t := fun b xs h => by
      have ne : b ≠ a := fun e => nt xs (e ▸ h)
      rw [upd_ne ne]; exact h
    f := fun b xs h => by
      rcases h with ⟨x, h⟩ | h
      · have ne : b ≠ a := fun e => nf _ _ (e ▸ h)
        exact .inl ⟨x, by rw [upd_ne ne]; exact h⟩
      · exact .inr h }
  refine ⟨R.len, fun i d q => ?_, fun i d q => ?_, fun i d q => ?_, fun i d q => ?_, R.uniq, fun b u e m => ?_, R.zfr, fun b q => ?_, R.mz, R.mt, fun b m => ?_⟩
  · obtain ⟨v, x, y⟩ := R.fz i d q
    exact ⟨v, x, y.mono mv⟩
  · obtain ⟨b, x, y, w⟩ := R.own i d q
    exact ⟨b, x, y.mono mv (fun o e => by rw [upd_ne (fun k => u ⟨i, by rw [q]; rfl, by rw [← k]; exact x⟩)]; exact e), w⟩
  · obtain ⟨b, x, y, w⟩ := R.mu i d q
    exact ⟨b, x, y.mono mv (fun o e => by rw [upd_ne (fun k => u ⟨i, by rw [q]; rfl, by rw [← k]; exact x⟩)]; exact e), w⟩
  · obtain ⟨v, x, y, t⟩ := R.lent i d q
    have far : ∀ b, v = .ref b → b ≠ a := fun b e k => u ⟨i, by rw [q]; rfl, by rw [← k, ← e]; exact x⟩
    refine ⟨v, x, y.mono mv (fun b o e h => ?_) (fun b o e h => by rw [upd_ne (far b e)]; exact h), t⟩
    rcases h with h | ⟨z, h⟩
    · exact .inl (by rw [upd_ne (far b e)]; exact h)
    · exact .inr ⟨z, by rw [upd_ne (far b e)]; exact h⟩
  · have ne : b ≠ a := fun k => by subst k; rw [f] at e; cases e
    rw [upd_ne ne]; exact R.frame b u e m
  · have ne : b ≠ a := fun k => z (k ▸ q)
    rw [upd_ne ne]; exact R.ztr b q
  · by_cases k : b = a
    · subst k; rw [upd_same]; exact fun z => nomatch z
    · rw [upd_ne k]; exact R.mh b m
def ScOk (P : Program) (w : World) (Z : Addr → Prop) (σ : L2.St) (H : Hp) (ρ : Rho) (a : Addr) (l : List Key) : Prop := H a = some (SetMO P w a l) ∧ ¬ Z a ∧ ¬ Used ρ σ a
theorem ScOk.move {l : List Key} (h : ScOk P w Z σ H ρ a l) (s : Step Z H σ ρ Z' H' σ' ρ') : ScOk P w Z' σ' H' ρ' a l := by
  obtain ⟨o, z, u⟩ := h
  have nm : ¬ Mine ρ σ a := fun m => u m.used
  refine ⟨s.keep a _ o nm, fun q => ?_, fun q => ?_⟩
  · rcases s.znew a q with h | h | h
    · exact z h
    · rw [o] at h; cases h
    · exact nm h
  · rcases s.usedG q with h | h
    · exact u h
    · rw [o] at h; cases h
theorem ScOk.wiped {l : List Key} (h : ScOk P w Z σ H ρ a l) : ScOk P w Z (wipe σ vs) H (wipeR vs ρ) a l := by
  refine ⟨h.1, h.2.1, fun ⟨i, u, e⟩ => ?_⟩
  have n : gt (wipeR vs ρ) i ≠ .no := fun z => by rw [z] at u; cases u
  rw [wipeR_less i n] at u
  exact h.2.2 ⟨i, u, by rw [← wipe_agree (ρ := wipeR vs ρ) (σ := σ) (vs := vs) (fun i m => wipeR_in m) i n]; exact e⟩
theorem SetMO_tup {l : List Key} : ∀ xs, (some (SetMO P w a l) : Option HO) ≠ some (.tup xs) := fun xs e => by cases e
theorem SetMO_frz {l : List Key} : ∀ o u, (some (SetMO P w a l) : Option HO) ≠ some (.frz o u) := fun o u e => by cases e
theorem scm_core {F : List D → Rho → Prop} {QQ : VK} {wi : WI} {wg : WG} {wt : WT} {we : WE} (R : Rel K g Z σ H ρ) (w0 : wScs wi wg wt we vs F ρ)
    (fin : ∀ acc Z' H' ρ' C, Rel K g Z' σ H' ρ' → Step Z H σ ρ Z' H' σ ρ' → H' C = some (SetMO P w C (acc.map keyD)) → KeysOk acc → F acc ρ' → QQ (.ref C) H') :
    tScM P w (liftI K g wi) (liftGv K g vs wg) (liftT K g wt) (liftE K g we) vs σ H QQ := by
  refine ⟨Z, ρ, _, R, w0, fun ds b J Z1 H1 ρm Rm sm bo wk q C hC => ?_⟩
  obtain ⟨hl, q⟩ := q
  have RL := Rm.lendB bo
  obtain ⟨f1, f2, f3⟩ := RL.fresh hC
  let F2 : List D → Rho → Prop := fun acc ρ2 => F acc (unl b (unw vs (lend b ρm) ρ2))
  refine ⟨fun i m H' => ∃ Z' ρ' acc, Rel K g Z' (wipe σ vs) H' ρ' ∧ Step Z1 H1 σ (lend b ρm) Z' H' (wipe σ vs) ρ' ∧ (∀ i, i ∈ vs → gt ρ' i = .no) ∧ ScOk P w Z' (wipe σ vs) H' ρ' C (acc.map keyD) ∧ KeysOk acc ∧ acc.length ≤ i ∧ i + m = ds.length ∧ wScomp wg wt we vs F2 (ds.drop i) acc ρ',
    ⟨ds.length, Z1, _, [], (RL.looseX f1 (fun xs e => by rw [hC] at e; cases e) (fun o u e => by rw [hC] at e; cases e) f2 f3).wiped vs, (Step.refl.looseG hC).wiped vs, fun i m => wipeR_in m, ScOk.wiped ⟨upd_same, f1, f2⟩, fun e m => (nomatch m), Nat.zero_le _, by omega, q⟩, fun i m H' hW => ?_⟩
  obtain ⟨Z', ρ', acc, R', s', nv, sc, ko, la, le, w'⟩ := hW
  obtain ⟨wk1, wk2⟩ := wk Z' (wipe σ vs) H' ρ' R' s'
  cases m with
  | zero =>
    have e : i = ds.length := by omega
    subst e
    rw [List.drop_length] at w'
    obtain ⟨R2, s2⟩ := unw_ok RL (R'.unwiped nv) (s'.unwiped nv) (vs := vs)
    obtain ⟨R3, s3, u3⟩ := unl_ok Rm bo s2 R2
    exact .inl ⟨wk2 _ (Nat.le_refl _), fin acc Z' H' _ C R3 (sm.trans s3) sc.1 ko w'⟩
  | succ m =>
    have hi : i < ds.length := by omega
    rw [List.drop_eq_getElem_cons hi] at w'
    obtain ⟨go, yl⟩ := wk1 i ds[i] (List.getElem?_eq_getElem hi)
    refine .inr ⟨go, fun H'' => ∃ m', m' < m + 1 ∧ ∃ Z' ρ' acc, Rel K g Z' (wipe σ vs) H'' ρ' ∧ Step Z1 H1 σ (lend b ρm) Z' H'' (wipe σ vs) ρ' ∧ (∀ i, i ∈ vs → gt ρ' i = .no) ∧ ScOk P w Z' (wipe σ vs) H'' ρ' C (acc.map keyD) ∧ KeysOk acc ∧ acc.length ≤ i + 1 ∧ (i + 1) + m' = ds.length ∧ wScomp wg wt we vs F2 (ds.drop (i + 1)) acc ρ',
      fun H'' h => h, fun x H2 y => ?_⟩
    obtain ⟨ex, rx⟩ := yl x H2 y
    refine ⟨Z', ρ', _, _, ex.rel R', rx, w', fun σ2 ρ2 R2 s2 ew0 q2 => ⟨ew0.trans wipe_wipe, ?_⟩⟩
    have ew := ew0.trans wipe_wipe
    have sc2 := (sc.move ex.step).move s2
    have s3 := (s'.trans ex.step).trans s2
    refine ⟨Z', ρ2, _, R2, q2, fun bb Z3 H3 ρ3 R3 s4 q3 => ?_⟩
    have sc3 := sc2.move s4
    cases bb with
    | false =>
      refine ⟨m, by omega, Z3, wipeR vs ρ3, acc, ?_, ?_, fun i m => wipeR_in m, ?_, ko, by omega, by omega, q3.2 rfl⟩
      · rw [← ew]; exact R3.wiped vs
      · rw [← ew]; exact (s3.trans s4).wiped vs
      · rw [← ew]; exact sc3.wiped
    | true =>
      refine ⟨Z3, ρ3, _, R3, q3.1 rfl, fun t v Z4 H4 ρ4 R4 s5 o q4 => ?_⟩
      obtain ⟨e, e1, ek, q5⟩ := q4
      have le1 := o.read R4 e1
      have nt : e.top = false := by cases e <;> first | rfl | cases ek
      have re := le1.rep nt
      have ev : v = kV (keyD e) := re.key ek
      have so : SOkD e := by
        cases e with
        | str s =>
          cases re with
          | str s h => exact h
        | _ => trivial
      have sc4 := sc3.move s5
      refine ⟨keyD e, acc.map keyD, ev, sc4.1, ?_, m, by omega, Z4, wipeR vs ρ4, insD e acc, ?_, ?_, fun i m => wipeR_in m, ?_, insD_ok ek so ko, ?_, by omega, q5⟩
      · rw [List.length_map]
        show acc.length + 1 < 4096
        omega
      · rw [← ew]; exact (R4.looseX sc4.2.1 (by rw [sc4.1]; exact SetMO_tup) (by rw [sc4.1]; exact SetMO_frz) sc4.2.2 f3).wiped vs
      · rw [← ew]; exact (((s3.trans s4).trans s5).looseG hC).wiped vs
      · rw [← ew, insK_map ek ko]; exact ScOk.wiped ⟨upd_same, sc4.2.1, sc4.2.2⟩
      · have := insD_len e acc
        omega
theorem ints_keys : ∀ {acc : List D} {ns : List Int}, asInts acc = some ns → acc.map keyD = ns.map Sum.inl := fun {acc ns} e => by
  cases asInts_eq e
  rw [List.map_map]
  rfl
theorem strs_keys : ∀ {acc : List D} {ss : List (List Nat)}, asStrs acc = some ss → acc.map keyD = (ss.map fun l => (⟨l.toArray⟩ : Str)).map Sum.inr := fun {acc ss} e => by
  cases asStrs_eq e
  rw [List.map_map, List.map_map]
  rfl
end
section
variable {X : Cx} {g : G} {elt tg iter : Expr} {ifs : List Expr} {scope : Scope} {own : List (Str × Nat)} {pos p pos2 : Pos} {wi : WI} {wg : WG} {wt : WT} {we : WE}
theorem de_sortedSc (hgg : Gl X "sorted") (hm : X.mg "sorted" = none) (hc : X.calm = true) (hN : X.N.Nodup) (hi : DI X g tg iter wi) (ok : BlkOk X.N X.env.scope scope own)
    (hg : ∀ (s : Shared) (H : Hp) (C : Addr) (cl : List (Str × Addr)) (fp : List Addr), DGv (X.blk s H scope (compEnvC scope cl C X.env) fp) g (own.map (·.2)) tg wg) (ht : ∀ (s : Shared) (H : Hp) (C : Addr) (cl : List (Str × Addr)) (fp : List Addr), DTs (X.blk s H scope (compEnvC scope cl C X.env) fp) g ifs wt)
    (he : ∀ (s : Shared) (H : Hp) (C : Addr) (cl : List (Str × Addr)) (fp : List Addr), DE (X.blk s H scope (compEnvC scope cl C X.env) fp) g elt we) (hs : ∀ x, foldedSetIterable iter X.env x = pure x := by intro _; rfl)
    (sa : starEach [.SetComp elt [⟨tg, iter, ifs, 0⟩] scope pos] X.env = (false, eval (.SetComp elt [⟨tg, iter, ifs, 0⟩] scope pos) X.env) :: starEach [] X.env := by rfl) :
    DE X g (.Call (.Name "sorted" p) [.SetComp elt [⟨tg, iter, ifs, 0⟩] scope pos] [] pos2) (wSortedSc wi wg wt we (own.map (·.2))) := by
  refine ⟨(pe_callB (cr_sortedM hc) hgg hm boot_sorted (pa_cons (pe_scM (g := liftGv X.K g (own.map (·.2)) wg) (tt := liftT X.K g wt) (te := liftE X.K g we) hc hN hi.pi ok (fun s H C cl fp => (hg s H C cl fp).pg) (fun s H C cl fp => (ht s H C cl fp).pt) (fun s H C cl fp => (he s H C cl fp).pe) hs) pa_nil sa) (he := sa)).imp fun σ H Q h => ?_⟩
  obtain ⟨Z, ρ, Pq, R, w, k⟩ := h
  show tScM X.prog X.w (liftI X.K g wi) (liftGv X.K g (own.map (·.2)) wg) (liftT X.K g wt) (liftE X.K g we) (own.map (·.2)) σ H (fun x H1 => rSortedM X.prog X.w [x] H1 Q)
  refine scm_core R w fun acc Z' H' ρ' C R' s' hC ko q => ⟨C, _, rfl, hC, ?_⟩
  have new : ∀ (l : List D) (xs : List V) (p : Addr), H' p = none → Reps X.K Z' (upd H' p (.lst xs)) xs l → Pq (.tmp (.lst l)) ρ' → Q (.ref p) (upd H' p (.lst xs)) := fun l xs p np r q => by
    have ex : Ext H' (upd H' p (.lst xs)) := Ext.new np
    obtain ⟨a1, a2, a3⟩ := R'.fresh np
    exact k (.tmp (.lst l)) (.ref p) Z' _ ρ' (ex.rel R') (s'.trans ex.step) ⟨p, rfl, ⟨xs, upd_same, r⟩, a1, Classical.byContradiction fun z => s'.there p z np, a2, a3⟩ q
  rcases q with ⟨ns, e, q⟩ | ⟨ss, e, q⟩
  · exact .inl ⟨ns, ints_keys e, fun p np => new _ _ p np Reps.of_ints q⟩
  · refine .inr ⟨_, strs_keys e, fun ys p yp ye np => ?_⟩
    have e2 : ys.map (fun z => z.cps.toList) = sortS ss := by
      rw [ye, List.map_map]
      exact congrArg sortS (by induction ss with | nil => rfl | cons _ _ ih => exact List.map_id _)
    rw [← e2] at q
    refine new _ _ p np (reps_of_strs fun z m => ?_) q
    have m2 := yp.mem_iff.mp m
    simp only [List.mem_map] at m2
    obtain ⟨l, ml, rfl⟩ := m2
    exact (ko (.str l) (by cases asStrs_eq e; exact List.mem_map_of_mem ml)).2
theorem de_lenSc (hgg : Gl X "len") (hm : X.mg "len" = none) (hc : X.calm = true) (hN : X.N.Nodup) (hi : DI X g tg iter wi) (ok : BlkOk X.N X.env.scope scope own)
    (hg : ∀ (s : Shared) (H : Hp) (C : Addr) (cl : List (Str × Addr)) (fp : List Addr), DGv (X.blk s H scope (compEnvC scope cl C X.env) fp) g (own.map (·.2)) tg wg) (ht : ∀ (s : Shared) (H : Hp) (C : Addr) (cl : List (Str × Addr)) (fp : List Addr), DTs (X.blk s H scope (compEnvC scope cl C X.env) fp) g ifs wt)
    (he : ∀ (s : Shared) (H : Hp) (C : Addr) (cl : List (Str × Addr)) (fp : List Addr), DE (X.blk s H scope (compEnvC scope cl C X.env) fp) g elt we) (hs : ∀ x, foldedSetIterable iter X.env x = pure x := by intro _; rfl)
    (sa : starEach [.SetComp elt [⟨tg, iter, ifs, 0⟩] scope pos] X.env = (false, eval (.SetComp elt [⟨tg, iter, ifs, 0⟩] scope pos) X.env) :: starEach [] X.env := by rfl) :
    DE X g (.Call (.Name "len" p) [.SetComp elt [⟨tg, iter, ifs, 0⟩] scope pos] [] pos2) (wLenSc wi wg wt we (own.map (·.2))) := by
  refine ⟨(pe_callB cr_lenM hgg hm boot_len (pa_cons (pe_scM (g := liftGv X.K g (own.map (·.2)) wg) (tt := liftT X.K g wt) (te := liftE X.K g we) hc hN hi.pi ok (fun s H C cl fp => (hg s H C cl fp).pg) (fun s H C cl fp => (ht s H C cl fp).pt) (fun s H C cl fp => (he s H C cl fp).pe) hs) pa_nil sa) (he := sa)).imp fun σ H Q h => ?_⟩
  obtain ⟨Z, ρ, Pq, R, w, k⟩ := h
  show tScM X.prog X.w (liftI X.K g wi) (liftGv X.K g (own.map (·.2)) wg) (liftT X.K g wt) (liftE X.K g we) (own.map (·.2)) σ H (fun x H1 => rLenM X.prog X.w [x] H1 Q)
  refine scm_core R w fun acc Z' H' ρ' C R' s' hC ko q => ⟨C, _, rfl, hC, ?_⟩
  rw [List.length_map]
  exact k (.val (.int acc.length)) _ Z' H' ρ' R' s' (Rep.int _) q
end
end VS
namespace VS
open PySem PySem.Spec PyProof.Rows L2

/-! ### the helpers that the laws share, as plain data -/
def boxD (l : List Int) (i : Int) : D := .lst [.lst (l.map .int), .int i]
def BoxOk (b : D) : Prop := ∃ l i, 0 ≤ i ∧ b = boxD l i
def spCell : DSp := fun ds P => ∃ ns k, ds = [.scr ns, .int k] ∧ 0 ≤ k ∧ ∀ c, P (.val (.int c)) []
def spDigits : DSp := fun ds P => ∃ ns a b, ds = [.scr ns, .int a, .int b] ∧ 0 ≤ a ∧ a ≤ 1000 ∧ 0 ≤ b ∧ b ≤ 1000 ∧ ∀ l : List Int, P (.tmp (.lst (l.map .int))) []
def spDraw : DSp := fun ds P => ∃ b many, ds = [b, .int many] ∧ BoxOk b ∧ 0 < many ∧ ∀ r b', 0 ≤ r → r < many → BoxOk b' → P (.val (.int r)) [b']
def spPick : DSp := fun ds P => ∃ b row xs, ds = [b, row] ∧ BoxOk b ∧ (∀ n, row ≠ .scr n) ∧ itemsD row = some xs ∧ xs ≠ [] ∧ xs.length ≤ 1000000 ∧ ∀ x b', x ∈ xs → BoxOk b' → P (.val x) [b']
def spSome : DSp := fun ds P => ∃ b l many, ds = [b, .lst l, .int many] ∧ BoxOk b ∧ 0 ≤ many ∧ many ≤ l.length ∧ l.length ≤ 1000000 ∧ ∀ F L b', (F ++ L).Perm l → (F.length : Int) = many → BoxOk b' → P (.tmp (.lst F)) [b']
/-- data of which repr is short -/
def Pl : Nat → D → Prop
  | _, .non => True
  | _, .bl _ => True
  | _, .int i => i.natAbs < 2 ^ 1900
  | _, .str s => s.length ≤ 1000000
  | n + 1, .tup l => l.length ≤ 1000000 ∧ ∀ x ∈ l, Pl n x
  | n + 1, .lst l => l.length ≤ 1000000 ∧ ∀ x ∈ l, Pl n x
  | _, _ => False
def spSame (n : Nat) : DSp := fun ds P => ∃ d, ds = [d, d] ∧ Pl n d ∧ P (.val (.bl true)) []

def v_law_cell : WS :=
  wSeq (wIfS (wTest (wBin ltD (wVar 1) (wCB lenD (wCons (wVar 0) wNil)))) (wRet (wBin ixD (wVar 0) (wVar 1))) wNx)
    (wRet (wC (.int 0)))
theorem v_cell {ds : List D} {P : T → List D → Prop} (h : spCell ds P) : bodySp [.rd, .rd] 2 v_law_cell ds P := by
  obtain ⟨ns, k, rfl, h0, hP⟩ := h
  refine ⟨fun h => ?_, fun h => ?_⟩
  · have h1 : k < (ns.length : Int) := of_decide_eq_true h
    obtain ⟨j, rfl⟩ : ∃ j : Nat, k = j := ⟨k.toNat, by omega⟩
    have hj : j < ns.length := by omega
    exact ⟨ns[j], atI_nat (List.getElem?_eq_getElem hj), hP _⟩
  · exact hP 0

def v_law_draw : WS :=
  wSeq (wPutIx 0 (wC (.int 1)) (wBin addD (wBin ixD (wVar 0) (wC (.int 1))) (wC (.int 1))))
    (wSeq (wIfS (wTest (wBin gtD (wBin ixD (wVar 0) (wC (.int 1))) (wCB lenD (wCons (wBin ixD (wVar 0) (wC (.int 0))) wNil)))) (wRet (wBin modD (wCB intD (wCons (wBin addD (wBin mulD (wBin ixD (wVar 0) (wC (.int 1))) (wC (.int 7))) (wC (.int 3))) wNil)) (wVar 1))) wNx)
    (wRet (wBin modD (wCB intD (wCons (wBin ixD (wBin ixD (wVar 0) (wC (.int 0))) (wBin subD (wBin ixD (wVar 0) (wC (.int 1))) (wC (.int 1)))) wNil)) (wVar 1))))
theorem v_draw {ds : List D} {P : T → List D → Prop} (h : spDraw ds P) : bodySp [.mu, .rd] 2 v_law_draw ds P := by
  obtain ⟨b, many, rfl, ⟨l, i, h0, rfl⟩, hm, hP⟩ := h
  have fin : ∀ r : Int, 0 ≤ r → r < many → P (.val (.int r)) [boxD l (i + 1)] := fun r h1 h2 => hP r _ h1 h2 ⟨l, i + 1, by omega, rfl⟩
  refine ⟨_, rfl, rfl, _, rfl, _, rfl, _, rfl, fun h => ?_, fun h => ?_⟩
  · refine ⟨_, rfl, .inl (.inr (by decide)), hm, ?_⟩
    exact fin _ (Int.emod_nonneg _ (by omega)) (Int.emod_lt_of_pos _ hm)
  · have h1 : ¬ (((l.map D.int).length : Nat) : Int) < i + 1 := of_decide_eq_false h
    rw [List.length_map] at h1
    obtain ⟨j, rfl⟩ : ∃ j : Nat, i = j := ⟨i.toNat, by omega⟩
    have hj : j < l.length := by omega
    refine ⟨_, rfl, _, rfl, _, (show atI (l.map D.int) ((j : Int) + 1 - 1) = some (.int l[j]) from ?_), hm, ?_⟩
    · rw [Int.add_sub_cancel]
      exact atI_nat (by simp [hj])
    · exact fin _ (Int.emod_nonneg _ (by omega)) (Int.emod_lt_of_pos _ hm)

/-- an index below the length -/
theorem atI_mod {α : Type} {xs : List α} {r : Int} (hn : xs ≠ []) : ∃ x, x ∈ xs ∧ atI xs (r % (xs.length : Int)) = some x := by
  have hl : 0 < xs.length := List.length_pos_iff.mpr hn
  have h1 := Int.emod_nonneg r (b := (xs.length : Int)) (by omega)
  have h2 := Int.emod_lt_of_pos r (b := (xs.length : Int)) (by omega)
  obtain ⟨j, hj⟩ : ∃ j : Nat, r % (xs.length : Int) = j := ⟨(r % (xs.length : Int)).toNat, by omega⟩
  rw [hj] at h2 ⊢
  have hj2 : j < xs.length := by omega
  exact ⟨xs[j], List.getElem_mem hj2, atI_nat (List.getElem?_eq_getElem hj2)⟩
def v_law_pick (sp : DSp) : WS :=
  wRet (wBin ixD (wVar 1) (wBin modD (wCB intD (wCons (wCallM 0 [.mu, .rd] sp (wCons (wVar 0) (wCons (wC (.int 1000)) wNil))) wNil)) (wCB lenD (wCons (wVar 1) wNil))))
theorem v_pick {ds : List D} {P : T → List D → Prop} (h : spPick ds P) : bodySp [.mu, .rd] 2 (v_law_pick spDraw) ds P := by
  obtain ⟨b, row, xs, rfl, ⟨l, i, h0, rfl⟩, ns, hi, hn, hl, hP⟩ := h
  have len : 0 < (xs.length : Int) := by have := List.length_pos_iff.mpr hn; omega
  have fin : ∀ x b', x ∈ xs → BoxOk b' → P (.val x) [b'] := hP
  cases row with
  | lst l2 =>
    cases hi
    refine ⟨_, 0, rfl, rfl, rfl, _, 1000, rfl, ⟨l, i, h0, rfl⟩, by decide, fun r b' r0 r1 bo => ?_⟩
    obtain ⟨l', i', h0', rfl⟩ := bo
    obtain ⟨x, m, e⟩ := atI_mod (r := r) hn
    exact ⟨len, x, e, fin x _ m ⟨l', i', h0', rfl⟩⟩
  | tup l2 =>
    cases hi
    refine ⟨_, 0, rfl, rfl, rfl, _, 1000, rfl, ⟨l, i, h0, rfl⟩, by decide, fun r b' r0 r1 bo => ?_⟩
    obtain ⟨l', i', h0', rfl⟩ := bo
    obtain ⟨x, m, e⟩ := atI_mod (r := r) hn
    exact ⟨len, x, e, fin x _ m ⟨l', i', h0', rfl⟩⟩
  | str s =>
    cases hi
    rw [List.length_map] at len hl
    refine ⟨_, 0, rfl, rfl, rfl, _, 1000, rfl, ⟨l, i, h0, rfl⟩, by decide, fun r b' r0 r1 bo => ?_⟩
    obtain ⟨l', i', h0', rfl⟩ := bo
    have hs : s ≠ [] := fun z => by subst z; exact hn rfl
    obtain ⟨x, m, e⟩ := atI_mod (r := r) hs
    exact ⟨by omega, len, by omega, x, e, fin _ _ (List.mem_map_of_mem m) ⟨l', i', h0', rfl⟩⟩
  | scr n => exact absurd rfl (ns n)
  | _ => cases hi

def v_law_some (sp : DSp) : WS :=
  wSeq (wAsg 3 (wCB listD (wCons (wVar 1) wNil)))
    (wSeq (wAsg 4 (wLst wNil))
    (wSeq (wFor (wiR1 (wCons (wVar 2) wNil)) (wgN 5) (wDrop (wMut 4 appendD (wCons (wMut 3 popD (wCons (wBin modD (wCB intD (wCons (wCallM 0 [.mu, .rd] sp (wCons (wVar 0) (wCons (wC (.int 1000)) wNil))) wNil)) (wCB lenD (wCons (wVar 3) wNil))) wNil)) wNil))))
    (wRet (wVar 4))))
theorem ixN_at {n j : Nat} (hj : j < n) : ixN n (j : Int) = some j := by
  unfold ixN
  rw [if_pos (by omega), if_pos (by omega)]
  simp
theorem take_pop {α : Type} {L : List α} {r : Int} (hn : 0 < L.length) : ∃ k d, ixN L.length (r % (L.length : Int)) = some k ∧ L[k]? = some d ∧ -(2 ^ 63) ≤ r % (L.length : Int) ∧ (d :: L.eraseIdx k).Perm L := by
  have h1 := Int.emod_nonneg r (b := (L.length : Int)) (by omega)
  have h2 := Int.emod_lt_of_pos r (b := (L.length : Int)) (by omega)
  obtain ⟨j, hj⟩ : ∃ j : Nat, r % (L.length : Int) = j := ⟨(r % (L.length : Int)).toNat, by omega⟩
  rw [hj] at h2 ⊢
  have hj2 : j < L.length := by omega
  refine ⟨j, L[j], ixN_at hj2, List.getElem?_eq_getElem hj2, by omega, erase_perm L j _ (List.getElem?_eq_getElem hj2)⟩
theorem some_loop {row' : Sl} {l : List D} {many : Int} {P : WEnds} (hl : l.length ≤ 1000000) : ∀ (ds : List D) (F L : List D) (b : D) (x : Sl), ds.length ≤ L.length → (F ++ L).Perm l → BoxOk b →
    (∀ F' L' b' x, (F' ++ L').Perm l → F'.length = F.length + ds.length → BoxOk b' → P.nx [.mu b', row', .fz (.int many), .own (.lst L'), .own (.lst F'), x]) →
    wLoop (wgN 5) (wDrop (wMut 4 appendD (wCons (wMut 3 popD (wCons (wBin modD (wCB intD (wCons (wCallM 0 [.mu, .rd] spDraw (wCons (wVar 0) (wCons (wC (.int 1000)) wNil))) wNil)) (wCB lenD (wCons (wVar 3) wNil))) wNil)) wNil))) P ds
      [.mu b, row', .fz (.int many), .own (.lst L), .own (.lst F), x]
  | [], F, L, b, x, _, p, bo, h => h F L b x p rfl bo
  | d :: ds, F, L, b, x, le, p, bo, h => by
    obtain ⟨bl, bi, b0, rfl⟩ := bo
    have hL : 0 < L.length := by simp at le; omega
    refine ⟨trivial, trivial, _, 0, rfl, rfl, rfl, _, 1000, rfl, ⟨bl, bi, b0, rfl⟩, by decide, fun r b' r0 r1 bo => ?_⟩
    obtain ⟨l', i', h0', rfl⟩ := bo
    obtain ⟨k, e, k1, k2, k3, k4⟩ := take_pop (r := r) hL
    have ll := p.length_eq
    have lk := k4.length_eq
    simp at ll lk le
    have lt : r % (L.length : Int) < 2 ^ 63 := by
      have := Int.emod_lt_of_pos r (b := (L.length : Int)) (by omega)
      omega
    refine ⟨by omega, k3, lt, k, e, k1, k2, by omega, ?_⟩
    refine some_loop hl ds (F ++ [e]) (L.eraseIdx k) _ _ (by omega) ?_ ⟨l', i', h0', rfl⟩ fun F' L' b' x' p' q' bo' => h F' L' b' x' p' (by simp at q' ⊢; omega) bo'
    refine List.Perm.trans ?_ p
    rw [List.append_assoc]
    exact List.Perm.append_left F k4
theorem v_some {ds : List D} {P : T → List D → Prop} (h : spSome ds P) : bodySp [.mu, .rd, .rd] 6 (v_law_some spDraw) ds P := by
  obtain ⟨b, l, many, rfl, ⟨bl, bi, b0, rfl⟩, m0, m1, hl, hP⟩ := h
  obtain ⟨n, rfl⟩ : ∃ n : Nat, many = n := ⟨many.toNat, by omega⟩
  refine ⟨by decide, n, rfl, ⟨by omega, by omega⟩, ?_⟩
  refine some_loop (row' := .lent (.lst l)) hl _ [] l _ _ ?_ (.refl _) ⟨bl, bi, b0, rfl⟩ fun F' L' b' x p q bo => ?_
  · simp [rng]; omega
  · exact hP F' L' b' p (by simp [rng] at q; omega) bo

def v_law_digits (sp : DSp) : WS :=
  wSeq (wAsg 3 (wLst wNil))
    (wSeq (wFor (wiR2 (wCons (wVar 1) (wCons (wVar 2) wNil))) (wgN 4) (wSeq (wAsg 5 (wCall [.rd, .rd] sp (wCons (wVar 0) (wCons (wVar 4) wNil))))
      (wSeq (wIfS (wTest (wBin ltD (wVar 5) (wC (.int 0)))) (wAsg 5 (wBin subD (wC (.int 1)) (wBin mulD (wC (.int 2)) (wVar 5)))) wNx)
      (wIfS (wTest (wBin geD (wVar 5) (wBin powD (wC (.int 10)) (wC (.int 18))))) (wFor (wiR1 (wCons (wC (.int 60)) wNil)) (wgN 6) (wIfS (wTest (wBin gtD (wVar 5) (wC (.int 0)))) (wSeq (wDrop (wMut 3 appendD (wCons (wBin modD (wCB intD (wCons (wVar 5) wNil)) (wC (.int 1000))) wNil)))
        (wAsg 5 (wBin fdivD (wVar 5) (wC (.int 1000))))) wNx)) (wSeq (wAsg 7 (wBin modD (wCB intD (wCons (wBin addD (wBin addD (wBin mulD (wVar 5) (wC (.int 48271))) (wBin mulD (wVar 4) (wC (.int 69621)))) (wC (.int 11))) wNil)) (wC (.int 2147483647))))
        (wFor (wiR1 (wCons (wC (.int 12)) wNil)) (wgN 6) (wSeq (wAsg 7 (wBin modD (wCB intD (wCons (wBin addD (wBin addD (wBin mulD (wVar 7) (wC (.int 16807))) (wBin mulD (wC (.int 7)) (wVar 6))) (wC (.int 1))) wNil)) (wC (.int 2147483647))))
          (wDrop (wMut 3 appendD (wCons (wBin modD (wCB intD (wCons (wBin fdivD (wVar 7) (wC (.int 997))) wNil)) (wC (.int 1000))) wNil))))))))))
    (wRet (wVar 3)))
def dgRho (ns : List Int) (a b k c : Int) (l : List Int) (x y : Sl) : Rho := [.fz (.scr ns), .fz (.int a), .fz (.int b), .own (.lst (l.map .int)), .fz (.int k), .fz (.int c), x, y]
theorem dg_app {l : List Int} {c : Int} : (l.map D.int) ++ [D.int c] = (l ++ [c]).map D.int := by simp
theorem dg_in1 {ns : List Int} {a b k : Int} {y : Sl} {P : WEnds} : ∀ (ds : List D) (c : Int) (l : List Int) (x : Sl), l.length + ds.length ≤ 1000000 →
    (∀ c' (l' : List Int) x', l'.length ≤ l.length + ds.length → P.nx (dgRho ns a b k c' l' x' y)) →
    wLoop (wgN 6) (wIfS (wTest (wBin gtD (wVar 5) (wC (.int 0)))) (wSeq (wDrop (wMut 3 appendD (wCons (wBin modD (wCB intD (wCons (wVar 5) wNil)) (wC (.int 1000))) wNil)))
        (wAsg 5 (wBin fdivD (wVar 5) (wC (.int 1000))))) wNx) P ds (dgRho ns a b k c l x y)
  | [], c, l, x, _, h => h c l x (by simp)
  | d :: ds, c, l, x, le, h => by
    simp only [List.length_cons] at le h
    refine ⟨fun _ => ⟨trivial, by decide, by rw [List.length_map]; omega, by decide, by decide, ?_⟩, fun _ => ?_⟩
    · have := dg_in1 ds (c / 1000) (l ++ [c % 1000]) (.fz d) (by simp; omega) (P := P) (fun c' l' x' q => h c' l' x' (by simp at q; omega))
      rw [dgRho, ← dg_app] at this
      exact this
    · exact dg_in1 ds c l (.fz d) (by omega) fun c' l' x' q => h c' l' x' (by omega)
theorem dg_in2 {ns : List Int} {a b k c : Int} {P : WEnds} : ∀ (n i : Nat) (l : List Int) (x : Sl) (sd : Int), l.length + n ≤ 1000000 →
    (∀ (l' : List Int) x' y', l'.length ≤ l.length + n → P.nx (dgRho ns a b k c l' x' y')) →
    wLoop (wgN 6) (wSeq (wAsg 7 (wBin modD (wCB intD (wCons (wBin addD (wBin addD (wBin mulD (wVar 7) (wC (.int 16807))) (wBin mulD (wC (.int 7)) (wVar 6))) (wC (.int 1))) wNil)) (wC (.int 2147483647))))
          (wDrop (wMut 3 appendD (wCons (wBin modD (wCB intD (wCons (wBin fdivD (wVar 7) (wC (.int 997))) wNil)) (wC (.int 1000))) wNil)))) P ((List.range' i n).map fun j => D.int ((j : Nat) : Int)) (dgRho ns a b k c l x (.fz (.int sd)))
  | 0, i, l, x, sd, _, h => h l x _ (by simp)
  | n + 1, i, l, x, sd, le, h => by
    rw [List.range'_succ, List.map_cons]
    refine ⟨.inl (.inr (by decide)), .inl (.inl (by decide)), by decide, trivial, by decide, by decide, by decide, by rw [List.length_map]; omega, ?_⟩
    have := dg_in2 n (i + 1) (l ++ [((sd * 16807 + 7 * (i : Int) + 1) % 2147483647) / 997 % 1000]) (.fz (.int i)) ((sd * 16807 + 7 * (i : Int) + 1) % 2147483647) (by simp; omega) (P := P) (fun l' x' y' q => h l' x' y' (by simp at q; omega))
    rw [dgRho, ← dg_app] at this
    exact this
theorem dg_in3 {ns : List Int} {a b k c : Int} {P : WEnds} {ds : List D} (n : Nat) (l : List Int) (x : Sl) (sd : Int) (e : ds = (List.range' 0 n).map fun j => D.int ((j : Nat) : Int)) (hl : l.length + n ≤ 1000000)
    (h : ∀ (l' : List Int) x' y', l'.length ≤ l.length + n → P.nx (dgRho ns a b k c l' x' y')) :
    wLoop (wgN 6) (wSeq (wAsg 7 (wBin modD (wCB intD (wCons (wBin addD (wBin addD (wBin mulD (wVar 7) (wC (.int 16807))) (wBin mulD (wC (.int 7)) (wVar 6))) (wC (.int 1))) wNil)) (wC (.int 2147483647))))
          (wDrop (wMut 3 appendD (wCons (wBin modD (wCB intD (wCons (wBin fdivD (wVar 7) (wC (.int 997))) wNil)) (wC (.int 1000))) wNil)))) P ds (dgRho ns a b k c l x (.fz (.int sd))) := by
  subst e
  exact dg_in2 n 0 l x sd hl h
theorem dg_rng {n : Nat} : rng 0 n = (List.range' 0 n).map fun j => D.int ((j : Nat) : Int) := by
  unfold rng
  rw [List.range_eq_range']
  exact List.map_congr_left fun j _ => by simp
theorem dg_out {ns : List Int} {a b : Int} {P : WEnds} : ∀ (ds : List Int) (l : List Int) (x4 x5 x y : Sl), l.length + 60 * ds.length ≤ 900000 → (∀ i ∈ ds, 0 ≤ i) →
    (∀ (l' : List Int) x4 x5 x y, P.nx [.fz (.scr ns), .fz (.int a), .fz (.int b), .own (.lst (l'.map .int)), x4, x5, x, y]) →
    wLoop (wgN 4) (wSeq (wAsg 5 (wCall [.rd, .rd] spCell (wCons (wVar 0) (wCons (wVar 4) wNil))))
      (wSeq (wIfS (wTest (wBin ltD (wVar 5) (wC (.int 0)))) (wAsg 5 (wBin subD (wC (.int 1)) (wBin mulD (wC (.int 2)) (wVar 5)))) wNx)
      (wIfS (wTest (wBin geD (wVar 5) (wBin powD (wC (.int 10)) (wC (.int 18))))) (wFor (wiR1 (wCons (wC (.int 60)) wNil)) (wgN 6) (wIfS (wTest (wBin gtD (wVar 5) (wC (.int 0)))) (wSeq (wDrop (wMut 3 appendD (wCons (wBin modD (wCB intD (wCons (wVar 5) wNil)) (wC (.int 1000))) wNil)))
        (wAsg 5 (wBin fdivD (wVar 5) (wC (.int 1000))))) wNx)) (wSeq (wAsg 7 (wBin modD (wCB intD (wCons (wBin addD (wBin addD (wBin mulD (wVar 5) (wC (.int 48271))) (wBin mulD (wVar 4) (wC (.int 69621)))) (wC (.int 11))) wNil)) (wC (.int 2147483647))))
        (wFor (wiR1 (wCons (wC (.int 12)) wNil)) (wgN 6) (wSeq (wAsg 7 (wBin modD (wCB intD (wCons (wBin addD (wBin addD (wBin mulD (wVar 7) (wC (.int 16807))) (wBin mulD (wC (.int 7)) (wVar 6))) (wC (.int 1))) wNil)) (wC (.int 2147483647))))
          (wDrop (wMut 3 appendD (wCons (wBin modD (wCB intD (wCons (wBin fdivD (wVar 7) (wC (.int 997))) wNil)) (wC (.int 1000))) wNil)))))))))
      P (ds.map .int) [.fz (.scr ns), .fz (.int a), .fz (.int b), .own (.lst (l.map .int)), x4, x5, x, y]
  | [], l, x4, x5, x, y, _, _, h => h l x4 x5 x y
  | i :: ds, l, x4, x5, x, y, le, hi, h => by
    simp only [List.length_cons] at le
    have i0 := hi i List.mem_cons_self
    have go : ∀ (l' : List Int) (x4 x5 x y : Sl), l'.length ≤ l.length + 60 → _ := fun l' x4 x5 x y q => dg_out (P := P) ds l' x4 x5 x y (by omega) (fun j m => hi j (List.mem_cons_of_mem _ m)) h
    refine ⟨_, rfl, ns, i, rfl, i0, fun c => ?_⟩
    have big : ∀ c : Int, (wIfS (wTest (wBin geD (wVar 5) (wBin powD (wC (.int 10)) (wC (.int 18))))) (wFor (wiR1 (wCons (wC (.int 60)) wNil)) (wgN 6) (wIfS (wTest (wBin gtD (wVar 5) (wC (.int 0)))) (wSeq (wDrop (wMut 3 appendD (wCons (wBin modD (wCB intD (wCons (wVar 5) wNil)) (wC (.int 1000))) wNil)))
        (wAsg 5 (wBin fdivD (wVar 5) (wC (.int 1000))))) wNx)) (wSeq (wAsg 7 (wBin modD (wCB intD (wCons (wBin addD (wBin addD (wBin mulD (wVar 5) (wC (.int 48271))) (wBin mulD (wVar 4) (wC (.int 69621)))) (wC (.int 11))) wNil)) (wC (.int 2147483647))))
        (wFor (wiR1 (wCons (wC (.int 12)) wNil)) (wgN 6) (wSeq (wAsg 7 (wBin modD (wCB intD (wCons (wBin addD (wBin addD (wBin mulD (wVar 7) (wC (.int 16807))) (wBin mulD (wC (.int 7)) (wVar 6))) (wC (.int 1))) wNil)) (wC (.int 2147483647))))
          (wDrop (wMut 3 appendD (wCons (wBin modD (wCB intD (wCons (wBin fdivD (wVar 7) (wC (.int 997))) wNil)) (wC (.int 1000))) wNil)))))))
        ⟨fun ρ2 => wLoop (wgN 4) (wSeq (wAsg 5 (wCall [.rd, .rd] spCell (wCons (wVar 0) (wCons (wVar 4) wNil))))
      (wSeq (wIfS (wTest (wBin ltD (wVar 5) (wC (.int 0)))) (wAsg 5 (wBin subD (wC (.int 1)) (wBin mulD (wC (.int 2)) (wVar 5)))) wNx)
      (wIfS (wTest (wBin geD (wVar 5) (wBin powD (wC (.int 10)) (wC (.int 18))))) (wFor (wiR1 (wCons (wC (.int 60)) wNil)) (wgN 6) (wIfS (wTest (wBin gtD (wVar 5) (wC (.int 0)))) (wSeq (wDrop (wMut 3 appendD (wCons (wBin modD (wCB intD (wCons (wVar 5) wNil)) (wC (.int 1000))) wNil)))
        (wAsg 5 (wBin fdivD (wVar 5) (wC (.int 1000))))) wNx)) (wSeq (wAsg 7 (wBin modD (wCB intD (wCons (wBin addD (wBin addD (wBin mulD (wVar 5) (wC (.int 48271))) (wBin mulD (wVar 4) (wC (.int 69621)))) (wC (.int 11))) wNil)) (wC (.int 2147483647))))
        (wFor (wiR1 (wCons (wC (.int 12)) wNil)) (wgN 6) (wSeq (wAsg 7 (wBin modD (wCB intD (wCons (wBin addD (wBin addD (wBin mulD (wVar 7) (wC (.int 16807))) (wBin mulD (wC (.int 7)) (wVar 6))) (wC (.int 1))) wNil)) (wC (.int 2147483647))))
          (wDrop (wMut 3 appendD (wCons (wBin modD (wCB intD (wCons (wBin fdivD (wVar 7) (wC (.int 997))) wNil)) (wC (.int 1000))) wNil)))))))))
      P (ds.map .int) ρ2, P.rt, P.bk, fun ρ2 => wLoop (wgN 4) (wSeq (wAsg 5 (wCall [.rd, .rd] spCell (wCons (wVar 0) (wCons (wVar 4) wNil))))
      (wSeq (wIfS (wTest (wBin ltD (wVar 5) (wC (.int 0)))) (wAsg 5 (wBin subD (wC (.int 1)) (wBin mulD (wC (.int 2)) (wVar 5)))) wNx)
      (wIfS (wTest (wBin geD (wVar 5) (wBin powD (wC (.int 10)) (wC (.int 18))))) (wFor (wiR1 (wCons (wC (.int 60)) wNil)) (wgN 6) (wIfS (wTest (wBin gtD (wVar 5) (wC (.int 0)))) (wSeq (wDrop (wMut 3 appendD (wCons (wBin modD (wCB intD (wCons (wVar 5) wNil)) (wC (.int 1000))) wNil)))
        (wAsg 5 (wBin fdivD (wVar 5) (wC (.int 1000))))) wNx)) (wSeq (wAsg 7 (wBin modD (wCB intD (wCons (wBin addD (wBin addD (wBin mulD (wVar 5) (wC (.int 48271))) (wBin mulD (wVar 4) (wC (.int 69621)))) (wC (.int 11))) wNil)) (wC (.int 2147483647))))
        (wFor (wiR1 (wCons (wC (.int 12)) wNil)) (wgN 6) (wSeq (wAsg 7 (wBin modD (wCB intD (wCons (wBin addD (wBin addD (wBin mulD (wVar 7) (wC (.int 16807))) (wBin mulD (wC (.int 7)) (wVar 6))) (wC (.int 1))) wNil)) (wC (.int 2147483647))))
          (wDrop (wMut 3 appendD (wCons (wBin modD (wCB intD (wCons (wBin fdivD (wVar 7) (wC (.int 997))) wNil)) (wC (.int 1000))) wNil)))))))))
      P (ds.map .int) ρ2⟩ (dgRho ns a b i c l x y) := fun c => by
      refine ⟨by decide, by decide, by decide, fun _ => ?_, fun _ => ?_⟩
      · refine ⟨60, rfl, by decide, ?_⟩
        exact dg_in1 _ c l x (by simp [rng]; omega) fun c' l' x' q => go l' _ _ _ _ (by simpa [rng] using q)
      · refine ⟨.inl (.inr (by decide)), .inl (.inr (by decide)), by decide, 12, rfl, by decide, ?_⟩
        exact dg_in3 12 l x _ dg_rng (by omega) fun l' x' y' q => go l' _ _ x' y' (by omega)
    refine ⟨fun _ => ⟨.inl (.inl (by decide)), ?_⟩, fun _ => ?_⟩
    · exact big _
    · exact big _
theorem v_digits {ds : List D} {P : T → List D → Prop} (h : spDigits ds P) : bodySp [.rd, .rd, .rd] 8 (v_law_digits spCell) ds P := by
  obtain ⟨ns, a, b, rfl, a0, a1, b0, b1, hP⟩ := h
  refine ⟨by decide, a, b, rfl, by omega, ?_⟩
  have e : rng a (b - a).toNat = ((List.range (b - a).toNat).map fun (k : Nat) => a + (k : Int)).map D.int := by
    unfold rng
    rw [List.map_map]
    rfl
  rw [e]
  refine dg_out _ [] _ _ _ _ (by simp; omega) (fun i m => ?_) fun l' x4 x5 x y => hP l'
  simp only [List.mem_map] at m
  obtain ⟨k, _, rfl⟩ := m
  omega
end VS
namespace VS
open PySem PySem.Spec PyProof.Rows L2

def v_law_same (sp : DSp) : WS :=
  wSeq (wIfS (wTest (wBin isD (wVar 1) (wC .non))) (wRet (wBin isD (wVar 0) (wC .non))) wNx)
    (wSeq (wIfS (wTest (wBin isD (wVar 1) (wC (.bl true)))) (wRet (wBin isD (wVar 0) (wC (.bl true)))) wNx)
    (wSeq (wIfS (wTest (wBin isD (wVar 1) (wC (.bl false)))) (wRet (wBin isD (wVar 0) (wC (.bl false)))) wNx)
    (wSeq (wIfS (wTest (wIsi "str" (wVar 1))) (wRet (wAndV (wIsi "str" (wVar 0)) (wReprEq (wVar 0) (wVar 1)))) wNx)
    (wSeq (wIfS (wTest (wIsi "int" (wVar 1))) (wRet (wAndV (wIsi "int" (wVar 0)) (wAndV (wNotV (wIsi "bool" (wVar 0))) (wReprEq (wVar 0) (wVar 1))))) wNx)
    (wSeq (wIfS (wOr (wAnd (wTest (wIsi "tuple" (wVar 1))) (wNot (wTest (wIsi "tuple" (wVar 0))))) (wAnd (wTest (wIsi "list" (wVar 1))) (wNot (wTest (wIsi "list" (wVar 0)))))) (wRet (wC (.bl false))) wNx)
    (wSeq (wIfS (wTest (wBin neD (wCB lenD (wCons (wVar 0) wNil)) (wCB lenD (wCons (wVar 1) wNil)))) (wRet (wC (.bl false))) wNx)
    (wSeq (wFor (wiR1 (wCons (wCB lenD (wCons (wVar 1) wNil)) wNil)) (wgN 2) (wIfS (wNot (wTest (wCall [.rd, .rd] sp (wCons (wBin ixD (wVar 0) (wVar 2)) (wCons (wBin ixD (wVar 1) (wVar 2)) wNil))))) (wRet (wC (.bl false))) wNx))
    (wRet (wC (.bl true))))))))))
/-- a fork whose test is known -/
theorem br_t {c : Bool} {A B : Prop} (e : c = true) (h : A) : br c A B := ⟨fun _ => h, fun q => absurd (e.symm.trans q) (fun z => nomatch z)⟩
theorem br_f {c : Bool} {A B : Prop} (e : c = false) (h : B) : br c A B := ⟨fun q => absurd (e.symm.trans q) (fun z => nomatch z), fun _ => h⟩
theorem same_loop {l : List D} {n : Nat} {P : WEnds} {s : Sl} (hs : s = .fz (.tup l) ∨ s = .lent (.lst l)) (pl : ∀ x ∈ l, Pl n x) (h : ∀ x, P.nx [s, s, x]) : ∀ (ks : List Nat) (x : Sl), (∀ k ∈ ks, k < l.length) →
    wLoop (wgN 2) (wIfS (wNot (wTest (wCall [.rd, .rd] (spSame n) (wCons (wBin ixD (wVar 0) (wVar 2)) (wCons (wBin ixD (wVar 1) (wVar 2)) wNil))))) (wRet (wC (.bl false))) wNx) P (ks.map fun k => D.int ((k : Nat) : Int)) [s, s, x]
  | [], x, _ => h x
  | k :: ks, x, hk => by
    have hk0 := hk k List.mem_cons_self
    have e := atI_nat (List.getElem?_eq_getElem hk0)
    have go := same_loop hs pl h ks (.fz (.int k)) fun j m => hk j (List.mem_cons_of_mem _ m)
    rcases hs with rfl | rfl
    · refine ⟨_, e, _, e, _, rfl, _, rfl, pl _ (List.getElem_mem hk0), ?_⟩
      exact ⟨fun q => absurd q Bool.false_ne_true, fun _ => go⟩
    · refine ⟨_, e, _, e, _, rfl, _, rfl, pl _ (List.getElem_mem hk0), ?_⟩
      exact ⟨fun q => absurd q Bool.false_ne_true, fun _ => go⟩
theorem rng_nat {n : Nat} : rng 0 ((n : Nat) : Int).toNat = (List.range n).map fun k => D.int ((k : Nat) : Int) := by
  unfold rng
  simp
theorem loop_eq {wg : WG} {wb : WS} {P : WEnds} {ds es : List D} {ρ : Rho} (e : ds = es) (h : wLoop wg wb P es ρ) : wLoop wg wb P ds ρ := by rw [e]; exact h
theorem v_same {n : Nat} {ds : List D} {P : T → List D → Prop} (sp : DSp) (hsp : ∀ m, n = m + 1 → sp = spSame m) (h : spSame n ds P) : bodySp [.rd, .rd] 3 (v_law_same sp) ds P := by
  obtain ⟨d, rfl, pl, hP⟩ := h
  cases d with
  | non => exact br_t rfl hP
  | bl b =>
    refine br_f rfl ?_
    cases b with
    | true => exact br_t rfl hP
    | false => exact br_f rfl (br_t rfl hP)
  | int i =>
    have b1 : i.natAbs < 2 ^ 1900 := by cases n <;> exact pl
    refine br_f rfl (br_f rfl (br_f rfl ⟨rfl, br_f (by simp [isiD, tyD]) ⟨rfl, br_t (by simp [isiD, tyD]) ⟨rfl, br_t (by simp [isiD, tyD]) ⟨rfl, br_t (by simp [isiD, tyD]) ⟨b1, rfl, hP⟩⟩⟩⟩⟩))
  | str s =>
    have b1 : s.length ≤ 1000000 := by cases n <;> exact pl
    exact br_f rfl (br_f rfl (br_f rfl ⟨rfl, br_t (by simp [isiD, tyD]) ⟨rfl, br_t (by simp [isiD, tyD]) ⟨b1, rfl, hP⟩⟩⟩))
  | tup l =>
    cases n with
    | zero => exact pl.elim
    | succ m =>
      obtain ⟨p1, p2⟩ := pl
      cases hsp m rfl
      refine br_f rfl (br_f rfl (br_f rfl ⟨rfl, br_f (by simp [isiD, tyD]) ⟨rfl, br_f (by simp [isiD, tyD]) ⟨rfl, br_t (by simp [isiD, tyD]) ⟨rfl, ?_⟩⟩⟩⟩))
      refine br_f (by simp [isiD, tyD]) ⟨rfl, br_f (by simp [isiD, tyD]) (br_f rfl ⟨rfl, rfl, br_f (by simp [eqb]) ⟨_, rfl, ⟨by omega, by omega⟩, ?_⟩⟩)⟩
      refine loop_eq rng_nat (same_loop (.inl rfl) p2 (fun x => hP) _ _ fun k m => by simpa using m)
  | lst l =>
    cases n with
    | zero => exact pl.elim
    | succ m =>
      obtain ⟨p1, p2⟩ := pl
      cases hsp m rfl
      refine br_f rfl (br_f rfl (br_f rfl ⟨rfl, br_f (by simp [isiD, tyD]) ⟨rfl, br_f (by simp [isiD, tyD]) ⟨rfl, br_f (by simp [isiD, tyD]) (br_f rfl ⟨rfl, br_t (by simp [isiD, tyD]) ⟨rfl, br_f (by simp [isiD, tyD]) ?_⟩⟩)⟩⟩⟩))
      refine ⟨rfl, rfl, br_f (by simp [eqb]) ⟨_, rfl, ⟨by omega, by omega⟩, ?_⟩⟩
      refine loop_eq rng_nat (same_loop (.inr rfl) p2 (fun x => hP) _ _ fun k m => by simpa using m)
  | dct b l => cases n <;> exact pl.elim
  | scr l => cases n <;> exact pl.elim
/-- a def whose promise is void -/
theorem dn_void {P : Program} {w : World} {K : PySem.W.Frag} {mg : Str → Option Value} {base : Heap} {x : Str} {f : Addr} {fd : FuncData} {ps : List Str} {k : Nat} (hm : mg x = some (.ref f)) (hk : PySem.W.keepIn K (.ref f) = true) (hb : Binds K fd ps []) (ms : List Md) : Dn P w K mg base k x ms (fun _ _ => False) :=
  ⟨f, fd, ps, hm, hk, hb, ⟨fun vs H Q E h => by obtain ⟨_, _, _, _, _, _, h, _⟩ := h; exact h.elim, fun A outer s H args us vs Q E _ _ _ _ h => by obtain ⟨_, _, _, _, _, _, h, _⟩ := h; exact h.elim⟩⟩
end VS
namespace VS
open PySem PySem.Spec PyProof.Rows L2

/-! ### comprehensions that change nothing -/
theorem comp_pure {wg : WG} {wt : WT} {we : WE} {vs : List Nat} {F : List D → Rho → Prop} {ρ0 : Rho} (f : D → Option D) : ∀ (ds acc : List D),
    (∀ d ∈ ds, ∀ C : Option D → Rho → Prop, C (f d) ρ0 → wg d ρ0 fun ρ1 => wt ρ1 fun b ρ2 => br b (we ρ2 fun t ρ3 => cap t ρ3 fun e ρ4 => C (some e) (wipeR vs ρ4)) (C none (wipeR vs ρ2))) →
    F (acc ++ ds.filterMap f) ρ0 → wComp wg wt we vs F ds acc ρ0
  | [], acc, _, h => by
    rw [List.filterMap_nil, List.append_nil] at h
    exact h
  | d :: ds, acc, hs, h => by
    have ih := fun acc' => comp_pure f (F := F) ds acc' fun d' m => hs d' (List.mem_cons_of_mem _ m)
    refine hs d List.mem_cons_self (fun o ρ => match o with
      | some e => wComp wg wt we vs F ds (acc ++ [e]) ρ
      | none => wComp wg wt we vs F ds acc ρ) ?_
    cases e : f d with
    | none =>
      refine ih acc ?_
      rw [List.filterMap_cons, e] at h
      exact h
    | some x =>
      refine ih (acc ++ [x]) ?_
      rw [List.filterMap_cons, e] at h
      rw [List.append_assoc]
      exact h
def insAll (acc : List D) : List D → List D
  | [] => acc
  | d :: ds => insAll (insD d acc) ds
theorem scomp_pure {wg : WG} {wt : WT} {we : WE} {vs : List Nat} {F : List D → Rho → Prop} {ρ0 : Rho} (f : D → Option D) : ∀ (ds acc : List D),
    (∀ d ∈ ds, ∀ C : Option D → Rho → Prop, C (f d) ρ0 → wg d ρ0 fun ρ1 => wt ρ1 fun b ρ2 => br b (we ρ2 fun t ρ3 => ∃ e, rd ρ3 t = some e ∧ isKey e = true ∧ C (some e) (wipeR vs ρ3)) (C none (wipeR vs ρ2))) →
    F (insAll acc (ds.filterMap f)) ρ0 → wScomp wg wt we vs F ds acc ρ0
  | [], acc, _, h => h
  | d :: ds, acc, hs, h => by
    have ih := fun acc' => scomp_pure f (F := F) ds acc' fun d' m => hs d' (List.mem_cons_of_mem _ m)
    refine hs d List.mem_cons_self (fun o ρ => match o with
      | some e => wScomp wg wt we vs F ds (insD e acc) ρ
      | none => wScomp wg wt we vs F ds acc ρ) ?_
    cases e : f d with
    | none =>
      refine ih acc ?_
      rw [List.filterMap_cons, e] at h
      exact h
    | some x =>
      refine ih (insD x acc) ?_
      rw [List.filterMap_cons, e] at h
      exact h
theorem fm_map {α β : Type} {f : D → Option D} {g : α → D} {h : α → β} {k : β → D} (e : ∀ a, f (g a) = some (k (h a))) (l : List α) : (l.map g).filterMap f = (l.map h).map k := by
  induction l with
  | nil => rfl
  | cons a l ih => simp [e, ih]
theorem fm_filter {α : Type} {f : D → Option D} {g : α → D} {p : α → Bool} (l : List α) (e : ∀ a ∈ l, f (g a) = if p a = true then some (g a) else none) : (l.map g).filterMap f = (l.filter p).map g := by
  induction l with
  | nil => rfl
  | cons a l ih =>
    have ih := ih fun b m => e b (List.mem_cons_of_mem _ m)
    have ea := e a List.mem_cons_self
    rw [List.map_cons, List.filterMap_cons, ea, List.filter_cons]
    by_cases h : p a = true
    · simp [h, ih]
    · simp [h, ih]
theorem asBls_of {bs : List Bool} : asBls (bs.map D.bl) = some bs := by
  induction bs with
  | nil => rfl
  | cons b l ih => simp [asBls, ih]

/-! ### one-sign texts -/
def chD (c : Nat) : D := .str [c]
def chs (K : List Nat) : List D := K.map chD
theorem eqb_ch (a b : Nat) : eqb (chD a) (chD b) = decide (a = b) := by
  show decide ([a] = [b]) = decide (a = b)
  simp
theorem any_ch (K : List Nat) (c : Nat) : ((chs K).any fun z => eqb z (chD c)) = decide (c ∈ K) := by
  induction K with
  | nil => simp [chs]
  | cons a K ih =>
    show (eqb (chD a) (chD c) || (chs K).any fun z => eqb z (chD c)) = _
    rw [ih, eqb_ch, Bool.eq_iff_iff]
    simp only [Bool.or_eq_true, decide_eq_true_eq, List.mem_cons]
    exact ⟨fun h => h.elim (fun e => .inl e.symm) .inr, fun h => h.elim (fun e => .inl e.symm) .inr⟩
theorem flat_str (n : Nat) (s : List Nat) : flat n (.str s) = true := by cases n <;> rfl
theorem flat_chs (n : Nat) (K : List Nat) : flat (n + 1) (.lst (chs K)) = true := by
  show (chs K).all (flat n) = true
  rw [List.all_eq_true]
  intro x m
  simp only [chs, List.mem_map] at m
  obtain ⟨c, _, rfl⟩ := m
  exact flat_str n _
theorem asStrs_chs (K : List Nat) : asStrs (chs K) = some (K.map fun c => [c]) := by
  have e : chs K = (K.map fun c => [c]).map D.str := by simp [chs, chD]
  rw [e]
  exact asStrs_map _
theorem items_str (s : List Nat) : itemsD (.str s) = some (chs s) := rfl
/-- sorted one-sign texts -/
def srtC (K : List Nat) : List Nat := ((sortS (K.map fun c => [c])).map fun s => s.headD 0)
theorem srtC_eq (K : List Nat) : (sortS (K.map fun c => [c])).map D.str = chs (srtC K) := by
  unfold chs srtC
  rw [List.map_map]
  refine List.map_congr_left fun s m => ?_
  have := (sortS_perm _).mem_iff.mp m
  simp only [List.mem_map] at this
  obtain ⟨c, _, rfl⟩ := this
  rfl
theorem srtC_perm (K : List Nat) : (srtC K).Perm K := by
  unfold srtC
  have := (sortS_perm (K.map fun c => [c])).map fun s => s.headD 0
  rw [List.map_map] at this
  have e : (List.map ((fun s => s.headD 0) ∘ fun c => [c]) K) = K := List.map_id _
  rw [e] at this
  exact this
theorem mem_srtC {K : List Nat} {c : Nat} : c ∈ srtC K ↔ c ∈ K := (srtC_perm K).mem_iff
/-- the same members, each once: the same in order -/
theorem srtC_congr {K J : List Nat} (h : K.Perm J) : srtC K = srtC J := by
  unfold srtC
  rw [sortS_uniq ((sortS_perm _).trans (h.map fun c => [c])) (sortS_le _)]
theorem perm_of {K J : List Nat} (hk : K.Nodup) (hj : J.Nodup) (h : ∀ c, c ∈ K ↔ c ∈ J) : K.Perm J := by
  induction K generalizing J with
  | nil =>
    cases J with
    | nil => exact .refl _
    | cons b J => exact absurd ((h b).mpr List.mem_cons_self) (by simp)
  | cons a K ih =>
    have ma : a ∈ J := (h a).mp List.mem_cons_self
    obtain ⟨h1, h2⟩ := List.nodup_cons.mp hk
    have := ih h2 (hj.erase a) fun c => by
      rw [List.Nodup.mem_erase_iff hj]
      constructor
      · intro m
        exact ⟨fun e => h1 (e ▸ m), (h c).mp (List.mem_cons_of_mem _ m)⟩
      · rintro ⟨ne, m⟩
        rcases List.mem_cons.mp ((h c).mpr m) with e | m
        · exact absurd e ne
        · exact m
    exact (this.cons a).trans (List.perm_cons_erase ma).symm
/-- sorted of one-sign texts, as an operation -/
theorem sorted_chs {K : List Nat} {P : T → Prop} (h : P (.tmp (.lst (chs (srtC K))))) : sortedD [.lst (chs K)] P := by
  refine .inr ⟨_, asStrs_chs K, ?_⟩
  rw [srtC_eq]
  exact h
def sg (h : Nat → Option D) : D → Option D
  | .str [c] => h c
  | _ => none
theorem fm_sg (h : Nat → Option D) (t : List Nat) : (chs t).filterMap (sg h) = t.filterMap h := by
  induction t with
  | nil => rfl
  | cons a l ih =>
    show (chD a :: chs l).filterMap (sg h) = _
    rw [List.filterMap_cons, List.filterMap_cons, ih]
    rfl
theorem of_chs {t : List Nat} {d : D} (m : d ∈ chs t) : ∃ c, c ∈ t ∧ d = chD c := by
  simp only [chs, List.mem_map] at m
  obtain ⟨c, h, rfl⟩ := m
  exact ⟨c, h, rfl⟩
theorem fm_some (t : List Nat) (k : Nat → D) : t.filterMap (fun c => some (k c)) = t.map k := by
  induction t with
  | nil => rfl
  | cons a l ih => simp
theorem fm_if (t : List Nat) (p : Nat → Bool) : t.filterMap (fun c => if p c = true then some (chD c) else none) = chs (t.filter p) := by
  induction t with
  | nil => rfl
  | cons a l ih =>
    rw [List.filterMap_cons, List.filter_cons]
    cases h : p a with
    | true => simp [ih, chs]
    | false => simp [ih]
end VS
namespace VS
open PySem PySem.Spec PyProof.Rows L2
def spTrue : DSp := fun ds P => ∃ ns : List Int, ns.length ≤ 63 ∧ ds = [.scr ns] ∧ P (.val (.bl true)) []
theorem sqF_of {K : PySem.W.Frag} {H : Hp} {a : Addr} {xs : List V} (ho : Only H) (h : SqL K H a xs) : SqF K H a xs := by
  rcases h with (h | h) | h
  · rcases ho a with q | ⟨o, ys, q⟩
    · rw [h] at q; cases q
    · rw [h] at q; cases q
  · exact .inl h
  · exact .inr h
theorem law_start {K : PySem.W.Frag} {H : Hp} {a : Addr} {ns : List Int} {E : XK} (hl : ns.length ≤ 63) (ho : Only H) (hs : SqL K H a (ns.map V.int)) : liftSp K [.rd] spTrue [.ref a] H (fun v _ => v = .bl true) E := by
  have noMu : ∀ i : Nat, ([Md.rd] : List Md)[i]? ≠ some Md.mu := fun i e => by
    cases i with
    | zero => cases e
    | succ i => simp at e
  refine ⟨fun _ => False, [.scr ns], fun t os => t = .val (.bl true), .cons (Rep.scr (sqF_of ho hs)) .nil, fun i j b h => absurd h (noMu i), fun _ z => z.elim, ⟨ns, hl, rfl, rfl⟩, fun t os v Z' H' _ _ _ _ _ ro _ e => ?_⟩
  subst e
  have r : Rep K Z' H' v (.bl true) := ro
  cases r
  rfl
/-- a def by its own promise -/
theorem Dn.fn {P : Program} {w : World} {K : PySem.W.Frag} {mg : Str → Option Value} {base : Heap} {k : Nat} {x : Str} {st : Stmt} {f : Addr} {fd : FuncData} {N ps : List Str} (F : Fun K x x st f fd) (S : FnScope N ps (defScope st)) (ms : List Md) (hms : ms.length = ps.length) (wb : WS) {sp : DSp}
    (hbody : ∀ (cdv : Value) (A : Around) (outer : List Env) (s : Shared) (H : Hp) (E : XK) (g : G), Room k (A.deeper (envOfC x (defScope st) s.heap.objs.size f cdv)) → DSs (cxOf CX0 P w K mg base N x (defScope st) f cdv A outer s H E).nox g (defBody st) wb)
    (m : ∀ ds Q, sp ds Q → bodySp ms N.length wb ds Q) : FnOk P w K mg base CX0 (k + 1) f fd ps (liftSp K ms sp) := fn_imp (fn_vs F S ms hms wb hbody) m
/-- the promise of a def at a known place -/
theorem Dn.at {P : Program} {w : World} {K : PySem.W.Frag} {mg : Str → Option Value} {base : Heap} {k : Nat} {x : Str} {ms : List Md} {sp : DSp} {f : Addr} {fd : FuncData} {ps : List Str} {oc : Value} {od : Option Addr} {sl : Array (Option Value)} (d : Dn P w K mg base k x ms sp) : ∃ f fd ps, mg x = some (.ref f) ∧ FnOk P w K mg base CX0 k f fd ps (liftSp K ms sp) := by
  obtain ⟨f, fd, ps, a, _, _, F⟩ := d.ex
  exact ⟨f, fd, ps, a, F⟩
end VS
namespace K49
open PySem PySem.Spec PyProof.Rows L2 VS
def topS (i : Nat) : Stmt := PySem.Challenge.pw_wordlands_k49_whole_names_that_are_of_us.main.body.getD i (.Pass ⟨0, 0, 0, 0⟩)
/-! ### is_name -/
abbrev sis_name : Stmt := topS 1
theorem scis_name : FnScope ["sign"] ["sign"] (defScope sis_name) := ⟨rfl, rfl, rfl, by decide +kernel, rfl, by decide +kernel, by decide +kernel⟩
def wis_name : WS :=
  wRet (wChain leD leD (wC (.str [65])) (wVar 0) (wC (.str [90])))
def mis_name : List Md := [.rd]
theorem okis_name {P : Program} {w : World} {K : PySem.W.Frag} {mg : Str → Option Value} {base : Heap} {k : Nat} {f : Addr} {fd : FuncData} (B : Bls mg) (F : Fun K "is_name" "is_name" sis_name f fd) (hm : mg "is_name" = some (.ref f)) (hb : Binds K fd ["sign"] []) :
    Dn P w K mg base (k + 1) "is_name" [.rd] (bodySp [.rd] 1 (wis_name)) :=
  dn_of (N := ["sign"]) F hm hb scis_name [.rd] rfl (wis_name) fun cdv A outer s H E g hr => by
    have S := scis_name
    exact dss_one (ds_ret (de_chain op_leD op_leD de_str (dv 0) de_str))
/-! ### names_of -/
abbrev snames_of : Stmt := topS 2
theorem scnames_of : FnScope ["rules", "found", "name", "text"] ["rules"] (defScope snames_of) := ⟨rfl, rfl, rfl, by decide +kernel, rfl, by decide +kernel, by decide +kernel⟩
def wnames_of : WS :=
  wSeq (wAsg 1 (wLst wNil))
          (wSeq (wFor (wiSeq (wVar 0)) (wgT 2 (wgCons (wgN 2) (wgCons (wgN 3) wgNil))) (wIfS (wTest (wBin notinD (wVar 2) (wVar 1))) (wDrop (wMut 1 appendD (wCons (wVar 2) wNil))) wNx))
          (wRet (wVar 1)))
def mnames_of : List Md := [.rd]
theorem oknames_of {P : Program} {w : World} {K : PySem.W.Frag} {mg : Str → Option Value} {base : Heap} {k : Nat} {f : Addr} {fd : FuncData} (B : Bls mg) (F : Fun K "names_of" "names_of" snames_of f fd) (hm : mg "names_of" = some (.ref f)) (hb : Binds K fd ["rules"] []) :
    Dn P w K mg base (k + 1) "names_of" [.rd] (bodySp [.rd] 4 (wnames_of)) :=
  dn_of (N := ["rules", "found", "name", "text"]) F hm hb scnames_of [.rd] rfl (wnames_of) fun cdv A outer s H E g hr => by
    have S := scnames_of
    exact dss_cons (dsa S.nd 1 (de_lst da_nil))
          (dss_cons (ds_for PassesOwn.never rfl (di_seq (dv 0)) (dg_tup rfl (dgs_cons (dgn S.nd 2) (dgs_cons (dgn S.nd 3) dgs_nil))) (dss_one (ds_if (dt_cmp (op_notinDD (room65 hr)) (dv 2) (dv 1)) (dss_one (ds_drop (de_mut PySem.F.plainAttrs_list PySem.F.slot_list_append PySem.F.type_list_append mt_appendD rfl (by first | exact Or.inl rfl | exact Or.inr (Or.inl rfl) | exact Or.inr (Or.inr rfl)) (da_cons (dv 2) da_nil)))) dss_nil)))
          (dss_one (ds_ret (dv 1))))
/-! ### empty_names -/
abbrev sempty_names : Stmt := topS 3
theorem scempty_names : FnScope ["rules", "found", "growing", "name", "text", "sign"] ["rules"] (defScope sempty_names) := ⟨rfl, rfl, rfl, by decide +kernel, rfl, by decide +kernel, by decide +kernel⟩
def wempty_names : WS :=
  wSeq (wAsg 1 (wLst wNil))
          (wSeq (wAsg 2 (wC (.bl true)))
          (wSeq (wWhile (wTest (wVar 2)) (wSeq (wAsg 2 (wC (.bl false)))
              (wFor (wiSeq (wVar 0)) (wgT 2 (wgCons (wgN 3) (wgCons (wgN 4) wgNil))) (wIfS (wAnd (wTest (wBin notinD (wVar 3) (wVar 1))) (wTest (wCB allD (wCons (wLc (wiSeq (wVar 4)) (wgN 5) wYes (wBin inD (wVar 5) (wVar 1)) [5]) wNil)))) (wSeq (wDrop (wMut 1 appendD (wCons (wVar 3) wNil)))
                      (wAsg 2 (wC (.bl true)))) wNx))))
          (wRet (wCB sortedD (wCons (wVar 1) wNil)))))
def mempty_names : List Md := [.rd]
theorem okempty_names {P : Program} {w : World} {K : PySem.W.Frag} {mg : Str → Option Value} {base : Heap} {k : Nat} {f : Addr} {fd : FuncData} (B : Bls mg) (F : Fun K "empty_names" "empty_names" sempty_names f fd) (hm : mg "empty_names" = some (.ref f)) (hb : Binds K fd ["rules"] []) :
    Dn P w K mg base (k + 1) "empty_names" [.rd] (bodySp [.rd] 6 (wempty_names)) :=
  dn_of (N := ["rules", "found", "growing", "name", "text", "sign"]) F hm hb scempty_names [.rd] rfl (wempty_names) fun cdv A outer s H E g hr => by
    have S := scempty_names
    exact dss_cons (dsa S.nd 1 (de_lst da_nil))
          (dss_cons (dsa S.nd 2 de_bl)
          (dss_cons (ds_while PassesOwn.never (dt_val (dv 2)) (dss_cons (dsa S.nd 2 de_bl)
              (dss_one (ds_for PassesOwn.never rfl (di_seq (dv 0)) (dg_tup rfl (dgs_cons (dgn S.nd 3) (dgs_cons (dgn S.nd 4) dgs_nil))) (dss_one (ds_if (dw_pt (dw_and (dt_cmp (op_notinDD (room65 hr)) (dv 3) (dv 1)) (dw_and1 (dt_val (de_cb (call_allDD rfl) (by rfl) B.all boot_all (da_cons (de_lc rfl S.nd (di_seq (dv 4)) (blkOk_by (own := [("sign", 5)]) (by rfl)) (fun _ _ _ _ _ => dgnv S.nd 5) (fun _ _ _ _ _ => dts_nil) (fun _ _ _ _ _ => de_cmp (op_inDD (room65 hr)) (dv 5) (dv 1))) da_nil)))))) (dss_cons (ds_drop (de_mut PySem.F.plainAttrs_list PySem.F.slot_list_append PySem.F.type_list_append mt_appendD rfl (by first | exact Or.inl rfl | exact Or.inr (Or.inl rfl) | exact Or.inr (Or.inr rfl)) (da_cons (dv 3) da_nil)))
                      (dss_one (dsa S.nd 2 de_bl))) dss_nil))))))
          (dss_one (ds_ret (de_cb call_sortedDD (by rfl) B.sorted boot_sorted (da_cons (dv 1) da_nil))))))
/-! ### useful_names -/
abbrev suseful_names : Stmt := topS 4
theorem scuseful_names : FnScope ["rules", "found", "growing", "name", "text", "sign"] ["rules"] (defScope suseful_names) := ⟨rfl, rfl, rfl, by decide +kernel, rfl, by decide +kernel, by decide +kernel⟩
def wuseful_names (spis_name : DSp) : WS :=
  wSeq (wAsg 1 (wLst wNil))
          (wSeq (wAsg 2 (wC (.bl true)))
          (wSeq (wWhile (wTest (wVar 2)) (wSeq (wAsg 2 (wC (.bl false)))
              (wFor (wiSeq (wVar 0)) (wgT 2 (wgCons (wgN 3) (wgCons (wgN 4) wgNil))) (wIfS (wAnd (wTest (wBin notinD (wVar 3) (wVar 1))) (wTest (wCB allD (wCons (wLc (wiSeq (wVar 4)) (wgN 5) wYes (wOrV (wNotV (wCall [.rd] spis_name (wCons (wVar 5) wNil))) (wBin inD (wVar 5) (wVar 1))) [5]) wNil)))) (wSeq (wDrop (wMut 1 appendD (wCons (wVar 3) wNil)))
                      (wAsg 2 (wC (.bl true)))) wNx))))
          (wRet (wCB sortedD (wCons (wVar 1) wNil)))))
def museful_names : List Md := [.rd]
theorem okuseful_names {P : Program} {w : World} {K : PySem.W.Frag} {mg : Str → Option Value} {base : Heap} {k : Nat} {f : Addr} {fd : FuncData} {spis_name : DSp} (B : Bls mg) (F : Fun K "useful_names" "useful_names" suseful_names f fd) (hm : mg "useful_names" = some (.ref f)) (hb : Binds K fd ["rules"] []) (Dis_name : Dn P w K mg base k "is_name" [.rd] spis_name) :
    Dn P w K mg base (k + 1) "useful_names" [.rd] (bodySp [.rd] 6 (wuseful_names spis_name)) :=
  dn_of (N := ["rules", "found", "growing", "name", "text", "sign"]) F hm hb scuseful_names [.rd] rfl (wuseful_names spis_name) fun cdv A outer s H E g hr => by
    have S := scuseful_names
    exact dss_cons (dsa S.nd 1 (de_lst da_nil))
          (dss_cons (dsa S.nd 2 de_bl)
          (dss_cons (ds_while PassesOwn.never (dt_val (dv 2)) (dss_cons (dsa S.nd 2 de_bl)
              (dss_one (ds_for PassesOwn.never rfl (di_seq (dv 0)) (dg_tup rfl (dgs_cons (dgn S.nd 3) (dgs_cons (dgn S.nd 4) dgs_nil))) (dss_one (ds_if (dw_pt (dw_and (dt_cmp (op_notinDD (room65 hr)) (dv 3) (dv 1)) (dw_and1 (dt_val (de_cb (call_allDD rfl) (by rfl) B.all boot_all (da_cons (de_lc rfl S.nd (di_seq (dv 4)) (blkOk_by (own := [("sign", 5)]) (by rfl)) (fun _ _ _ _ _ => dgnv S.nd 5) (fun _ _ _ _ _ => dts_nil) (fun _ _ _ _ _ => de_or (de_not (dcall Dis_name hr (da_cons (dv 5) da_nil))) (de_one (de_cmp (op_inDD (room65 hr)) (dv 5) (dv 1))))) da_nil)))))) (dss_cons (ds_drop (de_mut PySem.F.plainAttrs_list PySem.F.slot_list_append PySem.F.type_list_append mt_appendD rfl (by first | exact Or.inl rfl | exact Or.inr (Or.inl rfl) | exact Or.inr (Or.inr rfl)) (da_cons (dv 3) da_nil)))
                      (dss_one (dsa S.nd 2 de_bl))) dss_nil))))))
          (dss_one (ds_ret (de_cb call_sortedDD (by rfl) B.sorted boot_sorted (da_cons (dv 1) da_nil))))))
/-! ### reached_names -/
abbrev sreached_names : Stmt := topS 5
theorem screached_names : FnScope ["rules", "found", "at", "name", "text", "sign", "far"] ["rules"] (defScope sreached_names) := ⟨rfl, rfl, rfl, by decide +kernel, rfl, by decide +kernel, by decide +kernel⟩
def wreached_names (spis_name : DSp) : WS :=
  wSeq (wAsg 1 (wLst (wCons (wBin ixD (wBin ixD (wVar 0) (wC (.int 0))) (wC (.int 0))) wNil)))
          (wSeq (wAsg 2 (wC (.int 0)))
          (wSeq (wWhile (wTest (wBin ltD (wVar 2) (wCB lenD (wCons (wVar 1) wNil)))) (wSeq (wFor (wiSeq (wVar 0)) (wgT 2 (wgCons (wgN 3) (wgCons (wgN 4) wgNil))) (wIfS (wTest (wBin eqD (wVar 3) (wBin ixD (wVar 1) (wVar 2)))) (wDrop (wMut 1 extendD (wCons (wLc (wiSeq (wSortedSc (wiSeq (wVar 4)) (wgN 6) wYes (wVar 6) [6])) (wgN 5) (wAnd (wTest (wCall [.rd] spis_name (wCons (wVar 5) wNil))) (wTest (wBin notinD (wVar 5) (wVar 1)))) (wVar 5) [5]) wNil))) wNx))
              (wAug (fun i j => i + j) 2 (wC (.int 1)))))
          (wRet (wCB sortedD (wCons (wVar 1) wNil)))))
def mreached_names : List Md := [.rd]
theorem okreached_names {P : Program} {w : World} {K : PySem.W.Frag} {mg : Str → Option Value} {base : Heap} {k : Nat} {f : Addr} {fd : FuncData} {spis_name : DSp} (B : Bls mg) (F : Fun K "reached_names" "reached_names" sreached_names f fd) (hm : mg "reached_names" = some (.ref f)) (hb : Binds K fd ["rules"] []) (Dis_name : Dn P w K mg base k "is_name" [.rd] spis_name) :
    Dn P w K mg base (k + 1) "reached_names" [.rd] (bodySp [.rd] 7 (wreached_names spis_name)) :=
  dn_of (N := ["rules", "found", "at", "name", "text", "sign", "far"]) F hm hb screached_names [.rd] rfl (wreached_names spis_name) fun cdv A outer s H E g hr => by
    have S := screached_names
    exact dss_cons (dsa S.nd 1 (de_lst (da_cons (de_ix (ix_D (hu_of hr)) (de_ix (ix_D (hu_of hr)) (dv 0) de_int) de_int) da_nil)))
          (dss_cons (dsa S.nd 2 de_int)
          (dss_cons (ds_while PassesOwn.never (dt_cmp op_ltD (dv 2) (de_cb call_lenDD (by rfl) B.len boot_len (da_cons (dv 1) da_nil))) (dss_cons (ds_for PassesOwn.never rfl (di_seq (dv 0)) (dg_tup rfl (dgs_cons (dgn S.nd 3) (dgs_cons (dgn S.nd 4) dgs_nil))) (dss_one (ds_if (dt_cmp (op_eqDD hr.units) (dv 3) (de_ix (ix_D (hu_of hr)) (dv 1) (dv 2))) (dss_one (ds_drop (de_mut PySem.F.plainAttrs_list PySem.F.slot_list_extend PySem.F.type_list_extend mt_extendD rfl (by first | exact Or.inl rfl | exact Or.inr (Or.inl rfl) | exact Or.inr (Or.inr rfl)) (da_cons (de_lc rfl S.nd (di_seq (de_sortedSc (by rfl) B.sorted rfl S.nd (di_seq (dv 4)) (blkOk_by (own := [("far", 6)]) (by rfl)) (fun _ _ _ _ _ => dgnv S.nd 6) (fun _ _ _ _ _ => dts_nil) (fun _ _ _ _ _ => dv 6))) (blkOk_by (own := [("sign", 5)]) (by rfl)) (fun _ _ _ _ _ => dgnv S.nd 5) (fun _ _ _ _ _ => dts_one (dw_pt (dw_and (dt_val (dcall Dis_name hr (da_cons (dv 5) da_nil))) (dw_and1 (dt_cmp (op_notinDD (room65 hr)) (dv 5) (dv 1)))))) (fun _ _ _ _ _ => dv 5)) da_nil)))) dss_nil)))
              (dss_one (dsg S.nd 2 ip_add de_int))))
          (dss_one (ds_ret (de_cb call_sortedDD (by rfl) B.sorted boot_sorted (da_cons (dv 1) da_nil))))))
/-! ### trimmed_rules -/
abbrev strimmed_rules : Stmt := topS 6
theorem sctrimmed_rules : FnScope ["rules", "useful", "kept", "start", "reached", "rule", "sign"] ["rules"] (defScope strimmed_rules) := ⟨rfl, rfl, rfl, by decide +kernel, rfl, by decide +kernel, by decide +kernel⟩
def wtrimmed_rules (spuseful_names : DSp) (spis_name : DSp) (spreached_names : DSp) : WS :=
  wSeq (wAsg 1 (wCall [.rd] spuseful_names (wCons (wVar 0) wNil)))
          (wSeq (wAsg 2 (wCB tupleD (wCons (wLc (wiSeq (wVar 0)) (wgN 5) (wTest (wCB allD (wCons (wLc (wiSeq (wBin addD (wBin ixD (wVar 5) (wC (.int 0))) (wBin ixD (wVar 5) (wC (.int 1))))) (wgN 6) wYes (wOrV (wNotV (wCall [.rd] spis_name (wCons (wVar 6) wNil))) (wBin inD (wVar 6) (wVar 1))) [6]) wNil))) (wVar 5) [5]) wNil)))
          (wSeq (wIfS (wOr (wTest (wBin eqD (wCB lenD (wCons (wVar 2) wNil)) (wC (.int 0)))) (wTest (wBin notinD (wBin ixD (wBin ixD (wVar 0) (wC (.int 0))) (wC (.int 0))) (wVar 1)))) (wRet (wTup wNil)) wNx)
          (wSeq (wAsg 3 (wBin ixD (wBin ixD (wVar 0) (wC (.int 0))) (wC (.int 0))))
          (wSeq (wAsg 2 (wCB tupleD (wCons (wBin addD (wLc (wiSeq (wVar 2)) (wgN 5) (wTest (wBin eqD (wBin ixD (wVar 5) (wC (.int 0))) (wVar 3))) (wVar 5) [5]) (wLc (wiSeq (wVar 2)) (wgN 5) (wTest (wBin neD (wBin ixD (wVar 5) (wC (.int 0))) (wVar 3))) (wVar 5) [5])) wNil)))
          (wSeq (wAsg 4 (wCall [.rd] spreached_names (wCons (wVar 2) wNil)))
          (wRet (wCB tupleD (wCons (wLc (wiSeq (wVar 2)) (wgN 5) (wTest (wBin inD (wBin ixD (wVar 5) (wC (.int 0))) (wVar 4))) (wVar 5) [5]) wNil))))))))
def mtrimmed_rules : List Md := [.rd]
theorem oktrimmed_rules {P : Program} {w : World} {K : PySem.W.Frag} {mg : Str → Option Value} {base : Heap} {k : Nat} {f : Addr} {fd : FuncData} {spuseful_names : DSp} {spis_name : DSp} {spreached_names : DSp} (B : Bls mg) (F : Fun K "trimmed_rules" "trimmed_rules" strimmed_rules f fd) (hm : mg "trimmed_rules" = some (.ref f)) (hb : Binds K fd ["rules"] []) (Duseful_names : Dn P w K mg base k "useful_names" [.rd] spuseful_names) (Dis_name : Dn P w K mg base k "is_name" [.rd] spis_name) (Dreached_names : Dn P w K mg base k "reached_names" [.rd] spreached_names) :
    Dn P w K mg base (k + 1) "trimmed_rules" [.rd] (bodySp [.rd] 7 (wtrimmed_rules spuseful_names spis_name spreached_names)) :=
  dn_of (N := ["rules", "useful", "kept", "start", "reached", "rule", "sign"]) F hm hb sctrimmed_rules [.rd] rfl (wtrimmed_rules spuseful_names spis_name spreached_names) fun cdv A outer s H E g hr => by
    have S := sctrimmed_rules
    exact dss_cons (dsa S.nd 1 (dcall Duseful_names hr (da_cons (dv 0) da_nil)))
          (dss_cons (dsa S.nd 2 (de_ct call_tupleDD (by rfl) B.tuple boot_tuple (da_cons (de_lc rfl S.nd (di_seq (dv 0)) (blkOk_by (own := [("rule", 5)]) (by rfl)) (fun _ _ _ _ _ => dgnv S.nd 5) (fun _ _ _ _ _ => dts_one (dt_val (de_cb (call_allDD rfl) (by rfl) B.all boot_all (da_cons (de_lc rfl S.nd (di_seq (de_bin op_addD (de_ix (ix_D (hu_of hr)) (dv 5) de_int) (de_ix (ix_D (hu_of hr)) (dv 5) de_int))) (blkOk_by (own := [("sign", 6)]) (by rfl)) (fun _ _ _ _ _ => dgnv S.nd 6) (fun _ _ _ _ _ => dts_nil) (fun _ _ _ _ _ => de_or (de_not (dcall Dis_name hr (da_cons (dv 6) da_nil))) (de_one (de_cmp (op_inDD (room65 hr)) (dv 6) (dv 1))))) da_nil)))) (fun _ _ _ _ _ => dv 5)) da_nil)))
          (dss_cons (ds_if (dw_pt (dw_or (dt_cmp (op_eqDD hr.units) (de_cb call_lenDD (by rfl) B.len boot_len (da_cons (dv 2) da_nil)) de_int) (dw_or1 (dt_cmp (op_notinDD (room65 hr)) (de_ix (ix_D (hu_of hr)) (de_ix (ix_D (hu_of hr)) (dv 0) de_int) de_int) (dv 1))))) (dss_one (ds_ret (de_tup da_nil))) dss_nil)
          (dss_cons (dsa S.nd 3 (de_ix (ix_D (hu_of hr)) (de_ix (ix_D (hu_of hr)) (dv 0) de_int) de_int))
          (dss_cons (dsa S.nd 2 (de_ct call_tupleDD (by rfl) B.tuple boot_tuple (da_cons (de_bin op_addD (de_lc rfl S.nd (di_seq (dv 2)) (blkOk_by (own := [("rule", 5)]) (by rfl)) (fun _ _ _ _ _ => dgnv S.nd 5) (fun _ _ _ _ _ => dts_one (dt_cmp (op_eqDD hr.units) (de_ix (ix_D (hu_of hr)) (dv 5) de_int) (dv 3))) (fun _ _ _ _ _ => dv 5)) (de_lc rfl S.nd (di_seq (dv 2)) (blkOk_by (own := [("rule", 5)]) (by rfl)) (fun _ _ _ _ _ => dgnv S.nd 5) (fun _ _ _ _ _ => dts_one (dt_cmp (op_neDD hr.units) (de_ix (ix_D (hu_of hr)) (dv 5) de_int) (dv 3))) (fun _ _ _ _ _ => dv 5))) da_nil)))
          (dss_cons (dsa S.nd 4 (dcall Dreached_names hr (da_cons (dv 2) da_nil)))
          (dss_one (ds_ret (de_ct call_tupleDD (by rfl) B.tuple boot_tuple (da_cons (de_lc rfl S.nd (di_seq (dv 2)) (blkOk_by (own := [("rule", 5)]) (by rfl)) (fun _ _ _ _ _ => dgnv S.nd 5) (fun _ _ _ _ _ => dts_one (dt_cmp (op_inDD (room65 hr)) (de_ix (ix_D (hu_of hr)) (dv 5) de_int) (dv 4))) (fun _ _ _ _ _ => dv 5)) da_nil)))))))))
/-! ### makes_any -/
abbrev smakes_any : Stmt := topS 7
theorem scmakes_any : FnScope ["rules"] ["rules"] (defScope smakes_any) := ⟨rfl, rfl, rfl, by decide +kernel, rfl, by decide +kernel, by decide +kernel⟩
def wmakes_any (spuseful_names : DSp) : WS :=
  wRet (wBin inD (wBin ixD (wBin ixD (wVar 0) (wC (.int 0))) (wC (.int 0))) (wCall [.rd] spuseful_names (wCons (wVar 0) wNil)))
def mmakes_any : List Md := [.rd]
theorem okmakes_any {P : Program} {w : World} {K : PySem.W.Frag} {mg : Str → Option Value} {base : Heap} {k : Nat} {f : Addr} {fd : FuncData} {spuseful_names : DSp} (B : Bls mg) (F : Fun K "makes_any" "makes_any" smakes_any f fd) (hm : mg "makes_any" = some (.ref f)) (hb : Binds K fd ["rules"] []) (Duseful_names : Dn P w K mg base k "useful_names" [.rd] spuseful_names) :
    Dn P w K mg base (k + 1) "makes_any" [.rd] (bodySp [.rd] 1 (wmakes_any spuseful_names)) :=
  dn_of (N := ["rules"]) F hm hb scmakes_any [.rd] rfl (wmakes_any spuseful_names) fun cdv A outer s H E g hr => by
    have S := scmakes_any
    exact dss_one (ds_ret (de_cmp (op_inDD (room65 hr)) (de_ix (ix_D (hu_of hr)) (de_ix (ix_D (hu_of hr)) (dv 0) de_int) de_int) (dcall Duseful_names hr (da_cons (dv 0) da_nil))))
/-! ### _law_cell -/
abbrev s_law_cell : Stmt := topS 9
theorem sc_law_cell : FnScope ["script", "k"] ["script", "k"] (defScope s_law_cell) := ⟨rfl, rfl, rfl, by decide +kernel, rfl, by decide +kernel, by decide +kernel⟩
def w_law_cell : WS :=
  wSeq (wIfS (wTest (wBin ltD (wVar 1) (wCB lenD (wCons (wVar 0) wNil)))) (wRet (wBin ixD (wVar 0) (wVar 1))) wNx)
          (wRet (wC (.int 0)))
def m_law_cell : List Md := [.rd, .rd]
theorem ok_law_cell {P : Program} {w : World} {K : PySem.W.Frag} {mg : Str → Option Value} {base : Heap} {k : Nat} {f : Addr} {fd : FuncData} (B : Bls mg) (F : Fun K "_law_cell" "_law_cell" s_law_cell f fd) (hm : mg "_law_cell" = some (.ref f)) (hb : Binds K fd ["script", "k"] []) :
    Dn P w K mg base (k + 1) "_law_cell" [.rd, .rd] (bodySp [.rd, .rd] 2 (w_law_cell)) :=
  dn_of (N := ["script", "k"]) F hm hb sc_law_cell [.rd, .rd] rfl (w_law_cell) fun cdv A outer s H E g hr => by
    have S := sc_law_cell
    exact dss_cons (ds_if (dt_cmp op_ltD (dv 1) (de_cb call_lenDD (by rfl) B.len boot_len (da_cons (dv 0) da_nil))) (dss_one (ds_ret (de_ix (ix_D (hu_of hr)) (dv 0) (dv 1)))) dss_nil)
          (dss_one (ds_ret de_int))
/-! ### _law_digits -/
abbrev s_law_digits : Stmt := topS 10
theorem sc_law_digits : FnScope ["script", "first", "last", "digits", "k", "cell", "turn", "seed"] ["script", "first", "last"] (defScope s_law_digits) := ⟨rfl, rfl, rfl, by decide +kernel, rfl, by decide +kernel, by decide +kernel⟩
def w_law_digits (sp_law_cell : DSp) : WS :=
  wSeq (wAsg 3 (wLst wNil))
          (wSeq (wFor (wiR2 (wCons (wVar 1) (wCons (wVar 2) wNil))) (wgN 4) (wSeq (wAsg 5 (wCall [.rd, .rd] sp_law_cell (wCons (wVar 0) (wCons (wVar 4) wNil))))
              (wSeq (wIfS (wTest (wBin ltD (wVar 5) (wC (.int 0)))) (wAsg 5 (wBin subD (wC (.int 1)) (wBin mulD (wC (.int 2)) (wVar 5)))) wNx)
              (wIfS (wTest (wBin geD (wVar 5) (wBin powD (wC (.int 10)) (wC (.int 18))))) (wFor (wiR1 (wCons (wC (.int 60)) wNil)) (wgN 6) (wIfS (wTest (wBin gtD (wVar 5) (wC (.int 0)))) (wSeq (wDrop (wMut 3 appendD (wCons (wBin modD (wCB intD (wCons (wVar 5) wNil)) (wC (.int 1000))) wNil)))
                          (wAsg 5 (wBin fdivD (wVar 5) (wC (.int 1000))))) wNx)) (wSeq (wAsg 7 (wBin modD (wCB intD (wCons (wBin addD (wBin addD (wBin mulD (wVar 5) (wC (.int 48271))) (wBin mulD (wVar 4) (wC (.int 69621)))) (wC (.int 11))) wNil)) (wC (.int 2147483647))))
                  (wFor (wiR1 (wCons (wC (.int 12)) wNil)) (wgN 6) (wSeq (wAsg 7 (wBin modD (wCB intD (wCons (wBin addD (wBin addD (wBin mulD (wVar 7) (wC (.int 16807))) (wBin mulD (wC (.int 7)) (wVar 6))) (wC (.int 1))) wNil)) (wC (.int 2147483647))))
                      (wDrop (wMut 3 appendD (wCons (wBin modD (wCB intD (wCons (wBin fdivD (wVar 7) (wC (.int 997))) wNil)) (wC (.int 1000))) wNil))))))))))
          (wRet (wVar 3)))
def m_law_digits : List Md := [.rd, .rd, .rd]
theorem ok_law_digits {P : Program} {w : World} {K : PySem.W.Frag} {mg : Str → Option Value} {base : Heap} {k : Nat} {f : Addr} {fd : FuncData} {sp_law_cell : DSp} (B : Bls mg) (F : Fun K "_law_digits" "_law_digits" s_law_digits f fd) (hm : mg "_law_digits" = some (.ref f)) (hb : Binds K fd ["script", "first", "last"] []) (D_law_cell : Dn P w K mg base k "_law_cell" [.rd, .rd] sp_law_cell) :
    Dn P w K mg base (k + 1) "_law_digits" [.rd, .rd, .rd] (bodySp [.rd, .rd, .rd] 8 (w_law_digits sp_law_cell)) :=
  dn_of (N := ["script", "first", "last", "digits", "k", "cell", "turn", "seed"]) F hm hb sc_law_digits [.rd, .rd, .rd] rfl (w_law_digits sp_law_cell) fun cdv A outer s H E g hr => by
    have S := sc_law_digits
    exact dss_cons (dsa S.nd 3 (de_lst da_nil))
          (dss_cons (ds_for PassesOwn.never rfl (di_r2 (by rfl) B.range (da_cons (dv 1) (da_cons (dv 2) da_nil))) (dgn S.nd 4) (dss_cons (dsa S.nd 5 (dcall D_law_cell hr (da_cons (dv 0) (da_cons (dv 4) da_nil))))
              (dss_cons (ds_if (dt_cmp op_ltD (dv 5) de_int) (dss_one (dsa S.nd 5 (de_bin op_subD de_int (de_bin op_mulD de_int (dv 5))))) dss_nil)
              (dss_one (ds_if (dt_cmp op_geD (dv 5) (de_bin op_powD de_int de_int)) (dss_one (ds_for PassesOwn.never rfl (di_r1 (by rfl) B.range (da_cons de_int da_nil)) (dgn S.nd 6) (dss_one (ds_if (dt_cmp op_gtD (dv 5) de_int) (dss_cons (ds_drop (de_mut PySem.F.plainAttrs_list PySem.F.slot_list_append PySem.F.type_list_append mt_appendD rfl (by first | exact Or.inl rfl | exact Or.inr (Or.inl rfl) | exact Or.inr (Or.inr rfl)) (da_cons (de_bin op_modD (de_ct call_intDD (by rfl) B.int boot_int (da_cons (dv 5) da_nil)) de_int) da_nil)))
                          (dss_one (dsa S.nd 5 (de_bin op_fdivD (dv 5) de_int)))) dss_nil)))) (dss_cons (dsa S.nd 7 (de_bin op_modD (de_ct call_intDD (by rfl) B.int boot_int (da_cons (de_bin op_addD (de_bin op_addD (de_bin op_mulD (dv 5) de_int) (de_bin op_mulD (dv 4) de_int)) de_int) da_nil)) de_int))
                  (dss_one (ds_for PassesOwn.never rfl (di_r1 (by rfl) B.range (da_cons de_int da_nil)) (dgn S.nd 6) (dss_cons (dsa S.nd 7 (de_bin op_modD (de_ct call_intDD (by rfl) B.int boot_int (da_cons (de_bin op_addD (de_bin op_addD (de_bin op_mulD (dv 7) de_int) (de_bin op_mulD de_int (dv 6))) de_int) da_nil)) de_int))
                      (dss_one (ds_drop (de_mut PySem.F.plainAttrs_list PySem.F.slot_list_append PySem.F.type_list_append mt_appendD rfl (by first | exact Or.inl rfl | exact Or.inr (Or.inl rfl) | exact Or.inr (Or.inr rfl)) (da_cons (de_bin op_modD (de_ct call_intDD (by rfl) B.int boot_int (da_cons (de_bin op_fdivD (dv 7) de_int) da_nil)) de_int) da_nil)))))))))))))
          (dss_one (ds_ret (dv 3))))
/-! ### _law_draw -/
abbrev s_law_draw : Stmt := topS 11
theorem sc_law_draw : FnScope ["box", "many"] ["box", "many"] (defScope s_law_draw) := ⟨rfl, rfl, rfl, by decide +kernel, rfl, by decide +kernel, by decide +kernel⟩
def w_law_draw : WS :=
  wSeq (wPutIx 0 (wC (.int 1)) (wBin addD (wBin ixD (wVar 0) (wC (.int 1))) (wC (.int 1))))
          (wSeq (wIfS (wTest (wBin gtD (wBin ixD (wVar 0) (wC (.int 1))) (wCB lenD (wCons (wBin ixD (wVar 0) (wC (.int 0))) wNil)))) (wRet (wBin modD (wCB intD (wCons (wBin addD (wBin mulD (wBin ixD (wVar 0) (wC (.int 1))) (wC (.int 7))) (wC (.int 3))) wNil)) (wVar 1))) wNx)
          (wRet (wBin modD (wCB intD (wCons (wBin ixD (wBin ixD (wVar 0) (wC (.int 0))) (wBin subD (wBin ixD (wVar 0) (wC (.int 1))) (wC (.int 1)))) wNil)) (wVar 1))))
def m_law_draw : List Md := [.mu, .rd]
theorem ok_law_draw {P : Program} {w : World} {K : PySem.W.Frag} {mg : Str → Option Value} {base : Heap} {k : Nat} {f : Addr} {fd : FuncData} (B : Bls mg) (F : Fun K "_law_draw" "_law_draw" s_law_draw f fd) (hm : mg "_law_draw" = some (.ref f)) (hb : Binds K fd ["box", "many"] []) :
    Dn P w K mg base (k + 1) "_law_draw" [.mu, .rd] (bodySp [.mu, .rd] 2 (w_law_draw)) :=
  dn_of (N := ["box", "many"]) F hm hb sc_law_draw [.mu, .rd] rfl (w_law_draw) fun cdv A outer s H E g hr => by
    have S := sc_law_draw
    exact dss_cons (ds_putIx (j := 0) (hu_of hr) rfl (by first | exact Or.inl rfl | exact Or.inr (Or.inl rfl) | exact Or.inr (Or.inr rfl)) de_int (de_bin op_addD (de_ix (ix_D (hu_of hr)) (dv 0) de_int) de_int))
          (dss_cons (ds_if (dt_cmp op_gtD (de_ix (ix_D (hu_of hr)) (dv 0) de_int) (de_cb call_lenDD (by rfl) B.len boot_len (da_cons (de_ix (ix_D (hu_of hr)) (dv 0) de_int) da_nil))) (dss_one (ds_ret (de_bin op_modD (de_ct call_intDD (by rfl) B.int boot_int (da_cons (de_bin op_addD (de_bin op_mulD (de_ix (ix_D (hu_of hr)) (dv 0) de_int) de_int) de_int) da_nil)) (dv 1)))) dss_nil)
          (dss_one (ds_ret (de_bin op_modD (de_ct call_intDD (by rfl) B.int boot_int (da_cons (de_ix (ix_D (hu_of hr)) (de_ix (ix_D (hu_of hr)) (dv 0) de_int) (de_bin op_subD (de_ix (ix_D (hu_of hr)) (dv 0) de_int) de_int)) da_nil)) (dv 1)))))
/-! ### _law_pick -/
abbrev s_law_pick : Stmt := topS 12
theorem sc_law_pick : FnScope ["box", "row"] ["box", "row"] (defScope s_law_pick) := ⟨rfl, rfl, rfl, by decide +kernel, rfl, by decide +kernel, by decide +kernel⟩
def w_law_pick (sp_law_draw : DSp) : WS :=
  wRet (wBin ixD (wVar 1) (wBin modD (wCB intD (wCons (wCallM 0 [.mu, .rd] sp_law_draw (wCons (wVar 0) (wCons (wC (.int 1000)) wNil))) wNil)) (wCB lenD (wCons (wVar 1) wNil))))
def m_law_pick : List Md := [.mu, .rd]
theorem ok_law_pick {P : Program} {w : World} {K : PySem.W.Frag} {mg : Str → Option Value} {base : Heap} {k : Nat} {f : Addr} {fd : FuncData} {sp_law_draw : DSp} (B : Bls mg) (F : Fun K "_law_pick" "_law_pick" s_law_pick f fd) (hm : mg "_law_pick" = some (.ref f)) (hb : Binds K fd ["box", "row"] []) (D_law_draw : Dn P w K mg base k "_law_draw" [.mu, .rd] sp_law_draw) :
    Dn P w K mg base (k + 1) "_law_pick" [.mu, .rd] (bodySp [.mu, .rd] 2 (w_law_pick sp_law_draw)) :=
  dn_of (N := ["box", "row"]) F hm hb sc_law_pick [.mu, .rd] rfl (w_law_pick sp_law_draw) fun cdv A outer s H E g hr => by
    have S := sc_law_pick
    exact dss_one (ds_ret (de_ix (ix_D (hu_of hr)) (dv 1) (de_bin op_modD (de_ct call_intDD (by rfl) B.int boot_int (da_cons (dcallM 0 D_law_draw hr (da_cons (dv 0) (da_cons de_int da_nil))) da_nil)) (de_cb call_lenDD (by rfl) B.len boot_len (da_cons (dv 1) da_nil)))))
/-! ### _law_some -/
abbrev s_law_some : Stmt := topS 13
theorem sc_law_some : FnScope ["box", "row", "many", "left", "found", "k"] ["box", "row", "many"] (defScope s_law_some) := ⟨rfl, rfl, rfl, by decide +kernel, rfl, by decide +kernel, by decide +kernel⟩
def w_law_some (sp_law_draw : DSp) : WS :=
  wSeq (wAsg 3 (wCB listD (wCons (wVar 1) wNil)))
          (wSeq (wAsg 4 (wLst wNil))
          (wSeq (wFor (wiR1 (wCons (wVar 2) wNil)) (wgN 5) (wDrop (wMut 4 appendD (wCons (wMut 3 popD (wCons (wBin modD (wCB intD (wCons (wCallM 0 [.mu, .rd] sp_law_draw (wCons (wVar 0) (wCons (wC (.int 1000)) wNil))) wNil)) (wCB lenD (wCons (wVar 3) wNil))) wNil)) wNil))))
          (wRet (wVar 4))))
def m_law_some : List Md := [.mu, .rd, .rd]
theorem ok_law_some {P : Program} {w : World} {K : PySem.W.Frag} {mg : Str → Option Value} {base : Heap} {k : Nat} {f : Addr} {fd : FuncData} {sp_law_draw : DSp} (B : Bls mg) (F : Fun K "_law_some" "_law_some" s_law_some f fd) (hm : mg "_law_some" = some (.ref f)) (hb : Binds K fd ["box", "row", "many"] []) (D_law_draw : Dn P w K mg base k "_law_draw" [.mu, .rd] sp_law_draw) :
    Dn P w K mg base (k + 1) "_law_some" [.mu, .rd, .rd] (bodySp [.mu, .rd, .rd] 6 (w_law_some sp_law_draw)) :=
  dn_of (N := ["box", "row", "many", "left", "found", "k"]) F hm hb sc_law_some [.mu, .rd, .rd] rfl (w_law_some sp_law_draw) fun cdv A outer s H E g hr => by
    have S := sc_law_some
    exact dss_cons (dsa S.nd 3 (de_ct (call_listDD rfl) (by rfl) B.list boot_list (da_cons (dv 1) da_nil)))
          (dss_cons (dsa S.nd 4 (de_lst da_nil))
          (dss_cons (ds_for PassesOwn.never rfl (di_r1 (by rfl) B.range (da_cons (dv 2) da_nil)) (dgn S.nd 5) (dss_one (ds_drop (de_mut PySem.F.plainAttrs_list PySem.F.slot_list_append PySem.F.type_list_append mt_appendD rfl (by first | exact Or.inl rfl | exact Or.inr (Or.inl rfl) | exact Or.inr (Or.inr rfl)) (da_cons (de_mut PySem.F.plainAttrs_list PySem.F.slot_list_pop PySem.F.type_list_pop mt_popD rfl (by first | exact Or.inl rfl | exact Or.inr (Or.inl rfl) | exact Or.inr (Or.inr rfl)) (da_cons (de_bin op_modD (de_ct call_intDD (by rfl) B.int boot_int (da_cons (dcallM 0 D_law_draw hr (da_cons (dv 0) (da_cons de_int da_nil))) da_nil)) (de_cb call_lenDD (by rfl) B.len boot_len (da_cons (dv 3) da_nil))) da_nil)) da_nil)))))
          (dss_one (ds_ret (dv 4)))))
/-! ### _law_same -/
abbrev s_law_same : Stmt := topS 14
theorem sc_law_same : FnScope ["told", "due", "k"] ["told", "due"] (defScope s_law_same) := ⟨rfl, rfl, rfl, by decide +kernel, rfl, by decide +kernel, by decide +kernel⟩
def w_law_same (sp_law_same : DSp) : WS :=
  wSeq (wIfS (wTest (wBin isD (wVar 1) (wC .non))) (wRet (wBin isD (wVar 0) (wC .non))) wNx)
          (wSeq (wIfS (wTest (wBin isD (wVar 1) (wC (.bl true)))) (wRet (wBin isD (wVar 0) (wC (.bl true)))) wNx)
          (wSeq (wIfS (wTest (wBin isD (wVar 1) (wC (.bl false)))) (wRet (wBin isD (wVar 0) (wC (.bl false)))) wNx)
          (wSeq (wIfS (wTest (wIsi "str" (wVar 1))) (wRet (wAndV (wIsi "str" (wVar 0)) (wReprEq (wVar 0) (wVar 1)))) wNx)
          (wSeq (wIfS (wTest (wIsi "int" (wVar 1))) (wRet (wAndV (wIsi "int" (wVar 0)) (wAndV (wNotV (wIsi "bool" (wVar 0))) (wReprEq (wVar 0) (wVar 1))))) wNx)
          (wSeq (wIfS (wOr (wAnd (wTest (wIsi "tuple" (wVar 1))) (wNot (wTest (wIsi "tuple" (wVar 0))))) (wAnd (wTest (wIsi "list" (wVar 1))) (wNot (wTest (wIsi "list" (wVar 0)))))) (wRet (wC (.bl false))) wNx)
          (wSeq (wIfS (wTest (wBin neD (wCB lenD (wCons (wVar 0) wNil)) (wCB lenD (wCons (wVar 1) wNil)))) (wRet (wC (.bl false))) wNx)
          (wSeq (wFor (wiR1 (wCons (wCB lenD (wCons (wVar 1) wNil)) wNil)) (wgN 2) (wIfS (wNot (wTest (wCall [.rd, .rd] sp_law_same (wCons (wBin ixD (wVar 0) (wVar 2)) (wCons (wBin ixD (wVar 1) (wVar 2)) wNil))))) (wRet (wC (.bl false))) wNx))
          (wRet (wC (.bl true))))))))))
def m_law_same : List Md := [.rd, .rd]
theorem ok_law_same {P : Program} {w : World} {K : PySem.W.Frag} {mg : Str → Option Value} {base : Heap} {k : Nat} {f : Addr} {fd : FuncData} {sp_law_same : DSp} (B : Bls mg) (F : Fun K "_law_same" "_law_same" s_law_same f fd) (hm : mg "_law_same" = some (.ref f)) (hb : Binds K fd ["told", "due"] []) (D_law_same : Dn P w K mg base k "_law_same" [.rd, .rd] sp_law_same) :
    Dn P w K mg base (k + 1) "_law_same" [.rd, .rd] (bodySp [.rd, .rd] 3 (w_law_same sp_law_same)) :=
  dn_of (N := ["told", "due", "k"]) F hm hb sc_law_same [.rd, .rd] rfl (w_law_same sp_law_same) fun cdv A outer s H E g hr => by
    have S := sc_law_same
    exact dss_cons (ds_if (dt_cmp op_isD (dv 1) de_non) (dss_one (ds_ret (de_cmp op_isD (dv 0) de_non))) dss_nil)
          (dss_cons (ds_if (dt_cmp op_isD (dv 1) de_bl) (dss_one (ds_ret (de_cmp op_isD (dv 0) de_bl))) dss_nil)
          (dss_cons (ds_if (dt_cmp op_isD (dv 1) de_bl) (dss_one (ds_ret (de_cmp op_isD (dv 0) de_bl))) dss_nil)
          (dss_cons (ds_if (dt_val (de_isi (by rfl) B.isinstance (dv 1) (by rfl) B.str boot_str (by decide))) (dss_one (ds_ret (de_and (de_isi (by rfl) B.isinstance (dv 0) (by rfl) B.str boot_str (by decide)) (de_one (de_reprEq (by rfl) B.repr (dv 0) (dv 1)))))) dss_nil)
          (dss_cons (ds_if (dt_val (de_isi (by rfl) B.isinstance (dv 1) (by rfl) B.int boot_int (by decide))) (dss_one (ds_ret (de_and (de_isi (by rfl) B.isinstance (dv 0) (by rfl) B.int boot_int (by decide)) (de_and (de_not (de_isi (by rfl) B.isinstance (dv 0) (by rfl) B.bool boot_bool (by decide))) (de_one (de_reprEq (by rfl) B.repr (dv 0) (dv 1))))))) dss_nil)
          (dss_cons (ds_if (dw_pt (dw_or (dw_pt (dw_and (dt_val (de_isi (by rfl) B.isinstance (dv 1) (by rfl) B.tuple boot_tuple (by decide))) (dw_and1 (dt_not (dt_val (de_isi (by rfl) B.isinstance (dv 0) (by rfl) B.tuple boot_tuple (by decide))))))) (dw_or1 (dw_pt (dw_and (dt_val (de_isi (by rfl) B.isinstance (dv 1) (by rfl) B.list boot_list (by decide))) (dw_and1 (dt_not (dt_val (de_isi (by rfl) B.isinstance (dv 0) (by rfl) B.list boot_list (by decide)))))))))) (dss_one (ds_ret de_bl)) dss_nil)
          (dss_cons (ds_if (dt_cmp (op_neDD hr.units) (de_cb call_lenDD (by rfl) B.len boot_len (da_cons (dv 0) da_nil)) (de_cb call_lenDD (by rfl) B.len boot_len (da_cons (dv 1) da_nil))) (dss_one (ds_ret de_bl)) dss_nil)
          (dss_cons (ds_for PassesOwn.never rfl (di_r1 (by rfl) B.range (da_cons (de_cb call_lenDD (by rfl) B.len boot_len (da_cons (dv 1) da_nil)) da_nil)) (dgn S.nd 2) (dss_one (ds_if (dt_not (dt_val (dcall D_law_same hr (da_cons (de_ix (ix_D (hu_of hr)) (dv 0) (dv 2)) (da_cons (de_ix (ix_D (hu_of hr)) (dv 1) (dv 2)) da_nil))))) (dss_one (ds_ret de_bl)) dss_nil)))
          (dss_one (ds_ret de_bl)))))))))
/-! ### _law_names -/
abbrev s_law_names : Stmt := topS 15
theorem sc_law_names : FnScope ["box", "many"] ["box", "many"] (defScope s_law_names) := ⟨rfl, rfl, rfl, by decide +kernel, rfl, by decide +kernel, by decide +kernel⟩
def w_law_names (sp_law_some : DSp) : WS :=
  wRet (wCallM 0 [.mu, .rd, .rd] sp_law_some (wCons (wVar 0) (wCons (wCB listD (wCons (wC (.str [65, 66, 67, 68, 69, 70, 71, 72, 73, 74, 75, 76, 77, 78, 79, 80, 81, 82, 83, 84, 85, 86, 87, 88, 89, 90])) wNil)) (wCons (wVar 1) wNil))))
def m_law_names : List Md := [.mu, .rd]
theorem ok_law_names {P : Program} {w : World} {K : PySem.W.Frag} {mg : Str → Option Value} {base : Heap} {k : Nat} {f : Addr} {fd : FuncData} {sp_law_some : DSp} (B : Bls mg) (F : Fun K "_law_names" "_law_names" s_law_names f fd) (hm : mg "_law_names" = some (.ref f)) (hb : Binds K fd ["box", "many"] []) (D_law_some : Dn P w K mg base k "_law_some" [.mu, .rd, .rd] sp_law_some) :
    Dn P w K mg base (k + 1) "_law_names" [.mu, .rd] (bodySp [.mu, .rd] 2 (w_law_names sp_law_some)) :=
  dn_of (N := ["box", "many"]) F hm hb sc_law_names [.mu, .rd] rfl (w_law_names sp_law_some) fun cdv A outer s H E g hr => by
    have S := sc_law_names
    exact dss_one (ds_ret (dcallM 0 D_law_some hr (da_cons (dv 0) (da_cons (de_ct (call_listDD rfl) (by rfl) B.list boot_list (da_cons de_str da_nil)) (da_cons (dv 1) da_nil)))))
/-! ### _law_letters -/
abbrev s_law_letters : Stmt := topS 16
theorem sc_law_letters : FnScope ["box", "many"] ["box", "many"] (defScope s_law_letters) := ⟨rfl, rfl, rfl, by decide +kernel, rfl, by decide +kernel, by decide +kernel⟩
def w_law_letters (sp_law_some : DSp) : WS :=
  wRet (wCB sortedD (wCons (wCallM 0 [.mu, .rd, .rd] sp_law_some (wCons (wVar 0) (wCons (wCB listD (wCons (wC (.str [97, 98, 99, 100, 101, 102, 103, 104, 105, 106, 107, 108, 109, 110, 111, 112, 113, 114, 115, 116, 117, 118, 119, 120, 121, 122])) wNil)) (wCons (wVar 1) wNil)))) wNil))
def m_law_letters : List Md := [.mu, .rd]
theorem ok_law_letters {P : Program} {w : World} {K : PySem.W.Frag} {mg : Str → Option Value} {base : Heap} {k : Nat} {f : Addr} {fd : FuncData} {sp_law_some : DSp} (B : Bls mg) (F : Fun K "_law_letters" "_law_letters" s_law_letters f fd) (hm : mg "_law_letters" = some (.ref f)) (hb : Binds K fd ["box", "many"] []) (D_law_some : Dn P w K mg base k "_law_some" [.mu, .rd, .rd] sp_law_some) :
    Dn P w K mg base (k + 1) "_law_letters" [.mu, .rd] (bodySp [.mu, .rd] 2 (w_law_letters sp_law_some)) :=
  dn_of (N := ["box", "many"]) F hm hb sc_law_letters [.mu, .rd] rfl (w_law_letters sp_law_some) fun cdv A outer s H E g hr => by
    have S := sc_law_letters
    exact dss_one (ds_ret (de_cb call_sortedDD (by rfl) B.sorted boot_sorted (da_cons (dcallM 0 D_law_some hr (da_cons (dv 0) (da_cons (de_ct (call_listDD rfl) (by rfl) B.list boot_list (da_cons de_str da_nil)) (da_cons (dv 1) da_nil)))) da_nil)))
/-! ### _law_rules -/
abbrev s_law_rules : Stmt := topS 17
theorem sc_law_rules : FnScope ["box", "names", "letters", "many", "longest", "rules", "k", "text", "place"] ["box", "names", "letters", "many", "longest"] (defScope s_law_rules) := ⟨rfl, rfl, rfl, by decide +kernel, rfl, by decide +kernel, by decide +kernel⟩
def w_law_rules (sp_law_draw : DSp) (sp_law_pick : DSp) : WS :=
  wSeq (wAsg 5 (wLst wNil))
          (wSeq (wFor (wiR1 (wCons (wVar 3) wNil)) (wgN 6) (wSeq (wAsg 7 (wC (.str [])))
              (wSeq (wFor (wiR1 (wCons (wCallM 0 [.mu, .rd] sp_law_draw (wCons (wVar 0) (wCons (wBin addD (wVar 4) (wC (.int 1))) wNil))) wNil)) (wgN 8) (wAsg 7 (wBin addD (wVar 7) (wCallM 0 [.mu, .rd] sp_law_pick (wCons (wVar 0) (wCons (wCallM 0 [.mu, .rd] sp_law_pick (wCons (wVar 0) (wCons (wLst (wCons (wVar 1) (wCons (wVar 2) wNil))) wNil))) wNil))))))
              (wDrop (wMut 5 appendD (wCons (wTup (wCons (wCallM 0 [.mu, .rd] sp_law_pick (wCons (wVar 0) (wCons (wVar 1) wNil))) (wCons (wVar 7) wNil))) wNil))))))
          (wRet (wVar 5)))
def m_law_rules : List Md := [.mu, .fz, .fz, .rd, .rd]
theorem ok_law_rules {P : Program} {w : World} {K : PySem.W.Frag} {mg : Str → Option Value} {base : Heap} {k : Nat} {f : Addr} {fd : FuncData} {sp_law_draw : DSp} {sp_law_pick : DSp} (B : Bls mg) (F : Fun K "_law_rules" "_law_rules" s_law_rules f fd) (hm : mg "_law_rules" = some (.ref f)) (hb : Binds K fd ["box", "names", "letters", "many", "longest"] []) (D_law_draw : Dn P w K mg base k "_law_draw" [.mu, .rd] sp_law_draw) (D_law_pick : Dn P w K mg base k "_law_pick" [.mu, .rd] sp_law_pick) :
    Dn P w K mg base (k + 1) "_law_rules" [.mu, .fz, .fz, .rd, .rd] (bodySp [.mu, .fz, .fz, .rd, .rd] 9 (w_law_rules sp_law_draw sp_law_pick)) :=
  dn_of (N := ["box", "names", "letters", "many", "longest", "rules", "k", "text", "place"]) F hm hb sc_law_rules [.mu, .fz, .fz, .rd, .rd] rfl (w_law_rules sp_law_draw sp_law_pick) fun cdv A outer s H E g hr => by
    have S := sc_law_rules
    exact dss_cons (dsa S.nd 5 (de_lst da_nil))
          (dss_cons (ds_for PassesOwn.never rfl (di_r1 (by rfl) B.range (da_cons (dv 3) da_nil)) (dgn S.nd 6) (dss_cons (dsa S.nd 7 de_str)
              (dss_cons (ds_for PassesOwn.never rfl (di_r1 (by rfl) B.range (da_cons (dcallM 0 D_law_draw hr (da_cons (dv 0) (da_cons (de_bin op_addD (dv 4) de_int) da_nil))) da_nil)) (dgn S.nd 8) (dss_one (dsa S.nd 7 (de_bin op_addD (dv 7) (dcallM 0 D_law_pick hr (da_cons (dv 0) (da_cons (dcallM 0 D_law_pick hr (da_cons (dv 0) (da_cons (de_lst (da_cons (dv 1) (da_cons (dv 2) da_nil))) da_nil))) da_nil)))))))
              (dss_one (ds_drop (de_mut PySem.F.plainAttrs_list PySem.F.slot_list_append PySem.F.type_list_append mt_appendD rfl (by first | exact Or.inl rfl | exact Or.inr (Or.inl rfl) | exact Or.inr (Or.inr rfl)) (da_cons (de_tup (da_cons (dcallM 0 D_law_pick hr (da_cons (dv 0) (da_cons (dv 1) da_nil))) (da_cons (dv 7) da_nil))) da_nil)))))))
          (dss_one (ds_ret (dv 5))))
/-! ### _law_empty -/
abbrev s_law_empty : Stmt := topS 18
theorem sc_law_empty : FnScope ["rules", "known", "turn", "name", "text", "sign"] ["rules"] (defScope s_law_empty) := ⟨rfl, rfl, rfl, by decide +kernel, rfl, by decide +kernel, by decide +kernel⟩
def w_law_empty : WS :=
  wSeq (wAsg 1 (wLst wNil))
          (wSeq (wFor (wiR1 (wCons (wCB lenD (wCons (wVar 0) wNil)) wNil)) (wgN 2) (wFor (wiSeq (wVar 0)) (wgT 2 (wgCons (wgN 3) (wgCons (wgN 4) wgNil))) (wIfS (wAnd (wTest (wBin notinD (wVar 3) (wVar 1))) (wTest (wBin eqD (wLc (wiSeq (wVar 4)) (wgN 5) (wTest (wBin notinD (wVar 5) (wVar 1))) (wVar 5) [5]) (wLst wNil)))) (wDrop (wMut 1 appendD (wCons (wVar 3) wNil))) wNx)))
          (wRet (wVar 1)))
def m_law_empty : List Md := [.rd]
theorem ok_law_empty {P : Program} {w : World} {K : PySem.W.Frag} {mg : Str → Option Value} {base : Heap} {k : Nat} {f : Addr} {fd : FuncData} (B : Bls mg) (F : Fun K "_law_empty" "_law_empty" s_law_empty f fd) (hm : mg "_law_empty" = some (.ref f)) (hb : Binds K fd ["rules"] []) :
    Dn P w K mg base (k + 1) "_law_empty" [.rd] (bodySp [.rd] 6 (w_law_empty)) :=
  dn_of (N := ["rules", "known", "turn", "name", "text", "sign"]) F hm hb sc_law_empty [.rd] rfl (w_law_empty) fun cdv A outer s H E g hr => by
    have S := sc_law_empty
    exact dss_cons (dsa S.nd 1 (de_lst da_nil))
          (dss_cons (ds_for PassesOwn.never rfl (di_r1 (by rfl) B.range (da_cons (de_cb call_lenDD (by rfl) B.len boot_len (da_cons (dv 0) da_nil)) da_nil)) (dgn S.nd 2) (dss_one (ds_for PassesOwn.never rfl (di_seq (dv 0)) (dg_tup rfl (dgs_cons (dgn S.nd 3) (dgs_cons (dgn S.nd 4) dgs_nil))) (dss_one (ds_if (dw_pt (dw_and (dt_cmp (op_notinDD (room65 hr)) (dv 3) (dv 1)) (dw_and1 (dt_cmp (op_eqDD hr.units) (de_lc rfl S.nd (di_seq (dv 4)) (blkOk_by (own := [("sign", 5)]) (by rfl)) (fun _ _ _ _ _ => dgnv S.nd 5) (fun _ _ _ _ _ => dts_one (dt_cmp (op_notinDD (room65 hr)) (dv 5) (dv 1))) (fun _ _ _ _ _ => dv 5)) (de_lst da_nil))))) (dss_one (ds_drop (de_mut PySem.F.plainAttrs_list PySem.F.slot_list_append PySem.F.type_list_append mt_appendD rfl (by first | exact Or.inl rfl | exact Or.inr (Or.inl rfl) | exact Or.inr (Or.inr rfl)) (da_cons (dv 3) da_nil)))) dss_nil)))))
          (dss_one (ds_ret (dv 1))))
/-! ### _law_useful -/
abbrev s_law_useful : Stmt := topS 19
theorem sc_law_useful : FnScope ["rules", "known", "turn", "name", "text", "sign"] ["rules"] (defScope s_law_useful) := ⟨rfl, rfl, rfl, by decide +kernel, rfl, by decide +kernel, by decide +kernel⟩
def w_law_useful : WS :=
  wSeq (wAsg 1 (wLst wNil))
          (wSeq (wFor (wiR1 (wCons (wCB lenD (wCons (wVar 0) wNil)) wNil)) (wgN 2) (wFor (wiSeq (wVar 0)) (wgT 2 (wgCons (wgN 3) (wgCons (wgN 4) wgNil))) (wIfS (wAnd (wTest (wBin notinD (wVar 3) (wVar 1))) (wTest (wBin eqD (wLc (wiSeq (wVar 4)) (wgN 5) (wAnd (wTest (wMeth "str" (strBlD fun l => Txt.isupper ⟨l.toArray⟩) (wVar 5) wNil)) (wTest (wBin notinD (wVar 5) (wVar 1)))) (wVar 5) [5]) (wLst wNil)))) (wDrop (wMut 1 appendD (wCons (wVar 3) wNil))) wNx)))
          (wRet (wVar 1)))
def m_law_useful : List Md := [.rd]
theorem ok_law_useful {P : Program} {w : World} {K : PySem.W.Frag} {mg : Str → Option Value} {base : Heap} {k : Nat} {f : Addr} {fd : FuncData} (B : Bls mg) (F : Fun K "_law_useful" "_law_useful" s_law_useful f fd) (hm : mg "_law_useful" = some (.ref f)) (hb : Binds K fd ["rules"] []) :
    Dn P w K mg base (k + 1) "_law_useful" [.rd] (bodySp [.rd] 6 (w_law_useful)) :=
  dn_of (N := ["rules", "known", "turn", "name", "text", "sign"]) F hm hb sc_law_useful [.rd] rfl (w_law_useful) fun cdv A outer s H E g hr => by
    have S := sc_law_useful
    exact dss_cons (dsa S.nd 1 (de_lst da_nil))
          (dss_cons (ds_for PassesOwn.never rfl (di_r1 (by rfl) B.range (da_cons (de_cb call_lenDD (by rfl) B.len boot_len (da_cons (dv 0) da_nil)) da_nil)) (dgn S.nd 2) (dss_one (ds_for PassesOwn.never rfl (di_seq (dv 0)) (dg_tup rfl (dgs_cons (dgn S.nd 3) (dgs_cons (dgn S.nd 4) dgs_nil))) (dss_one (ds_if (dw_pt (dw_and (dt_cmp (op_notinDD (room65 hr)) (dv 3) (dv 1)) (dw_and1 (dt_cmp (op_eqDD hr.units) (de_lc rfl S.nd (di_seq (dv 4)) (blkOk_by (own := [("sign", 5)]) (by rfl)) (fun _ _ _ _ _ => dgnv S.nd 5) (fun _ _ _ _ _ => dts_one (dw_pt (dw_and (dt_val (de_meth0 PySem.F.plainAttrs_str PySem.F.slot_str_isupper PySem.F.type_str_isupper mt_isupperD (dv 5))) (dw_and1 (dt_cmp (op_notinDD (room65 hr)) (dv 5) (dv 1)))))) (fun _ _ _ _ _ => dv 5)) (de_lst da_nil))))) (dss_one (ds_drop (de_mut PySem.F.plainAttrs_list PySem.F.slot_list_append PySem.F.type_list_append mt_appendD rfl (by first | exact Or.inl rfl | exact Or.inr (Or.inl rfl) | exact Or.inr (Or.inr rfl)) (da_cons (dv 3) da_nil)))) dss_nil)))))
          (dss_one (ds_ret (dv 1))))
/-! ### _law_reached -/
abbrev s_law_reached : Stmt := topS 20
theorem sc_law_reached : FnScope ["rules", "start", "known", "turn", "name", "text", "sign"] ["rules", "start"] (defScope s_law_reached) := ⟨rfl, rfl, rfl, by decide +kernel, rfl, by decide +kernel, by decide +kernel⟩
def w_law_reached : WS :=
  wSeq (wAsg 2 (wLst (wCons (wVar 1) wNil)))
          (wSeq (wFor (wiR1 (wCons (wCB lenD (wCons (wVar 0) wNil)) wNil)) (wgN 3) (wFor (wiSeq (wVar 0)) (wgT 2 (wgCons (wgN 4) (wgCons (wgN 5) wgNil))) (wIfS (wTest (wBin inD (wVar 4) (wVar 2))) (wAsg 2 (wBin addD (wVar 2) (wLc (wiSeq (wCB sortedD (wCons (wCB listD (wCons (wVar 5) wNil)) wNil))) (wgN 6) (wAnd (wTest (wMeth "str" (strBlD fun l => Txt.isupper ⟨l.toArray⟩) (wVar 6) wNil)) (wTest (wBin notinD (wVar 6) (wVar 2)))) (wVar 6) [6]))) wNx)))
          (wRet (wCB sortedD (wCons (wLc (wiSeq (wCB listD (wCons (wC (.str [65, 66, 67, 68, 69, 70, 71, 72, 73, 74, 75, 76, 77, 78, 79, 80, 81, 82, 83, 84, 85, 86, 87, 88, 89, 90])) wNil))) (wgN 4) (wTest (wBin inD (wVar 4) (wVar 2))) (wVar 4) [4]) wNil))))
def m_law_reached : List Md := [.rd, .fz]
theorem ok_law_reached {P : Program} {w : World} {K : PySem.W.Frag} {mg : Str → Option Value} {base : Heap} {k : Nat} {f : Addr} {fd : FuncData} (B : Bls mg) (F : Fun K "_law_reached" "_law_reached" s_law_reached f fd) (hm : mg "_law_reached" = some (.ref f)) (hb : Binds K fd ["rules", "start"] []) :
    Dn P w K mg base (k + 1) "_law_reached" [.rd, .fz] (bodySp [.rd, .fz] 7 (w_law_reached)) :=
  dn_of (N := ["rules", "start", "known", "turn", "name", "text", "sign"]) F hm hb sc_law_reached [.rd, .fz] rfl (w_law_reached) fun cdv A outer s H E g hr => by
    have S := sc_law_reached
    exact dss_cons (dsa S.nd 2 (de_lst (da_cons (dv 1) da_nil)))
          (dss_cons (ds_for PassesOwn.never rfl (di_r1 (by rfl) B.range (da_cons (de_cb call_lenDD (by rfl) B.len boot_len (da_cons (dv 0) da_nil)) da_nil)) (dgn S.nd 3) (dss_one (ds_for PassesOwn.never rfl (di_seq (dv 0)) (dg_tup rfl (dgs_cons (dgn S.nd 4) (dgs_cons (dgn S.nd 5) dgs_nil))) (dss_one (ds_if (dt_cmp (op_inDD (room65 hr)) (dv 4) (dv 2)) (dss_one (dsa S.nd 2 (de_bin op_addD (dv 2) (de_lc rfl S.nd (di_seq (de_cb call_sortedDD (by rfl) B.sorted boot_sorted (da_cons (de_ct (call_listDD rfl) (by rfl) B.list boot_list (da_cons (dv 5) da_nil)) da_nil))) (blkOk_by (own := [("sign", 6)]) (by rfl)) (fun _ _ _ _ _ => dgnv S.nd 6) (fun _ _ _ _ _ => dts_one (dw_pt (dw_and (dt_val (de_meth0 PySem.F.plainAttrs_str PySem.F.slot_str_isupper PySem.F.type_str_isupper mt_isupperD (dv 6))) (dw_and1 (dt_cmp (op_notinDD (room65 hr)) (dv 6) (dv 2)))))) (fun _ _ _ _ _ => dv 6))))) dss_nil)))))
          (dss_one (ds_ret (de_cb call_sortedDD (by rfl) B.sorted boot_sorted (da_cons (de_lc rfl S.nd (di_seq (de_ct (call_listDD rfl) (by rfl) B.list boot_list (da_cons de_str da_nil))) (blkOk_by (own := [("name", 4)]) (by rfl)) (fun _ _ _ _ _ => dgnv S.nd 4) (fun _ _ _ _ _ => dts_one (dt_cmp (op_inDD (room65 hr)) (dv 4) (dv 2))) (fun _ _ _ _ _ => dv 4)) da_nil)))))
/-! ### _law_trimmed -/
abbrev s_law_trimmed : Stmt := topS 21
theorem sc_law_trimmed : FnScope ["rules", "start", "useful", "whole", "reached", "kept", "rule", "sign"] ["rules"] (defScope s_law_trimmed) := ⟨rfl, rfl, rfl, by decide +kernel, rfl, by decide +kernel, by decide +kernel⟩
def w_law_trimmed (sp_law_useful : DSp) (sp_law_reached : DSp) : WS :=
  wSeq (wAsg 1 (wBin ixD (wBin ixD (wVar 0) (wC (.int 0))) (wC (.int 0))))
          (wSeq (wAsg 2 (wCall [.rd] sp_law_useful (wCons (wVar 0) wNil)))
          (wSeq (wIfS (wTest (wBin notinD (wVar 1) (wVar 2))) (wRet (wLst wNil)) wNx)
          (wSeq (wAsg 3 (wLc (wiSeq (wVar 0)) (wgN 6) (wTest (wBin eqD (wLc (wiSeq (wBin addD (wBin ixD (wVar 6) (wC (.int 0))) (wBin ixD (wVar 6) (wC (.int 1))))) (wgN 7) (wAnd (wTest (wMeth "str" (strBlD fun l => Txt.isupper ⟨l.toArray⟩) (wVar 7) wNil)) (wTest (wBin notinD (wVar 7) (wVar 2)))) (wVar 7) [7]) (wLst wNil))) (wVar 6) [6]))
          (wSeq (wAsg 4 (wCall [.rd, .fz] sp_law_reached (wCons (wVar 3) (wCons (wVar 1) wNil))))
          (wSeq (wAsg 5 (wLc (wiSeq (wVar 3)) (wgN 6) (wTest (wBin eqD (wBin ixD (wVar 6) (wC (.int 0))) (wVar 1))) (wVar 6) [6]))
          (wRet (wBin addD (wVar 5) (wLc (wiSeq (wVar 3)) (wgN 6) (wAnd (wTest (wBin neD (wBin ixD (wVar 6) (wC (.int 0))) (wVar 1))) (wTest (wBin inD (wBin ixD (wVar 6) (wC (.int 0))) (wVar 4)))) (wVar 6) [6]))))))))
def m_law_trimmed : List Md := [.rd]
theorem ok_law_trimmed {P : Program} {w : World} {K : PySem.W.Frag} {mg : Str → Option Value} {base : Heap} {k : Nat} {f : Addr} {fd : FuncData} {sp_law_useful : DSp} {sp_law_reached : DSp} (B : Bls mg) (F : Fun K "_law_trimmed" "_law_trimmed" s_law_trimmed f fd) (hm : mg "_law_trimmed" = some (.ref f)) (hb : Binds K fd ["rules"] []) (D_law_useful : Dn P w K mg base k "_law_useful" [.rd] sp_law_useful) (D_law_reached : Dn P w K mg base k "_law_reached" [.rd, .fz] sp_law_reached) :
    Dn P w K mg base (k + 1) "_law_trimmed" [.rd] (bodySp [.rd] 8 (w_law_trimmed sp_law_useful sp_law_reached)) :=
  dn_of (N := ["rules", "start", "useful", "whole", "reached", "kept", "rule", "sign"]) F hm hb sc_law_trimmed [.rd] rfl (w_law_trimmed sp_law_useful sp_law_reached) fun cdv A outer s H E g hr => by
    have S := sc_law_trimmed
    exact dss_cons (dsa S.nd 1 (de_ix (ix_D (hu_of hr)) (de_ix (ix_D (hu_of hr)) (dv 0) de_int) de_int))
          (dss_cons (dsa S.nd 2 (dcall D_law_useful hr (da_cons (dv 0) da_nil)))
          (dss_cons (ds_if (dt_cmp (op_notinDD (room65 hr)) (dv 1) (dv 2)) (dss_one (ds_ret (de_lst da_nil))) dss_nil)
          (dss_cons (ds_asgLc (i := 3) rfl S.nd rfl rfl (sw_true rfl rfl rfl rfl) (di_seq (dv 0)) (blkOk_by (own := [("rule", 6)]) (by rfl)) (fun _ _ _ _ _ => dgnv S.nd 6) (fun _ _ _ _ _ => dts_one (dt_cmp (op_eqDD hr.units) (de_lc rfl S.nd (di_seq (de_bin op_addD (de_ix (ix_D (hu_of hr)) (dv 6) de_int) (de_ix (ix_D (hu_of hr)) (dv 6) de_int))) (blkOk_by (own := [("sign", 7)]) (by rfl)) (fun _ _ _ _ _ => dgnv S.nd 7) (fun _ _ _ _ _ => dts_one (dw_pt (dw_and (dt_val (de_meth0 PySem.F.plainAttrs_str PySem.F.slot_str_isupper PySem.F.type_str_isupper mt_isupperD (dv 7))) (dw_and1 (dt_cmp (op_notinDD (room65 hr)) (dv 7) (dv 2)))))) (fun _ _ _ _ _ => dv 7)) (de_lst da_nil))) (fun _ _ _ _ _ => dv 6))
          (dss_cons (dsa S.nd 4 (dcall D_law_reached hr (da_cons (dv 3) (da_cons (dv 1) da_nil))))
          (dss_cons (ds_asgLc (i := 5) rfl S.nd rfl rfl (sw_true rfl rfl rfl rfl) (di_seq (dv 3)) (blkOk_by (own := [("rule", 6)]) (by rfl)) (fun _ _ _ _ _ => dgnv S.nd 6) (fun _ _ _ _ _ => dts_one (dt_cmp (op_eqDD hr.units) (de_ix (ix_D (hu_of hr)) (dv 6) de_int) (dv 1))) (fun _ _ _ _ _ => dv 6))
          (dss_one (ds_ret (de_bin op_addD (dv 5) (de_lc rfl S.nd (di_seq (dv 3)) (blkOk_by (own := [("rule", 6)]) (by rfl)) (fun _ _ _ _ _ => dgnv S.nd 6) (fun _ _ _ _ _ => dts_one (dw_pt (dw_and (dt_cmp (op_neDD hr.units) (de_ix (ix_D (hu_of hr)) (dv 6) de_int) (dv 1)) (dw_and1 (dt_cmp (op_inDD (room65 hr)) (de_ix (ix_D (hu_of hr)) (dv 6) de_int) (dv 4)))))) (fun _ _ _ _ _ => dv 6))))))))))
/-! ### _law_in_a_row -/
abbrev s_law_in_a_row : Stmt := topS 22
theorem sc_law_in_a_row : FnScope ["box", "names", "letters", "rules", "k", "text"] ["box", "names", "letters"] (defScope s_law_in_a_row) := ⟨rfl, rfl, rfl, by decide +kernel, rfl, by decide +kernel, by decide +kernel⟩
def w_law_in_a_row (sp_law_pick : DSp) (sp_law_draw : DSp) : WS :=
  wSeq (wAsg 3 (wLst wNil))
          (wSeq (wFor (wiR1 (wCons (wBin subD (wCB lenD (wCons (wVar 1) wNil)) (wC (.int 1))) wNil)) (wgN 4) (wSeq (wAsg 5 (wBin mulD (wBin ixD (wVar 1) (wBin addD (wVar 4) (wC (.int 1)))) (wCallM 0 [.mu, .rd] sp_law_pick (wCons (wVar 0) (wCons (wLst (wCons (wC (.int 1)) (wCons (wC (.int 1)) (wCons (wC (.int 2)) wNil)))) wNil)))))
              (wSeq (wIfS (wTest (wBin eqD (wCallM 0 [.mu, .rd] sp_law_draw (wCons (wVar 0) (wCons (wC (.int 4)) wNil))) (wC (.int 0)))) (wAsg 5 (wBin addD (wVar 5) (wCallM 0 [.mu, .rd] sp_law_pick (wCons (wVar 0) (wCons (wVar 2) wNil))))) wNx)
              (wDrop (wMut 3 insertD (wCons (wC (.int 0)) (wCons (wTup (wCons (wBin ixD (wVar 1) (wVar 4)) (wCons (wVar 5) wNil))) wNil)))))))
          (wSeq (wDrop (wMut 3 insertD (wCons (wC (.int 0)) (wCons (wTup (wCons (wBin ixD (wVar 1) (wUn negD (wC (.int 1)))) (wCons (wCallM 0 [.mu, .rd] sp_law_pick (wCons (wVar 0) (wCons (wLst (wCons (wC (.str [])) (wCons (wC (.str [])) (wCons (wBin ixD (wVar 2) (wC (.int 0))) (wCons (wBin addD (wBin ixD (wVar 2) (wC (.int 0))) (wBin ixD (wVar 2) (wUn negD (wC (.int 1))))) wNil))))) wNil))) wNil))) wNil))))
          (wSeq (wDrop (wMut 3 insertD (wCons (wC (.int 0)) (wCons (wTup (wCons (wBin ixD (wVar 1) (wC (.int 0))) (wCons (wCallM 0 [.mu, .rd] sp_law_pick (wCons (wVar 0) (wCons (wLst (wCons (wBin ixD (wVar 1) (wC (.int 1))) (wCons (wBin addD (wBin ixD (wVar 1) (wC (.int 1))) (wBin ixD (wVar 2) (wC (.int 0)))) (wCons (wBin addD (wBin ixD (wVar 1) (wC (.int 0))) (wBin ixD (wVar 1) (wC (.int 0)))) (wCons (wBin ixD (wVar 1) (wUn negD (wC (.int 1)))) wNil))))) wNil))) wNil))) wNil))))
          (wRet (wVar 3)))))
def m_law_in_a_row : List Md := [.mu, .rd, .rd]
theorem ok_law_in_a_row {P : Program} {w : World} {K : PySem.W.Frag} {mg : Str → Option Value} {base : Heap} {k : Nat} {f : Addr} {fd : FuncData} {sp_law_pick : DSp} {sp_law_draw : DSp} (B : Bls mg) (F : Fun K "_law_in_a_row" "_law_in_a_row" s_law_in_a_row f fd) (hm : mg "_law_in_a_row" = some (.ref f)) (hb : Binds K fd ["box", "names", "letters"] []) (D_law_pick : Dn P w K mg base k "_law_pick" [.mu, .rd] sp_law_pick) (D_law_draw : Dn P w K mg base k "_law_draw" [.mu, .rd] sp_law_draw) :
    Dn P w K mg base (k + 1) "_law_in_a_row" [.mu, .rd, .rd] (bodySp [.mu, .rd, .rd] 6 (w_law_in_a_row sp_law_pick sp_law_draw)) :=
  dn_of (N := ["box", "names", "letters", "rules", "k", "text"]) F hm hb sc_law_in_a_row [.mu, .rd, .rd] rfl (w_law_in_a_row sp_law_pick sp_law_draw) fun cdv A outer s H E g hr => by
    have S := sc_law_in_a_row
    exact dss_cons (dsa S.nd 3 (de_lst da_nil))
          (dss_cons (ds_for PassesOwn.never rfl (di_r1 (by rfl) B.range (da_cons (de_bin op_subD (de_cb call_lenDD (by rfl) B.len boot_len (da_cons (dv 1) da_nil)) de_int) da_nil)) (dgn S.nd 4) (dss_cons (dsa S.nd 5 (de_bin op_mulD (de_ix (ix_D (hu_of hr)) (dv 1) (de_bin op_addD (dv 4) de_int)) (dcallM 0 D_law_pick hr (da_cons (dv 0) (da_cons (de_lst (da_cons de_int (da_cons de_int (da_cons de_int da_nil)))) da_nil)))))
              (dss_cons (ds_if (dt_cmp (op_eqDD hr.units) (dcallM 0 D_law_draw hr (da_cons (dv 0) (da_cons de_int da_nil))) de_int) (dss_one (dsa S.nd 5 (de_bin op_addD (dv 5) (dcallM 0 D_law_pick hr (da_cons (dv 0) (da_cons (dv 2) da_nil)))))) dss_nil)
              (dss_one (ds_drop (de_mut PySem.F.plainAttrs_list PySem.F.slot_list_insert PySem.F.type_list_insert mt_insertD rfl (by first | exact Or.inl rfl | exact Or.inr (Or.inl rfl) | exact Or.inr (Or.inr rfl)) (da_cons de_int (da_cons (de_tup (da_cons (de_ix (ix_D (hu_of hr)) (dv 1) (dv 4)) (da_cons (dv 5) da_nil))) da_nil))))))))
          (dss_cons (ds_drop (de_mut PySem.F.plainAttrs_list PySem.F.slot_list_insert PySem.F.type_list_insert mt_insertD rfl (by first | exact Or.inl rfl | exact Or.inr (Or.inl rfl) | exact Or.inr (Or.inr rfl)) (da_cons de_int (da_cons (de_tup (da_cons (de_ix (ix_D (hu_of hr)) (dv 1) (de_neg de_int)) (da_cons (dcallM 0 D_law_pick hr (da_cons (dv 0) (da_cons (de_lst (da_cons de_str (da_cons de_str (da_cons (de_ix (ix_D (hu_of hr)) (dv 2) de_int) (da_cons (de_bin op_addD (de_ix (ix_D (hu_of hr)) (dv 2) de_int) (de_ix (ix_D (hu_of hr)) (dv 2) (de_neg de_int))) da_nil))))) da_nil))) da_nil))) da_nil))))
          (dss_cons (ds_drop (de_mut PySem.F.plainAttrs_list PySem.F.slot_list_insert PySem.F.type_list_insert mt_insertD rfl (by first | exact Or.inl rfl | exact Or.inr (Or.inl rfl) | exact Or.inr (Or.inr rfl)) (da_cons de_int (da_cons (de_tup (da_cons (de_ix (ix_D (hu_of hr)) (dv 1) de_int) (da_cons (dcallM 0 D_law_pick hr (da_cons (dv 0) (da_cons (de_lst (da_cons (de_ix (ix_D (hu_of hr)) (dv 1) de_int) (da_cons (de_bin op_addD (de_ix (ix_D (hu_of hr)) (dv 1) de_int) (de_ix (ix_D (hu_of hr)) (dv 2) de_int)) (da_cons (de_bin op_addD (de_ix (ix_D (hu_of hr)) (dv 1) de_int) (de_ix (ix_D (hu_of hr)) (dv 1) de_int)) (da_cons (de_ix (ix_D (hu_of hr)) (dv 1) (de_neg de_int)) da_nil))))) da_nil))) da_nil))) da_nil))))
          (dss_one (ds_ret (dv 3))))))
/-! ### _law_asked -/
abbrev s_law_asked : Stmt := topS 23
theorem sc_law_asked : FnScope ["rules", "heads", "useful", "kept", "name", "text"] ["rules"] (defScope s_law_asked) := ⟨rfl, rfl, rfl, by decide +kernel, rfl, by decide +kernel, by decide +kernel⟩
def w_law_asked (sp_law_same : DSp) (spnames_of : DSp) (sp_law_empty : DSp) (spempty_names : DSp) (sp_law_useful : DSp) (spuseful_names : DSp) (sp_law_reached : DSp) (spreached_names : DSp) (spmakes_any : DSp) (sp_law_trimmed : DSp) (sptrimmed_rules : DSp) : WS :=
  wSeq (wAsg 1 (wLst wNil))
          (wSeq (wFor (wiSeq (wVar 0)) (wgT 2 (wgCons (wgN 4) (wgCons (wgN 5) wgNil))) (wIfS (wTest (wBin notinD (wVar 4) (wVar 1))) (wDrop (wMut 1 appendD (wCons (wVar 4) wNil))) wNx))
          (wSeq (wIfS (wNot (wTest (wCall [.rd, .rd] sp_law_same (wCons (wCall [.rd] spnames_of (wCons (wCB tupleD (wCons (wVar 0) wNil)) wNil)) (wCons (wVar 1) wNil))))) (wRet (wC (.bl false))) wNx)
          (wSeq (wIfS (wNot (wTest (wCall [.rd, .rd] sp_law_same (wCons (wCall [.rd] spempty_names (wCons (wCB tupleD (wCons (wVar 0) wNil)) wNil)) (wCons (wCB sortedD (wCons (wCall [.rd] sp_law_empty (wCons (wVar 0) wNil)) wNil)) wNil))))) (wRet (wC (.bl false))) wNx)
          (wSeq (wAsg 2 (wCB sortedD (wCons (wCall [.rd] sp_law_useful (wCons (wVar 0) wNil)) wNil)))
          (wSeq (wIfS (wNot (wTest (wCall [.rd, .rd] sp_law_same (wCons (wCall [.rd] spuseful_names (wCons (wCB tupleD (wCons (wVar 0) wNil)) wNil)) (wCons (wVar 2) wNil))))) (wRet (wC (.bl false))) wNx)
          (wSeq (wIfS (wNot (wTest (wCall [.rd, .rd] sp_law_same (wCons (wCall [.rd] spreached_names (wCons (wCB tupleD (wCons (wVar 0) wNil)) wNil)) (wCons (wCall [.rd, .fz] sp_law_reached (wCons (wVar 0) (wCons (wBin ixD (wBin ixD (wVar 0) (wC (.int 0))) (wC (.int 0))) wNil))) wNil))))) (wRet (wC (.bl false))) wNx)
          (wSeq (wIfS (wNot (wTest (wCall [.rd, .rd] sp_law_same (wCons (wCall [.rd] spmakes_any (wCons (wCB tupleD (wCons (wVar 0) wNil)) wNil)) (wCons (wBin inD (wBin ixD (wBin ixD (wVar 0) (wC (.int 0))) (wC (.int 0))) (wVar 2)) wNil))))) (wRet (wC (.bl false))) wNx)
          (wSeq (wAsg 3 (wCall [.rd] sp_law_trimmed (wCons (wVar 0) wNil)))
          (wSeq (wIfS (wNot (wTest (wCall [.rd, .rd] sp_law_same (wCons (wCall [.rd] sptrimmed_rules (wCons (wCB tupleD (wCons (wVar 0) wNil)) wNil)) (wCons (wCB tupleD (wCons (wVar 3) wNil)) wNil))))) (wRet (wC (.bl false))) wNx)
          (wRet (wOrV (wBin eqD (wVar 3) (wLst wNil)) (wCall [.rd, .rd] sp_law_same (wCons (wCall [.rd] sptrimmed_rules (wCons (wCB tupleD (wCons (wVar 3) wNil)) wNil)) (wCons (wCB tupleD (wCons (wVar 3) wNil)) wNil))))))))))))))
def m_law_asked : List Md := [.rd]
theorem ok_law_asked {P : Program} {w : World} {K : PySem.W.Frag} {mg : Str → Option Value} {base : Heap} {k : Nat} {f : Addr} {fd : FuncData} {sp_law_same : DSp} {spnames_of : DSp} {sp_law_empty : DSp} {spempty_names : DSp} {sp_law_useful : DSp} {spuseful_names : DSp} {sp_law_reached : DSp} {spreached_names : DSp} {spmakes_any : DSp} {sp_law_trimmed : DSp} {sptrimmed_rules : DSp} (B : Bls mg) (F : Fun K "_law_asked" "_law_asked" s_law_asked f fd) (hm : mg "_law_asked" = some (.ref f)) (hb : Binds K fd ["rules"] []) (D_law_same : Dn P w K mg base k "_law_same" [.rd, .rd] sp_law_same) (Dnames_of : Dn P w K mg base k "names_of" [.rd] spnames_of) (D_law_empty : Dn P w K mg base k "_law_empty" [.rd] sp_law_empty) (Dempty_names : Dn P w K mg base k "empty_names" [.rd] spempty_names) (D_law_useful : Dn P w K mg base k "_law_useful" [.rd] sp_law_useful) (Duseful_names : Dn P w K mg base k "useful_names" [.rd] spuseful_names) (D_law_reached : Dn P w K mg base k "_law_reached" [.rd, .fz] sp_law_reached) (Dreached_names : Dn P w K mg base k "reached_names" [.rd] spreached_names) (Dmakes_any : Dn P w K mg base k "makes_any" [.rd] spmakes_any) (D_law_trimmed : Dn P w K mg base k "_law_trimmed" [.rd] sp_law_trimmed) (Dtrimmed_rules : Dn P w K mg base k "trimmed_rules" [.rd] sptrimmed_rules) :
    Dn P w K mg base (k + 1) "_law_asked" [.rd] (bodySp [.rd] 6 (w_law_asked sp_law_same spnames_of sp_law_empty spempty_names sp_law_useful spuseful_names sp_law_reached spreached_names spmakes_any sp_law_trimmed sptrimmed_rules)) :=
  dn_of (N := ["rules", "heads", "useful", "kept", "name", "text"]) F hm hb sc_law_asked [.rd] rfl (w_law_asked sp_law_same spnames_of sp_law_empty spempty_names sp_law_useful spuseful_names sp_law_reached spreached_names spmakes_any sp_law_trimmed sptrimmed_rules) fun cdv A outer s H E g hr => by
    have S := sc_law_asked
    exact dss_cons (dsa S.nd 1 (de_lst da_nil))
          (dss_cons (ds_for PassesOwn.never rfl (di_seq (dv 0)) (dg_tup rfl (dgs_cons (dgn S.nd 4) (dgs_cons (dgn S.nd 5) dgs_nil))) (dss_one (ds_if (dt_cmp (op_notinDD (room65 hr)) (dv 4) (dv 1)) (dss_one (ds_drop (de_mut PySem.F.plainAttrs_list PySem.F.slot_list_append PySem.F.type_list_append mt_appendD rfl (by first | exact Or.inl rfl | exact Or.inr (Or.inl rfl) | exact Or.inr (Or.inr rfl)) (da_cons (dv 4) da_nil)))) dss_nil)))
          (dss_cons (ds_if (dt_not (dt_val (dcall D_law_same hr (da_cons (dcall Dnames_of hr (da_cons (de_ct call_tupleDD (by rfl) B.tuple boot_tuple (da_cons (dv 0) da_nil)) da_nil)) (da_cons (dv 1) da_nil))))) (dss_one (ds_ret de_bl)) dss_nil)
          (dss_cons (ds_if (dt_not (dt_val (dcall D_law_same hr (da_cons (dcall Dempty_names hr (da_cons (de_ct call_tupleDD (by rfl) B.tuple boot_tuple (da_cons (dv 0) da_nil)) da_nil)) (da_cons (de_cb call_sortedDD (by rfl) B.sorted boot_sorted (da_cons (dcall D_law_empty hr (da_cons (dv 0) da_nil)) da_nil)) da_nil))))) (dss_one (ds_ret de_bl)) dss_nil)
          (dss_cons (dsa S.nd 2 (de_cb call_sortedDD (by rfl) B.sorted boot_sorted (da_cons (dcall D_law_useful hr (da_cons (dv 0) da_nil)) da_nil)))
          (dss_cons (ds_if (dt_not (dt_val (dcall D_law_same hr (da_cons (dcall Duseful_names hr (da_cons (de_ct call_tupleDD (by rfl) B.tuple boot_tuple (da_cons (dv 0) da_nil)) da_nil)) (da_cons (dv 2) da_nil))))) (dss_one (ds_ret de_bl)) dss_nil)
          (dss_cons (ds_if (dt_not (dt_val (dcall D_law_same hr (da_cons (dcall Dreached_names hr (da_cons (de_ct call_tupleDD (by rfl) B.tuple boot_tuple (da_cons (dv 0) da_nil)) da_nil)) (da_cons (dcall D_law_reached hr (da_cons (dv 0) (da_cons (de_ix (ix_D (hu_of hr)) (de_ix (ix_D (hu_of hr)) (dv 0) de_int) de_int) da_nil))) da_nil))))) (dss_one (ds_ret de_bl)) dss_nil)
          (dss_cons (ds_if (dt_not (dt_val (dcall D_law_same hr (da_cons (dcall Dmakes_any hr (da_cons (de_ct call_tupleDD (by rfl) B.tuple boot_tuple (da_cons (dv 0) da_nil)) da_nil)) (da_cons (de_cmp (op_inDD (room65 hr)) (de_ix (ix_D (hu_of hr)) (de_ix (ix_D (hu_of hr)) (dv 0) de_int) de_int) (dv 2)) da_nil))))) (dss_one (ds_ret de_bl)) dss_nil)
          (dss_cons (dsa S.nd 3 (dcall D_law_trimmed hr (da_cons (dv 0) da_nil)))
          (dss_cons (ds_if (dt_not (dt_val (dcall D_law_same hr (da_cons (dcall Dtrimmed_rules hr (da_cons (de_ct call_tupleDD (by rfl) B.tuple boot_tuple (da_cons (dv 0) da_nil)) da_nil)) (da_cons (de_ct call_tupleDD (by rfl) B.tuple boot_tuple (da_cons (dv 3) da_nil)) da_nil))))) (dss_one (ds_ret de_bl)) dss_nil)
          (dss_one (ds_ret (de_or (de_cmp (op_eqDD hr.units) (dv 3) (de_lst da_nil)) (de_one (dcall D_law_same hr (da_cons (dcall Dtrimmed_rules hr (da_cons (de_ct call_tupleDD (by rfl) B.tuple boot_tuple (da_cons (dv 3) da_nil)) da_nil)) (da_cons (de_ct call_tupleDD (by rfl) B.tuple boot_tuple (da_cons (dv 3) da_nil)) da_nil))))))))))))))))
/-! ### law -/
abbrev slaw : Stmt := topS 24
theorem sclaw : FnScope ["script", "box", "names", "letters", "many", "rules", "rule", "sign"] ["script"] (defScope slaw) := ⟨rfl, rfl, rfl, by decide +kernel, rfl, by decide +kernel, by decide +kernel⟩
def wlaw (sp_law_digits : DSp) (sp_law_names : DSp) (sp_law_draw : DSp) (sp_law_letters : DSp) (sp_law_pick : DSp) (sp_law_asked : DSp) (sp_law_rules : DSp) (sp_law_in_a_row : DSp) (sp_law_same : DSp) (spis_name : DSp) : WS :=
  wSeq (wAsg 1 (wLst (wCons (wCall [.rd, .rd, .rd] sp_law_digits (wCons (wVar 0) (wCons (wC (.int 0)) (wCons (wC (.int 16)) wNil)))) (wCons (wC (.int 0)) wNil))))
          (wSeq (wAsg 2 (wCallM 0 [.mu, .rd] sp_law_names (wCons (wVar 1) (wCons (wBin addD (wC (.int 2)) (wCallM 0 [.mu, .rd] sp_law_draw (wCons (wVar 1) (wCons (wC (.int 4)) wNil)))) wNil))))
          (wSeq (wAsg 3 (wCallM 0 [.mu, .rd] sp_law_letters (wCons (wVar 1) (wCons (wBin addD (wC (.int 1)) (wCallM 0 [.mu, .rd] sp_law_draw (wCons (wVar 1) (wCons (wC (.int 3)) wNil)))) wNil))))
          (wSeq (wAsg 4 (wCallM 0 [.mu, .rd] sp_law_pick (wCons (wVar 1) (wCons (wLst (wCons (wC (.int 5)) (wCons (wC (.int 7)) (wCons (wC (.int 8)) (wCons (wC (.int 6)) (wCons (wC (.int 4)) (wCons (wC (.int 3)) (wCons (wC (.int 2)) (wCons (wC (.int 1)) wNil))))))))) wNil))))
          (wSeq (wIfS (wNot (wTest (wCall [.rd] sp_law_asked (wCons (wCallM 0 [.mu, .fz, .fz, .rd, .rd] sp_law_rules (wCons (wVar 1) (wCons (wVar 2) (wCons (wVar 3) (wCons (wVar 4) (wCons (wCallM 0 [.mu, .rd] sp_law_pick (wCons (wVar 1) (wCons (wLst (wCons (wC (.int 2)) (wCons (wC (.int 3)) (wCons (wC (.int 4)) (wCons (wC (.int 1)) wNil))))) wNil))) wNil)))))) wNil)))) (wRet (wC (.bl false))) wNx)
          (wSeq (wAsg 5 (wCallM 0 [.mu, .rd, .rd] sp_law_in_a_row (wCons (wVar 1) (wCons (wVar 2) (wCons (wVar 3) wNil)))))
          (wSeq (wFor (wiSeq (wCallM 0 [.mu, .fz, .fz, .rd, .rd] sp_law_rules (wCons (wVar 1) (wCons (wBin addD (wVar 2) (wCallM 0 [.mu, .rd] sp_law_names (wCons (wVar 1) (wCons (wC (.int 1)) wNil)))) (wCons (wVar 3) (wCons (wCallM 0 [.mu, .rd] sp_law_draw (wCons (wVar 1) (wCons (wC (.int 3)) wNil))) (wCons (wC (.int 3)) wNil))))))) (wgN 6) (wDrop (wMut 5 insertD (wCons (wBin addD (wC (.int 1)) (wCallM 0 [.mu, .rd] sp_law_draw (wCons (wVar 1) (wCons (wCB lenD (wCons (wVar 5) wNil)) wNil)))) (wCons (wVar 6) wNil)))))
          (wSeq (wIfS (wTest (wBin eqD (wCallM 0 [.mu, .rd] sp_law_draw (wCons (wVar 1) (wCons (wC (.int 3)) wNil))) (wC (.int 0)))) (wDrop (wMut 5 popD (wCons (wCallM 0 [.mu, .rd] sp_law_draw (wCons (wVar 1) (wCons (wCB lenD (wCons (wVar 5) wNil)) wNil))) wNil))) wNx)
          (wSeq (wIfS (wNot (wTest (wCall [.rd] sp_law_asked (wCons (wVar 5) wNil)))) (wRet (wC (.bl false))) wNx)
          (wSeq (wFor (wiSeq (wBin addD (wBin addD (wVar 2) (wVar 3)) (wLst (wCons (wC (.str [65])) (wCons (wC (.str [90])) (wCons (wC (.str [97])) (wCons (wC (.str [122])) wNil))))))) (wgN 7) (wIfS (wNot (wTest (wCall [.rd, .rd] sp_law_same (wCons (wCall [.rd] spis_name (wCons (wVar 7) wNil)) (wCons (wMeth "str" (strBlD fun l => Txt.isupper ⟨l.toArray⟩) (wVar 7) wNil) wNil))))) (wRet (wC (.bl false))) wNx))
          (wRet (wCall [.rd] sp_law_asked (wCons (wLst (wCons (wTup (wCons (wBin ixD (wVar 2) (wC (.int 0))) (wCons (wBin addD (wBin ixD (wVar 3) (wC (.int 0))) (wBin ixD (wVar 2) (wC (.int 1)))) wNil))) (wCons (wTup (wCons (wBin ixD (wVar 2) (wC (.int 1))) (wCons (wBin ixD (wVar 2) (wC (.int 0))) wNil))) (wCons (wTup (wCons (wBin ixD (wVar 2) (wC (.int 0))) (wCons (wC (.str [])) wNil))) wNil)))) wNil))))))))))))
def mlaw : List Md := [.rd]
theorem fnlaw {P : Program} {w : World} {K : PySem.W.Frag} {mg : Str → Option Value} {base : Heap} {k : Nat} {f : Addr} {fd : FuncData} {sp_law_digits : DSp} {sp_law_names : DSp} {sp_law_draw : DSp} {sp_law_letters : DSp} {sp_law_pick : DSp} {sp_law_asked : DSp} {sp_law_rules : DSp} {sp_law_in_a_row : DSp} {sp_law_same : DSp} {spis_name : DSp} (B : Bls mg) (F : Fun K "law" "law" slaw f fd) (D_law_digits : Dn P w K mg base k "_law_digits" [.rd, .rd, .rd] sp_law_digits) (D_law_names : Dn P w K mg base k "_law_names" [.mu, .rd] sp_law_names) (D_law_draw : Dn P w K mg base k "_law_draw" [.mu, .rd] sp_law_draw) (D_law_letters : Dn P w K mg base k "_law_letters" [.mu, .rd] sp_law_letters) (D_law_pick : Dn P w K mg base k "_law_pick" [.mu, .rd] sp_law_pick) (D_law_asked : Dn P w K mg base k "_law_asked" [.rd] sp_law_asked) (D_law_rules : Dn P w K mg base k "_law_rules" [.mu, .fz, .fz, .rd, .rd] sp_law_rules) (D_law_in_a_row : Dn P w K mg base k "_law_in_a_row" [.mu, .rd, .rd] sp_law_in_a_row) (D_law_same : Dn P w K mg base k "_law_same" [.rd, .rd] sp_law_same) (Dis_name : Dn P w K mg base k "is_name" [.rd] spis_name) :
    FnOk P w K mg base CX0 (k + 1) f fd ["script"] (liftSp K [.rd] (bodySp [.rd] 8 (wlaw sp_law_digits sp_law_names sp_law_draw sp_law_letters sp_law_pick sp_law_asked sp_law_rules sp_law_in_a_row sp_law_same spis_name))) :=
  fn_vs (N := ["script", "box", "names", "letters", "many", "rules", "rule", "sign"]) F sclaw [.rd] rfl (wlaw sp_law_digits sp_law_names sp_law_draw sp_law_letters sp_law_pick sp_law_asked sp_law_rules sp_law_in_a_row sp_law_same spis_name) fun cdv A outer s H E g hr => by
    have S := sclaw
    exact dss_cons (dsa S.nd 1 (de_lst (da_cons (dcall D_law_digits hr (da_cons (dv 0) (da_cons de_int (da_cons de_int da_nil)))) (da_cons de_int da_nil))))
          (dss_cons (dsa S.nd 2 (dcallM 0 D_law_names hr (da_cons (dv 1) (da_cons (de_bin op_addD de_int (dcallM 0 D_law_draw hr (da_cons (dv 1) (da_cons de_int da_nil)))) da_nil))))
          (dss_cons (dsa S.nd 3 (dcallM 0 D_law_letters hr (da_cons (dv 1) (da_cons (de_bin op_addD de_int (dcallM 0 D_law_draw hr (da_cons (dv 1) (da_cons de_int da_nil)))) da_nil))))
          (dss_cons (dsa S.nd 4 (dcallM 0 D_law_pick hr (da_cons (dv 1) (da_cons (de_lst (da_cons de_int (da_cons de_int (da_cons de_int (da_cons de_int (da_cons de_int (da_cons de_int (da_cons de_int (da_cons de_int da_nil))))))))) da_nil))))
          (dss_cons (ds_if (dt_not (dt_val (dcall D_law_asked hr (da_cons (dcallM 0 D_law_rules hr (da_cons (dv 1) (da_cons (dv 2) (da_cons (dv 3) (da_cons (dv 4) (da_cons (dcallM 0 D_law_pick hr (da_cons (dv 1) (da_cons (de_lst (da_cons de_int (da_cons de_int (da_cons de_int (da_cons de_int da_nil))))) da_nil))) da_nil)))))) da_nil)))) (dss_one (ds_ret de_bl)) dss_nil)
          (dss_cons (dsa S.nd 5 (dcallM 0 D_law_in_a_row hr (da_cons (dv 1) (da_cons (dv 2) (da_cons (dv 3) da_nil)))))
          (dss_cons (ds_for PassesOwn.never rfl (di_seq (dcallM 0 D_law_rules hr (da_cons (dv 1) (da_cons (de_bin op_addD (dv 2) (dcallM 0 D_law_names hr (da_cons (dv 1) (da_cons de_int da_nil)))) (da_cons (dv 3) (da_cons (dcallM 0 D_law_draw hr (da_cons (dv 1) (da_cons de_int da_nil))) (da_cons de_int da_nil))))))) (dgn S.nd 6) (dss_one (ds_drop (de_mut PySem.F.plainAttrs_list PySem.F.slot_list_insert PySem.F.type_list_insert mt_insertD rfl (by first | exact Or.inl rfl | exact Or.inr (Or.inl rfl) | exact Or.inr (Or.inr rfl)) (da_cons (de_bin op_addD de_int (dcallM 0 D_law_draw hr (da_cons (dv 1) (da_cons (de_cb call_lenDD (by rfl) B.len boot_len (da_cons (dv 5) da_nil)) da_nil)))) (da_cons (dv 6) da_nil))))))
          (dss_cons (ds_if (dt_cmp (op_eqDD hr.units) (dcallM 0 D_law_draw hr (da_cons (dv 1) (da_cons de_int da_nil))) de_int) (dss_one (ds_drop (de_mut PySem.F.plainAttrs_list PySem.F.slot_list_pop PySem.F.type_list_pop mt_popD rfl (by first | exact Or.inl rfl | exact Or.inr (Or.inl rfl) | exact Or.inr (Or.inr rfl)) (da_cons (dcallM 0 D_law_draw hr (da_cons (dv 1) (da_cons (de_cb call_lenDD (by rfl) B.len boot_len (da_cons (dv 5) da_nil)) da_nil))) da_nil)))) dss_nil)
          (dss_cons (ds_if (dt_not (dt_val (dcall D_law_asked hr (da_cons (dv 5) da_nil)))) (dss_one (ds_ret de_bl)) dss_nil)
          (dss_cons (ds_for PassesOwn.never rfl (di_seq (de_bin op_addD (de_bin op_addD (dv 2) (dv 3)) (de_lst (da_cons de_str (da_cons de_str (da_cons de_str (da_cons de_str da_nil))))))) (dgn S.nd 7) (dss_one (ds_if (dt_not (dt_val (dcall D_law_same hr (da_cons (dcall Dis_name hr (da_cons (dv 7) da_nil)) (da_cons (de_meth0 PySem.F.plainAttrs_str PySem.F.slot_str_isupper PySem.F.type_str_isupper mt_isupperD (dv 7)) da_nil))))) (dss_one (ds_ret de_bl)) dss_nil)))
          (dss_one (ds_ret (dcall D_law_asked hr (da_cons (de_lst (da_cons (de_tup (da_cons (de_ix (ix_D (hu_of hr)) (dv 2) de_int) (da_cons (de_bin op_addD (de_ix (ix_D (hu_of hr)) (dv 3) de_int) (de_ix (ix_D (hu_of hr)) (dv 2) de_int)) da_nil))) (da_cons (de_tup (da_cons (de_ix (ix_D (hu_of hr)) (dv 2) de_int) (da_cons (de_ix (ix_D (hu_of hr)) (dv 2) de_int) da_nil))) (da_cons (de_tup (da_cons (de_ix (ix_D (hu_of hr)) (dv 2) de_int) (da_cons de_str da_nil))) da_nil)))) da_nil)))))))))))))
end K49
namespace K49M

abbrev Rule := Nat × List Nat
def isNm (c : Nat) : Bool := decide (65 ≤ c) && decide (c ≤ 90)
def good (ok : Nat → Bool) (K t : List Nat) : Bool := t.all fun c => ok c || decide (c ∈ K)
def step1 (ok : Nat → Bool) (K : List Nat) (r : Rule) : List Nat := if (!decide (r.1 ∈ K) && good ok K r.2) = true then K ++ [r.1] else K
def pass (ok : Nat → Bool) (R : List Rule) (K : List Nat) : List Nat := R.foldl (step1 ok) K
def itr (ok : Nat → Bool) (R : List Rule) : Nat → List Nat → List Nat
  | 0, K => K
  | n + 1, K => itr ok R n (pass ok R K)
def useful (ok : Nat → Bool) (R : List Rule) : List Nat := itr ok R R.length []

variable {ok : Nat → Bool} {R : List Rule}
theorem step1_pre (K : List Nat) (r : Rule) : ∃ E, step1 ok K r = K ++ E := by
  unfold step1
  split
  · exact ⟨_, rfl⟩
  · exact ⟨[], by simp⟩
theorem fold_pre : ∀ (S : List Rule) (K : List Nat), ∃ E, S.foldl (step1 ok) K = K ++ E
  | [], K => ⟨[], by simp⟩
  | r :: S, K => by
    obtain ⟨E, e⟩ := step1_pre (ok := ok) K r
    obtain ⟨E', e'⟩ := fold_pre S (step1 ok K r)
    exact ⟨E ++ E', by rw [List.foldl_cons, e', e, List.append_assoc]⟩
theorem step1_nodup {K : List Nat} (h : K.Nodup) (r : Rule) : (step1 ok K r).Nodup := by
  unfold step1
  split
  · rename_i q
    simp only [Bool.and_eq_true, Bool.not_eq_true', decide_eq_false_iff_not] at q
    rw [List.nodup_append]
    exact ⟨h, List.pairwise_singleton _ _, fun a m b m' e => q.1 (by simp at m'; rw [← m', ← e]; exact m)⟩
  · exact h
theorem fold_nodup : ∀ (S : List Rule) (K : List Nat), K.Nodup → (S.foldl (step1 ok) K).Nodup
  | [], K, h => h
  | r :: S, K, h => fold_nodup S _ (step1_nodup h r)
theorem step1_sub {K : List Nat} {r : Rule} {c : Nat} (h : c ∈ step1 ok K r) : c ∈ K ∨ c = r.1 := by
  unfold step1 at h
  split at h
  · rcases List.mem_append.mp h with h | h
    · exact .inl h
    · exact .inr (by simpa using h)
  · exact .inl h
theorem fold_sub : ∀ (S : List Rule) (K : List Nat) {c : Nat}, c ∈ S.foldl (step1 ok) K → c ∈ K ∨ c ∈ S.map (·.1)
  | [], K, c, h => .inl h
  | r :: S, K, c, h => by
    rcases fold_sub S _ h with h | h
    · rcases step1_sub h with h | h
      · exact .inl h
      · exact .inr (by simp [h])
    · exact .inr (by simp only [List.map_cons, List.mem_cons]; exact .inr h)
theorem pass_len (K : List Nat) : K.length ≤ (pass ok R K).length := by
  obtain ⟨E, e⟩ := fold_pre (ok := ok) R K
  unfold pass
  rw [e]
  simp
theorem pass_fix {K : List Nat} (h : (pass ok R K).length ≤ K.length) : pass ok R K = K := by
  obtain ⟨E, e⟩ := fold_pre (ok := ok) R K
  have e2 : pass ok R K = K ++ E := e
  rw [e2] at h ⊢
  have : E = [] := by
    apply List.eq_nil_of_length_eq_zero
    simp only [List.length_append] at h
    omega
  rw [this, List.append_nil]
theorem itr_fix {K : List Nat} (h : pass ok R K = K) : ∀ n, itr ok R n K = K
  | 0 => rfl
  | n + 1 => by
    show itr ok R n (pass ok R K) = K
    rw [h]
    exact itr_fix h n
theorem itr_sub : ∀ (n : Nat) (K : List Nat), (∀ c ∈ K, c ∈ R.map (·.1)) → ∀ c ∈ itr ok R n K, c ∈ R.map (·.1)
  | 0, K, h => h
  | n + 1, K, h => itr_sub n _ fun c m => by
    rcases fold_sub R K m with m | m
    · exact h c m
    · exact m
theorem itr_nodup : ∀ (n : Nat) (K : List Nat), K.Nodup → (itr ok R n K).Nodup
  | 0, K, h => h
  | n + 1, K, h => itr_nodup n _ (fold_nodup R K h)
theorem itr_or : ∀ (n : Nat) (K : List Nat), pass ok R (itr ok R n K) = itr ok R n K ∨ K.length + n ≤ (itr ok R n K).length
  | 0, K => .inr (by simp [itr])
  | n + 1, K => by
    by_cases h : pass ok R K = K
    · left
      have e : itr ok R (n + 1) K = K := itr_fix h _
      rw [e]; exact h
    · rcases itr_or n (pass ok R K) with q | q
      · exact .inl q
      · right
        have := pass_len (ok := ok) (R := R) K
        have ne : ¬ (pass ok R K).length ≤ K.length := fun z => h (pass_fix z)
        show K.length + (n + 1) ≤ (itr ok R n (pass ok R K)).length
        omega
theorem nodup_le : ∀ {l m : List Nat}, l.Nodup → (∀ x ∈ l, x ∈ m) → l.length ≤ m.length
  | [], m, _, _ => Nat.zero_le _
  | a :: l, m, h, s => by
    obtain ⟨h1, h2⟩ := List.nodup_cons.mp h
    have ha := s a List.mem_cons_self
    have := nodup_le (m := m.erase a) h2 fun x mx => by
      have ne : x ≠ a := fun e => h1 (e ▸ mx)
      exact (List.mem_erase_of_ne ne).mpr (s x (List.mem_cons_of_mem _ mx))
    rw [List.length_erase_of_mem ha] at this
    have hp := List.length_pos_of_mem ha
    simp only [List.length_cons]
    omega
/-- after as many passes as there are rules nothing changes -/
theorem useful_fix : pass ok R (useful ok R) = useful ok R := by
  rcases itr_or (ok := ok) (R := R) R.length [] with h | h
  · exact h
  · have nd : (useful ok R).Nodup := itr_nodup _ _ List.nodup_nil
    have sb : ∀ c ∈ useful ok R, c ∈ R.map (·.1) := itr_sub _ _ (by simp)
    apply pass_fix
    have nd2 : (pass ok R (useful ok R)).Nodup := fold_nodup R _ nd
    have sb2 : ∀ c ∈ pass ok R (useful ok R), c ∈ R.map (·.1) := fun c m => by
      rcases fold_sub R _ m with m | m
      · exact sb c m
      · exact m
    have l2 := nodup_le nd2 sb2
    simp at h l2
    exact Nat.le_trans l2 h
theorem useful_nodup : (useful ok R).Nodup := itr_nodup _ _ List.nodup_nil
theorem useful_heads : ∀ c ∈ useful ok R, c ∈ R.map (·.1) := itr_sub _ _ (by simp)

/-! ### as a derivation -/
inductive Der (ok : Nat → Bool) (R : List Rule) : Nat → Prop
  | mk (r : Rule) (m : r ∈ R) (h : ∀ c ∈ r.2, ok c = false → Der ok R c) : Der ok R r.1
theorem good_iff {K t : List Nat} : good ok K t = true ↔ ∀ c ∈ t, ok c = false → c ∈ K := by
  unfold good
  rw [List.all_eq_true]
  constructor
  · intro h c m e
    have := h c m
    rw [e] at this
    simpa using this
  · intro h c m
    cases e : ok c with
    | true => rfl
    | false => simpa using h c m e
theorem fold_der : ∀ (S : List Rule) (K : List Nat), (∀ r ∈ S, r ∈ R) → (∀ c ∈ K, Der ok R c) → ∀ c ∈ S.foldl (step1 ok) K, Der ok R c
  | [], K, _, h => h
  | r :: S, K, s, h => fold_der S _ (fun r' m => s r' (List.mem_cons_of_mem _ m)) fun c m => by
    unfold step1 at m
    split at m
    · rename_i q
      simp only [Bool.and_eq_true] at q
      rcases List.mem_append.mp m with m | m
      · exact h c m
      · simp at m
        subst m
        exact .mk r (s r List.mem_cons_self) fun c' m' e => h c' (good_iff.mp q.2 c' m' e)
    · exact h c m
theorem itr_der : ∀ (n : Nat) (K : List Nat), (∀ c ∈ K, Der ok R c) → ∀ c ∈ itr ok R n K, Der ok R c
  | 0, K, h => h
  | n + 1, K, h => itr_der n _ (fold_der R K (fun _ m => m) h)
theorem fold_closed : ∀ (S : List Rule) (K : List Nat), S.foldl (step1 ok) K = K → ∀ r ∈ S, good ok K r.2 = true → r.1 ∈ K
  | [], K, _, r, m, _ => by simp at m
  | r :: S, K, h, r', m, g => by
    obtain ⟨E, e⟩ := step1_pre (ok := ok) K r
    obtain ⟨E', e'⟩ := fold_pre (ok := ok) S (step1 ok K r)
    have h2 : K ++ (E ++ E') = K := by
      rw [← List.append_assoc, ← e, ← e']
      exact h
    have e3 : E ++ E' = [] := by simpa using h2
    have e4 : E = [] := (List.append_eq_nil_iff.mp e3).1
    rw [e4, List.append_nil] at e
    rcases List.mem_cons.mp m with rfl | m
    · unfold step1 at e
      split at e
      · rename_i q
        simp at e
      · rename_i q
        simp only [Bool.and_eq_true, not_and, Bool.not_eq_true', decide_eq_false_iff_not] at q
        exact Classical.byContradiction fun n => q n g
    · rw [List.foldl_cons, e] at h
      exact fold_closed S K h r' m g
theorem mem_useful {c : Nat} : c ∈ useful ok R ↔ Der ok R c := by
  constructor
  · exact itr_der _ _ (by simp) c
  · intro d
    induction d with
    | mk r m h ih => exact fold_closed R _ useful_fix r m (good_iff.mpr ih)

/-! ### what is reached -/
inductive Rch (R : List Rule) (s : Nat) : Nat → Prop
  | start : Rch R s s
  | step (r : Rule) (m : r ∈ R) (h : Rch R s r.1) (c : Nat) (mc : c ∈ r.2) (n : isNm c = true) : Rch R s c
theorem Rch.mono {R R' : List Rule} {s c : Nat} (h : ∀ r ∈ R, r ∈ R') (x : Rch R s c) : Rch R' s c := by
  induction x with
  | start => exact .start
  | step r m _ c mc n ih => exact .step r (h r m) ih c mc n
/-- a set that is closed holds what is reached -/
theorem Rch.of_closed {s c : Nat} {K : List Nat} (hs : s ∈ K) (h : ∀ r ∈ R, r.1 ∈ K → ∀ c ∈ r.2, isNm c = true → c ∈ K) (x : Rch R s c) : c ∈ K := by
  induction x with
  | start => exact hs
  | step r m _ c mc n ih => exact h r m ih c mc n

/-! ### the law's passes: names may come twice -/
def news (K t : List Nat) : List Nat := t.filter fun c => isNm c && !decide (c ∈ K)
def rstep (srt : List Nat → List Nat) (K : List Nat) (r : Rule) : List Nat := if decide (r.1 ∈ K) = true then K ++ news K (srt r.2) else K
def rpass (srt : List Nat → List Nat) (R : List Rule) (K : List Nat) : List Nat := R.foldl (rstep srt) K
def ritr (srt : List Nat → List Nat) (R : List Rule) : Nat → List Nat → List Nat
  | 0, K => K
  | n + 1, K => ritr srt R n (rpass srt R K)
section
variable {srt : List Nat → List Nat} (hsrt : ∀ t c, c ∈ srt t ↔ c ∈ t)
theorem rstep_keep {K : List Nat} {r : Rule} {c : Nat} (h : c ∈ K) : c ∈ rstep srt K r := by
  unfold rstep
  split
  · exact List.mem_append_left _ h
  · exact h
theorem rfold_keep : ∀ (S : List Rule) {K : List Nat} {c : Nat}, c ∈ K → c ∈ S.foldl (rstep srt) K
  | [], _, _, h => h
  | r :: S, _, _, h => rfold_keep S (rstep_keep h)
include hsrt in
theorem rfold_sound {s : Nat} : ∀ (S : List Rule) (K : List Nat), (∀ r ∈ S, r ∈ R) → (∀ c ∈ K, Rch R s c) → ∀ c ∈ S.foldl (rstep srt) K, Rch R s c
  | [], K, _, h => h
  | r :: S, K, hs, h => rfold_sound S _ (fun r' m => hs r' (List.mem_cons_of_mem _ m)) fun c m => by
    unfold rstep at m
    split at m
    · rename_i q
      rcases List.mem_append.mp m with m | m
      · exact h c m
      · unfold news at m
        simp only [List.mem_filter, Bool.and_eq_true] at m
        exact .step r (hs r List.mem_cons_self) (h _ (of_decide_eq_true q)) c ((hsrt _ _).mp m.1) m.2.1
    · exact h c m
include hsrt in
theorem ritr_sound {s : Nat} : ∀ (n : Nat) (K : List Nat), (∀ c ∈ K, Rch R s c) → ∀ c ∈ ritr srt R n K, Rch R s c
  | 0, K, h => h
  | n + 1, K, h => ritr_sound n _ (rfold_sound hsrt R K (fun _ m => m) h)
/-- a rule whose head is known from the start leaves its names -/
theorem rfold_done : ∀ (S : List Rule) (K : List Nat), (hsrt : ∀ t c, c ∈ srt t ↔ c ∈ t) → ∀ r ∈ S, r.1 ∈ K → ∀ c ∈ r.2, isNm c = true → c ∈ S.foldl (rstep srt) K
  | [], K, _, r, m, _, _, _, _ => by simp at m
  | r :: S, K, hsrt, r', m, hk, c, mc, n => by
    rw [List.foldl_cons]
    rcases List.mem_cons.mp m with rfl | m
    · refine rfold_keep S ?_
      unfold rstep
      rw [if_pos (decide_eq_true hk)]
      by_cases k : c ∈ K
      · exact List.mem_append_left _ k
      · refine List.mem_append_right _ ?_
        unfold news
        simp only [List.mem_filter, Bool.and_eq_true, Bool.not_eq_true', decide_eq_false_iff_not]
        exact ⟨(hsrt _ _).mpr mc, n, k⟩
    · exact rfold_done S _ hsrt r' m (rstep_keep hk) c mc n
def Closed (R : List Rule) (K : List Nat) : Prop := ∀ r ∈ R, r.1 ∈ K → ∀ c ∈ r.2, isNm c = true → c ∈ K
include hsrt in
theorem rfold_closed {K : List Nat} (h : Closed R K) : ∀ (S : List Rule), (∀ r ∈ S, r ∈ R) → S.foldl (rstep srt) K = K
  | [], _ => rfl
  | r :: S, hs => by
    have e : rstep srt K r = K := by
      unfold rstep
      split
      · rename_i q
        have : news K (srt r.2) = [] := by
          unfold news
          rw [List.filter_eq_nil_iff]
          intro c m z
          simp only [Bool.and_eq_true, Bool.not_eq_true', decide_eq_false_iff_not] at z
          exact z.2 (h r (hs r List.mem_cons_self) (of_decide_eq_true q) c ((hsrt _ _).mp m) z.1)
        rw [this, List.append_nil]
      · rfl
    rw [List.foldl_cons, e]
    exact rfold_closed h S fun r' m => hs r' (List.mem_cons_of_mem _ m)
include hsrt in
theorem ritr_fixed {K : List Nat} (h : Closed R K) : ∀ n, ritr srt R n K = K
  | 0 => rfl
  | n + 1 => by
    show ritr srt R n (rpass srt R K) = K
    have e : rpass srt R K = K := rfold_closed hsrt h R fun _ m => m
    rw [e]
    exact ritr_fixed h n
def ddp : List Nat → List Nat
  | [] => []
  | x :: l => if x ∈ l then ddp l else x :: ddp l
theorem mem_ddp {c : Nat} : ∀ {l : List Nat}, c ∈ ddp l ↔ c ∈ l
  | [] => Iff.rfl
  | x :: l => by
    unfold ddp
    split
    · rename_i h
      rw [mem_ddp, List.mem_cons]
      exact ⟨.inr, fun q => q.elim (fun e => e ▸ h) id⟩
    · rw [List.mem_cons, List.mem_cons, mem_ddp]
theorem ddp_nodup : ∀ {l : List Nat}, (ddp l).Nodup
  | [] => List.nodup_nil
  | x :: l => by
    unfold ddp
    split
    · exact ddp_nodup
    · rename_i h
      exact List.nodup_cons.mpr ⟨fun m => h (mem_ddp.mp m), ddp_nodup⟩
/-- heads of rules that are known -/
def known (R : List Rule) (K : List Nat) : Nat := ((ddp (R.map (·.1))).filter fun c => decide (c ∈ K)).length
theorem filter_len {p q : Nat → Bool} : ∀ {l : List Nat}, (∀ x ∈ l, p x = true → q x = true) → (l.filter p).length ≤ (l.filter q).length ∧ ((l.filter q).length ≤ (l.filter p).length → ∀ x ∈ l, q x = true → p x = true)
  | [], _ => ⟨Nat.le_refl _, fun _ x m => by simp at m⟩
  | a :: l, h => by
    obtain ⟨h1, h2⟩ := filter_len (l := l) fun x m => h x (List.mem_cons_of_mem _ m)
    have ha := h a List.mem_cons_self
    simp only [List.filter_cons]
    cases pa : p a with
    | true =>
      rw [ha pa]
      simp only [if_true, List.length_cons]
      refine ⟨by omega, fun le x m qx => ?_⟩
      rcases List.mem_cons.mp m with rfl | m
      · exact pa
      · exact h2 (by omega) x m qx
    | false =>
      cases qa : q a with
      | true =>
        simp only [if_true, Bool.false_eq_true, if_false, List.length_cons]
        exact ⟨by omega, fun le => by omega⟩
      | false =>
        simp only [Bool.false_eq_true, if_false]
        refine ⟨h1, fun le x m qx => ?_⟩
        rcases List.mem_cons.mp m with rfl | m
        · rw [qa] at qx; cases qx
        · exact h2 le x m qx
include hsrt in
theorem known_step (K : List Nat) : known R K ≤ known R (rpass srt R K) ∧ (known R (rpass srt R K) ≤ known R K → Closed R (rpass srt R K)) := by
  have fl := filter_len (p := fun c => decide (c ∈ K)) (q := fun c => decide (c ∈ rpass srt R K)) (l := ddp (R.map (·.1))) fun x _ h => decide_eq_true (rfold_keep R (of_decide_eq_true h))
  refine ⟨fl.1, fun le r m hk c mc n => ?_⟩
  have hr : r.1 ∈ ddp (R.map (·.1)) := mem_ddp.mpr (List.mem_map_of_mem m)
  have := fl.2 le r.1 hr (decide_eq_true hk)
  exact rfold_done R K hsrt r m (of_decide_eq_true this) c mc n
include hsrt in
theorem ritr_or : ∀ (n : Nat) (K : List Nat), Closed R (ritr srt R n K) ∨ known R K + n ≤ known R (ritr srt R n K)
  | 0, K => .inr (Nat.le_refl _)
  | n + 1, K => by
    obtain ⟨h1, h2⟩ := known_step hsrt (R := R) K
    by_cases le : known R (rpass srt R K) ≤ known R K
    · left
      show Closed R (ritr srt R n (rpass srt R K))
      rw [ritr_fixed hsrt (h2 le)]
      exact h2 le
    · rcases ritr_or n (rpass srt R K) with q | q
      · exact .inl q
      · right
        show known R K + (n + 1) ≤ known R (ritr srt R n (rpass srt R K))
        omega
theorem known_le (K : List Nat) : known R K ≤ R.length := by
  unfold known
  refine Nat.le_trans (List.length_filter_le _ _) ?_
  have nd : (ddp (R.map (·.1))).Nodup := ddp_nodup
  have := nodup_le nd (m := R.map (·.1)) fun x m => mem_ddp.mp m
  simpa using this
include hsrt in
theorem reach_closed {s : Nat} (hs : s ∈ R.map (·.1)) : Closed R (ritr srt R R.length [s]) := by
  rcases ritr_or hsrt (R := R) R.length [s] with h | h
  · exact h
  · exfalso
    have h1 : 1 ≤ known R [s] := by
      unfold known
      have : s ∈ (ddp (R.map (·.1))).filter fun c => decide (c ∈ [s]) := by
        rw [List.mem_filter]
        exact ⟨mem_ddp.mpr hs, by simp⟩
      exact List.length_pos_of_mem this
    have h2 := known_le (R := R) (ritr srt R R.length [s])
    omega
theorem ritr_keep : ∀ (n : Nat) {K : List Nat} {c : Nat}, c ∈ K → c ∈ ritr srt R n K
  | 0, _, _, h => h
  | n + 1, _, _, h => ritr_keep n (rfold_keep R h)
include hsrt in
theorem mem_ritr {s c : Nat} (hs : s ∈ R.map (·.1)) : c ∈ ritr srt R R.length [s] ↔ Rch R s c := by
  constructor
  · exact ritr_sound hsrt _ _ (fun c m => by simp at m; subst m; exact .start) c
  · exact Rch.of_closed (ritr_keep _ (by simp)) (reach_closed hsrt hs)
end
end K49M
namespace K49
open PySem PySem.Spec PyProof.Rows L2 VS K49M

def rlD (r : Rule) : D := .tup [chD r.1, .str r.2]
def sign (c : Nat) : Prop := (65 ≤ c ∧ c ≤ 90) ∨ (97 ≤ c ∧ c ≤ 122)
def okR (r : Rule) : Prop := r.2.length ≤ 20 ∧ (65 ≤ r.1 ∧ r.1 ≤ 90) ∧ ∀ c ∈ r.2, sign c
def okRs (R : List Rule) : Prop := R.length ≤ 100 ∧ ∀ r ∈ R, okR r

/-! ### one pass of a loop over rules that appends names -/
def passRho (s0 x2 x3 x4 x5 : Sl) (K : List Nat) : Rho := [s0, .own (.lst (chs K)), x2, x3, x4, x5]
def CondOk (ok : Nat → Bool) (s0 : Sl) (wc : WT) : Prop := ∀ (K : List Nat) (r : Rule) (x2 x5 : Sl) (Q : Bool → Rho → Prop), okR r → K.length ≤ 100000 →
  (∀ x5', Q (!decide (r.1 ∈ K) && good ok K r.2) (passRho s0 x2 (.fz (chD r.1)) (.fz (.str r.2)) x5' K)) → wc (passRho s0 x2 (.fz (chD r.1)) (.fz (.str r.2)) x5 K) Q
def wgNT : WG := wgT 2 (wgCons (wgN 3) (wgCons (wgN 4) wgNil))
theorem step1_t {ok : Nat → Bool} {K : List Nat} {r : Rule} (h : (!decide (r.1 ∈ K) && good ok K r.2) = true) : step1 ok K r = K ++ [r.1] := by
  unfold step1; rw [if_pos h]
theorem step1_f {ok : Nat → Bool} {K : List Nat} {r : Rule} (h : (!decide (r.1 ∈ K) && good ok K r.2) = false) : step1 ok K r = K := by
  unfold step1; rw [if_neg (by rw [h]; exact Bool.false_ne_true)]
theorem chs_snoc (K : List Nat) (c : Nat) : chs K ++ [chD c] = chs (K ++ [c]) := by simp [chs]
theorem chs_len (K : List Nat) : (chs K).length = K.length := by simp [chs]
theorem law_in {ok : Nat → Bool} {s0 x2 : Sl} {wc : WT} {P : WEnds} (Hc : CondOk ok s0 wc) : ∀ (S : List Rule) (K : List Nat) (x3 x4 x5 : Sl), (∀ r ∈ S, okR r) → K.length + S.length ≤ 100000 →
    (∀ x3 x4 x5, P.nx (passRho s0 x2 x3 x4 x5 (S.foldl (step1 ok) K))) →
    wLoop wgNT (wIfS wc (wDrop (wMut 1 appendD (wCons (wVar 3) wNil))) wNx) P (S.map rlD) (passRho s0 x2 x3 x4 x5 K)
  | [], K, x3, x4, x5, _, _, h => h x3 x4 x5
  | r :: S, K, x3, x4, x5, hr, hl, h => by
    simp only [List.length_cons] at hl
    have ih := fun K' x5 (q : K'.length ≤ K.length + 1) h => law_in (x2 := x2) (P := P) Hc S K' (.fz (chD r.1)) (.fz (.str r.2)) x5 (fun r' m => hr r' (List.mem_cons_of_mem _ m)) (by omega) h
    refine ⟨rfl, Hc K r x2 x5 _ (hr r List.mem_cons_self) (by omega) fun x5' => ⟨fun q => ?_, fun q => ?_⟩⟩
    · refine ⟨trivial, by rw [chs_len]; omega, ?_⟩
      have := ih (K ++ [r.1]) x5' (by simp) (by rw [List.foldl_cons, step1_t q] at h; exact h)
      rw [passRho, ← chs_snoc] at this
      exact this
    · exact ih K x5' (by omega) (by rw [List.foldl_cons, step1_f q] at h; exact h)
/-- the program's: with the mark that something grew -/
theorem prog_in {ok : Nat → Bool} {s0 : Sl} {wc : WT} {P : WEnds} (Hc : CondOk ok s0 wc) : ∀ (S : List Rule) (K : List Nat) (g : Bool) (x3 x4 x5 : Sl), (∀ r ∈ S, okR r) → K.length + S.length ≤ 100000 →
    (∀ x3 x4 x5, P.nx (passRho s0 (.fz (.bl (g || decide (K.length < (S.foldl (step1 ok) K).length)))) x3 x4 x5 (S.foldl (step1 ok) K))) →
    wLoop wgNT (wIfS wc (wSeq (wDrop (wMut 1 appendD (wCons (wVar 3) wNil))) (wAsg 2 (wC (.bl true)))) wNx) P (S.map rlD) (passRho s0 (.fz (.bl g)) x3 x4 x5 K)
  | [], K, g, x3, x4, x5, _, _, h => by
    have := h x3 x4 x5
    rw [List.foldl_nil, decide_eq_false (Nat.lt_irrefl _), Bool.or_false] at this
    exact this
  | r :: S, K, g, x3, x4, x5, hr, hl, h => by
    simp only [List.length_cons] at hl
    have ih := fun K' g' x5 (q : K'.length ≤ K.length + 1) h => prog_in (P := P) Hc S K' g' (.fz (chD r.1)) (.fz (.str r.2)) x5 (fun r' m => hr r' (List.mem_cons_of_mem _ m)) (by omega) h
    refine ⟨rfl, Hc K r _ x5 _ (hr r List.mem_cons_self) (by omega) fun x5' => ⟨fun q => ?_, fun q => ?_⟩⟩
    · refine ⟨trivial, by rw [chs_len]; omega, ?_⟩
      have := ih (K ++ [r.1]) true x5' (by simp) (by
        rw [List.foldl_cons, step1_t q] at h
        have e : (g || decide (K.length < (S.foldl (step1 ok) (K ++ [r.1])).length)) = (true || decide ((K ++ [r.1]).length < (S.foldl (step1 ok) (K ++ [r.1])).length)) := by
          obtain ⟨E, e⟩ := fold_pre (ok := ok) S (K ++ [r.1])
          rw [e]
          simp
        rw [e] at h
        exact h)
      rw [passRho, ← chs_snoc] at this
      exact this
    · exact ih K g x5' (by omega) (by rw [List.foldl_cons, step1_f q] at h; exact h)
/-- the conditions -/
def okE : Nat → Bool := fun _ => false
def okU : Nat → Bool := fun c => !isNm c
theorem good_all {ok : Nat → Bool} {K t : List Nat} : ((t.map fun c => ok c || decide (c ∈ K)).all id) = good ok K t := by
  unfold good
  rw [List.all_map]
  rfl
theorem condPE {s0 : Sl} : CondOk okE s0 (wAnd (wTest (wBin notinD (wVar 3) (wVar 1))) (wTest (wCB allD (wCons (wLc (wiSeq (wVar 4)) (wgN 5) wYes (wBin inD (wVar 5) (wVar 1)) [5]) wNil)))) := by
  intro K r x2 x5 Q hr hK h
  refine ⟨rfl, flat_chs 59 K, fun q => ?_, fun q => ?_⟩
  · rw [any_ch] at q
    have fin : ∀ x5', Q ((r.2.map fun c => okE c || decide (c ∈ K)).all id) (passRho s0 x2 (.fz (chD r.1)) (.fz (.str r.2)) x5' K) := fun x5' => by
      have := h x5'
      rw [q, Bool.true_and] at this
      rw [good_all]
      exact this
    have e : asBls ((chs r.2).filterMap (sg fun c => some (.bl (decide (c ∈ K))))) = some (r.2.map fun c => okE c || decide (c ∈ K)) := by
      rw [fm_sg, fm_some, show (r.2.map fun c => D.bl (decide (c ∈ K))) = (r.2.map fun c => okE c || decide (c ∈ K)).map D.bl by rw [List.map_map]; rfl]
      exact asBls_of
    refine ⟨_, _, rfl, items_str _, by rw [chs_len]; have := hr.1; omega, comp_pure (sg fun c => some (.bl (decide (c ∈ K)))) _ _ (fun d m C hC => ?_) ?_⟩
    · obtain ⟨c, _, rfl⟩ := of_chs m
      refine br_t rfl ⟨rfl, flat_chs 59 K, ?_⟩
      rw [any_ch]
      exact hC
    · exact ⟨_, e, fin _⟩
  · rw [any_ch] at q
    have := h x5
    rw [q] at this
    exact this
/-- is_name -/
def spIsName : DSp := fun ds P => ∃ c, ds = [chD c] ∧ P (.val (.bl (isNm c))) []
theorem ltL1 (a b : Nat) : ltL [a] [b] = decide (a < b) := by
  unfold ltL
  rw [Bool.eq_iff_iff]
  simp only [decide_eq_true_eq]
  constructor
  · intro h
    cases h with
    | rel h => exact h
    | cons h => cases h
  · exact fun h => .rel h
theorem v_isname {ds : List D} {P : T → List D → Prop} (h : spIsName ds P) : bodySp [.rd] 1 wis_name ds P := by
  obtain ⟨c, rfl, hP⟩ := h
  have e : isNm c = (!ltL [c] [65] && !ltL [90] [c]) := by
    rw [ltL1, ltL1]
    unfold isNm
    rw [Bool.eq_iff_iff]
    simp
  rw [e] at hP
  refine ⟨fun q => ?_, fun q => ?_⟩
  · rw [q, Bool.true_and] at hP
    exact hP
  · rw [q, Bool.false_and] at hP
    exact hP
theorem condPU {s0 : Sl} : CondOk okU s0 (wAnd (wTest (wBin notinD (wVar 3) (wVar 1))) (wTest (wCB allD (wCons (wLc (wiSeq (wVar 4)) (wgN 5) wYes (wOrV (wNotV (wCall [.rd] spIsName (wCons (wVar 5) wNil))) (wBin inD (wVar 5) (wVar 1))) [5]) wNil)))) := by
  intro K r x2 x5 Q hr hK h
  refine ⟨rfl, flat_chs 59 K, fun q => ?_, fun q => ?_⟩
  · rw [any_ch] at q
    have fin : ∀ x5', Q ((r.2.map fun c => okU c || decide (c ∈ K)).all id) (passRho s0 x2 (.fz (chD r.1)) (.fz (.str r.2)) x5' K) := fun x5' => by
      have := h x5'
      rw [q, Bool.true_and] at this
      rw [good_all]
      exact this
    have e : asBls ((chs r.2).filterMap (sg fun c => some (.bl (okU c || decide (c ∈ K))))) = some (r.2.map fun c => okU c || decide (c ∈ K)) := by
      rw [fm_sg, fm_some, show (r.2.map fun c => D.bl (okU c || decide (c ∈ K))) = (r.2.map fun c => okU c || decide (c ∈ K)).map D.bl by rw [List.map_map]; rfl]
      exact asBls_of
    refine ⟨_, _, rfl, items_str _, by rw [chs_len]; have := hr.1; omega, comp_pure (sg fun c => some (.bl (okU c || decide (c ∈ K)))) _ _ (fun d m C hC => ?_) ?_⟩
    · obtain ⟨c, _, rfl⟩ := of_chs m
      refine br_t rfl ⟨_, rfl, c, rfl, fun q => ?_, fun q => ⟨rfl, flat_chs 59 K, ?_⟩⟩
      · have e2 : (okU c || decide (c ∈ K)) = true := by
          show (!isNm c || decide (c ∈ K)) = true
          rw [q, Bool.true_or]
        have hC2 : C (some (.bl (okU c || decide (c ∈ K)))) _ := hC
        rw [e2] at hC2
        exact hC2
      · have e2 : (okU c || decide (c ∈ K)) = decide (c ∈ K) := by
          show (!isNm c || decide (c ∈ K)) = _
          rw [q, Bool.false_or]
        have hC2 : C (some (.bl (okU c || decide (c ∈ K)))) _ := hC
        rw [e2] at hC2
        rw [any_ch]
        exact hC2
    · exact ⟨_, e, fin _⟩
  · rw [any_ch] at q
    have := h x5
    rw [q] at this
    exact this

/-! ### the law's tests -/
theorem eqb_nil (t : List Nat) : eqb (.lst (chs t)) (.lst []) = t.isEmpty := by
  cases t with
  | nil => rfl
  | cons a l => rfl
theorem good_empty {ok : Nat → Bool} {K t : List Nat} (p : Nat → Bool) (h : ∀ c ∈ t, p c = !(ok c || decide (c ∈ K))) : (t.filter p).isEmpty = good ok K t := by
  unfold good
  induction t with
  | nil => rfl
  | cons a l ih =>
    have ha := h a List.mem_cons_self
    rw [List.filter_cons, List.all_cons]
    cases e : p a with
    | true =>
      rw [e] at ha
      have : (ok a || decide (a ∈ K)) = false := by
        cases hx : (ok a || decide (a ∈ K)) with
        | false => rfl
        | true => rw [hx] at ha; cases ha
      rw [this]
      rfl
    | false =>
      rw [e] at ha
      have : (ok a || decide (a ∈ K)) = true := by
        cases hx : (ok a || decide (a ∈ K)) with
        | true => rfl
        | false => rw [hx] at ha; cases ha
      rw [this, Bool.true_and]
      simpa using ih fun c m => h c (List.mem_cons_of_mem _ m)
theorem upper_sign {c : Nat} (h : sign c) : Txt.isupper ⟨[c].toArray⟩ = isNm c := by
  have all : ((List.range 123).all fun c => !(decide (65 ≤ c ∧ c ≤ 90) || decide (97 ≤ c ∧ c ≤ 122)) || (Txt.isupper ⟨[c].toArray⟩ == isNm c)) = true := by decide +kernel
  have := List.all_eq_true.mp all c (by simp; rcases h with h | h <;> omega)
  have hs : (decide (65 ≤ c ∧ c ≤ 90) || decide (97 ≤ c ∧ c ≤ 122)) = true := by
    rcases h with h | h
    · simp [h]
    · simp [h]
  rw [hs] at this
  simpa using this
theorem condLE {s0 : Sl} : CondOk okE s0 (wAnd (wTest (wBin notinD (wVar 3) (wVar 1))) (wTest (wBin eqD (wLc (wiSeq (wVar 4)) (wgN 5) (wTest (wBin notinD (wVar 5) (wVar 1))) (wVar 5) [5]) (wLst wNil)))) := by
  intro K r x2 x5 Q hr hK h
  refine ⟨rfl, flat_chs 59 K, fun q => ?_, fun q => ?_⟩
  · rw [any_ch] at q
    have e : ((chs r.2).filterMap (sg fun c => if (!decide (c ∈ K)) = true then some (chD c) else none)) = chs (r.2.filter fun c => !decide (c ∈ K)) := by
      rw [fm_sg, fm_if]
    have fin : ∀ x5', Q (eqb (.lst ((chs r.2).filterMap (sg fun c => if (!decide (c ∈ K)) = true then some (chD c) else none))) (.lst [])) (passRho s0 x2 (.fz (chD r.1)) (.fz (.str r.2)) x5' K) := fun x5' => by
      have := h x5'
      rw [q, Bool.true_and] at this
      rw [e, eqb_nil, good_empty (ok := okE) (K := K) _ fun c _ => by simp [okE]]
      exact this
    have fl : flat 60 (.lst ((chs r.2).filterMap (sg fun c => if (!decide (c ∈ K)) = true then some (chD c) else none))) = true := by
      rw [e]
      exact flat_chs 59 _
    refine ⟨_, _, rfl, items_str _, by rw [chs_len]; have := hr.1; omega, comp_pure (sg fun c => if (!decide (c ∈ K)) = true then some (chD c) else none) _ _ (fun d m C hC => ?_) ?_⟩
    · obtain ⟨c, _, rfl⟩ := of_chs m
      refine ⟨rfl, flat_chs 59 K, ?_⟩
      rw [any_ch]
      have hC2 : C (if (!decide (c ∈ K)) = true then some (chD c) else none) _ := hC
      refine ⟨fun z => ?_, fun z => ?_⟩
      · rw [if_pos z] at hC2
        exact hC2
      · rw [if_neg (by rw [z]; exact Bool.false_ne_true)] at hC2
        exact hC2
    · exact ⟨by decide, fl, rfl, fin _⟩
  · rw [any_ch] at q
    have := h x5
    rw [q] at this
    exact this
theorem condLU {s0 : Sl} : CondOk okU s0 (wAnd (wTest (wBin notinD (wVar 3) (wVar 1))) (wTest (wBin eqD (wLc (wiSeq (wVar 4)) (wgN 5) (wAnd (wTest (wMeth "str" (strBlD fun l => Txt.isupper ⟨l.toArray⟩) (wVar 5) wNil)) (wTest (wBin notinD (wVar 5) (wVar 1)))) (wVar 5) [5]) (wLst wNil)))) := by
  intro K r x2 x5 Q hr hK h
  refine ⟨rfl, flat_chs 59 K, fun q => ?_, fun q => ?_⟩
  · rw [any_ch] at q
    have e : ((chs r.2).filterMap (sg fun c => if (isNm c && !decide (c ∈ K)) = true then some (chD c) else none)) = chs (r.2.filter fun c => isNm c && !decide (c ∈ K)) := by
      rw [fm_sg, fm_if]
    have fin : ∀ x5', Q (eqb (.lst ((chs r.2).filterMap (sg fun c => if (isNm c && !decide (c ∈ K)) = true then some (chD c) else none))) (.lst [])) (passRho s0 x2 (.fz (chD r.1)) (.fz (.str r.2)) x5' K) := fun x5' => by
      have := h x5'
      rw [q, Bool.true_and] at this
      rw [e, eqb_nil, good_empty (ok := okU) (K := K) _ fun c _ => by simp [okU]]
      exact this
    have fl : flat 60 (.lst ((chs r.2).filterMap (sg fun c => if (isNm c && !decide (c ∈ K)) = true then some (chD c) else none))) = true := by
      rw [e]
      exact flat_chs 59 _
    refine ⟨_, _, rfl, items_str _, by rw [chs_len]; have := hr.1; omega, comp_pure (sg fun c => if (isNm c && !decide (c ∈ K)) = true then some (chD c) else none) _ _ (fun d m C hC => ?_) ?_⟩
    · obtain ⟨c, mc, rfl⟩ := of_chs m
      have hC2 : C (if (isNm c && !decide (c ∈ K)) = true then some (chD c) else none) (passRho s0 x2 (.fz (chD r.1)) (.fz (.str r.2)) .no K) := hC
      have up := upper_sign (hr.2.2 c mc)
      refine ⟨rfl, fun z => ⟨rfl, flat_chs 59 K, ?_⟩, fun z => br_f rfl ?_⟩
      · rw [any_ch]
        have z' : isNm c = true := up.symm.trans z
        rw [z', Bool.true_and] at hC2
        refine ⟨fun z => ?_, fun z => ?_⟩
        · rw [if_pos z] at hC2
          exact hC2
        · rw [if_neg (by rw [z]; exact Bool.false_ne_true)] at hC2
          exact hC2
      · have z' : isNm c = false := up.symm.trans z
        rw [z', Bool.false_and, if_neg Bool.false_ne_true] at hC2
        exact hC2
    · exact ⟨by decide, fl, rfl, fin _⟩
  · rw [any_ch] at q
    have := h x5
    rw [q] at this
    exact this

/-! ### the two laws' lists -/
def rulesD (R : List Rule) : List D := R.map rlD
theorem rulesD_len (R : List Rule) : (rulesD R).length = R.length := by simp [rulesD]
def spClosL (ok : Nat → Bool) : DSp := fun ds P => ∃ R, ds = [.lst (rulesD R)] ∧ okRs R ∧ P (.tmp (.lst (chs (useful ok R)))) []
/-- the number of names at any time -/
theorem itr_small {ok : Nat → Bool} {R : List Rule} (n : Nat) {K : List Nat} (hk : K.Nodup) (hs : ∀ c ∈ K, c ∈ R.map (·.1)) : (itr ok R n K).length ≤ R.length := by
  have := nodup_le (itr_nodup (ok := ok) (R := R) n K hk) (itr_sub n K hs)
  simpa using this
theorem turns_loop {ok : Nat → Bool} {R : List Rule} {s0 : Sl} {wi : WI} {wc : WT} {P : WEnds} (hR : okRs R) (Hi : ∀ (x2 x3 x4 x5 : Sl) (K : List Nat) (Q : List D → Back → Rho → Prop), Q (rulesD R) none (passRho s0 x2 x3 x4 x5 K) → wi (passRho s0 x2 x3 x4 x5 K) Q) (Hc : CondOk ok s0 wc) :
    ∀ (ts : List D) (K : List Nat) (x2 x3 x4 x5 : Sl), K.Nodup → (∀ c ∈ K, c ∈ R.map (·.1)) → (∀ x2 x3 x4 x5, P.nx (passRho s0 x2 x3 x4 x5 (itr ok R ts.length K))) →
    wLoop (wgN 2) (wFor wi wgNT (wIfS wc (wDrop (wMut 1 appendD (wCons (wVar 3) wNil))) wNx)) P ts (passRho s0 x2 x3 x4 x5 K)
  | [], K, x2, x3, x4, x5, _, _, h => h x2 x3 x4 x5
  | t :: ts, K, x2, x3, x4, x5, nd, sb, h => by
    have small : K.length ≤ R.length := by
      have := nodup_le nd sb
      simpa using this
    have hl := hR.1
    refine Hi (.fz t) x3 x4 x5 K _ (law_in Hc R K x3 x4 x5 hR.2 (by omega) fun x3 x4 x5 => ?_)
    exact turns_loop hR Hi Hc ts (pass ok R K) (.fz t) x3 x4 x5 (fold_nodup R K nd) (fun c m => (fold_sub R K m).elim (sb c) id) h
theorem rng_len {lo : Int} {n : Nat} : (rng lo n).length = n := by simp [rng]
theorem v_lempty {ds : List D} {P : T → List D → Prop} (h : spClosL okE ds P) : bodySp [.rd] 6 w_law_empty ds P := by
  obtain ⟨R, rfl, hR, hP⟩ := h
  have hl := hR.1
  refine ⟨by decide, _, rfl, ⟨by rw [rulesD_len]; omega, by rw [rulesD_len]; omega⟩, ?_⟩
  refine turns_loop (ok := okE) (s0 := .lent (.lst (rulesD R))) hR (fun x2 x3 x4 x5 K Q hQ => ⟨_, _, rfl, rfl, hQ⟩) condLE _ [] _ _ _ _ List.nodup_nil (by simp) fun x2 x3 x4 x5 => ?_
  rw [rng_len, rulesD_len, Int.toNat_natCast]
  exact hP
theorem v_luseful {ds : List D} {P : T → List D → Prop} (h : spClosL okU ds P) : bodySp [.rd] 6 w_law_useful ds P := by
  obtain ⟨R, rfl, hR, hP⟩ := h
  have hl := hR.1
  refine ⟨by decide, _, rfl, ⟨by rw [rulesD_len]; omega, by rw [rulesD_len]; omega⟩, ?_⟩
  refine turns_loop (ok := okU) (s0 := .lent (.lst (rulesD R))) hR (fun x2 x3 x4 x5 K Q hQ => ⟨_, _, rfl, rfl, hQ⟩) condLU _ [] _ _ _ _ List.nodup_nil (by simp) fun x2 x3 x4 x5 => ?_
  rw [rng_len, rulesD_len, Int.toNat_natCast]
  exact hP

/-! ### the program's: as long as something grows -/
def spClosP (ok : Nat → Bool) : DSp := fun ds P => ∃ R, ds = [.tup (rulesD R)] ∧ okRs R ∧ P (.tmp (.lst (chs (srtC (useful ok R))))) []
theorem grow_loop {ok : Nat → Bool} {R : List Rule} {s0 : Sl} {wi : WI} {wc : WT} {P : WEnds} (hR : okRs R) (Hi : ∀ (x2 x3 x4 x5 : Sl) (K : List Nat) (Q : List D → Back → Rho → Prop), Q (rulesD R) none (passRho s0 x2 x3 x4 x5 K) → wi (passRho s0 x2 x3 x4 x5 K) Q) (Hc : CondOk ok s0 wc) :
    ∀ (m : Nat) (K : List Nat) (x3 x4 x5 : Sl), K.Nodup → (∀ c ∈ K, c ∈ R.map (·.1)) → pass ok R (itr ok R m K) = itr ok R m K → (∀ x2 x3 x4 x5, P.nx (passRho s0 x2 x3 x4 x5 (itr ok R m K))) →
    wLoopW (wTest (wVar 2)) (wSeq (wAsg 2 (wC (.bl false))) (wFor wi wgNT (wIfS wc (wSeq (wDrop (wMut 1 appendD (wCons (wVar 3) wNil))) (wAsg 2 (wC (.bl true)))) wNx))) P (m + 2) (passRho s0 (.fz (.bl true)) x3 x4 x5 K) := by
  intro m
  induction m with
  | zero =>
    intro K x3 x4 x5 nd sb fx h
    have small : K.length ≤ R.length := by
      have := nodup_le nd sb
      simpa using this
    have hl := hR.1
    refine br_t rfl (Hi _ x3 x4 x5 K _ (prog_in Hc R K false x3 x4 x5 hR.2 (by omega) fun x3 x4 x5 => ?_))
    have e : R.foldl (step1 ok) K = K := fx
    rw [e, decide_eq_false (Nat.lt_irrefl _), Bool.or_false]
    exact br_f rfl (h _ x3 x4 x5)
  | succ m ih =>
    intro K x3 x4 x5 nd sb fx h
    have small : K.length ≤ R.length := by
      have := nodup_le nd sb
      simpa using this
    have hl := hR.1
    refine br_t rfl (Hi _ x3 x4 x5 K _ (prog_in Hc R K false x3 x4 x5 hR.2 (by omega) fun x3 x4 x5 => ?_))
    rw [Bool.false_or]
    cases q : decide (K.length < (R.foldl (step1 ok) K).length) with
    | true => exact ih (pass ok R K) x3 x4 x5 (fold_nodup R K nd) (fun c m => (fold_sub R K m).elim (sb c) id) fx h
    | false =>
      have e : pass ok R K = K := pass_fix (by have := of_decide_eq_false q; show (R.foldl (step1 ok) K).length ≤ _; omega)
      have e2 : R.foldl (step1 ok) K = K := e
      have e3 : itr ok R (m + 1) K = K := itr_fix e _
      rw [e3] at h
      rw [e2]
      exact br_f rfl (h _ x3 x4 x5)
theorem v_pempty {ds : List D} {P : T → List D → Prop} (h : spClosP okE ds P) : bodySp [.rd] 6 wempty_names ds P := by
  obtain ⟨R, rfl, hR, hP⟩ := h
  refine ⟨by decide, R.length + 2, ?_⟩
  refine grow_loop (ok := okE) (s0 := .fz (.tup (rulesD R))) hR (fun x2 x3 x4 x5 K Q hQ => ⟨_, _, rfl, rfl, hQ⟩) condPE R.length [] _ _ _ List.nodup_nil (by simp) useful_fix fun x2 x3 x4 x5 => ?_
  rw [← srtC_eq] at hP
  exact Or.inr ⟨_, asStrs_chs _, hP⟩
theorem v_puseful {ds : List D} {P : T → List D → Prop} (h : spClosP okU ds P) : bodySp [.rd] 6 (wuseful_names spIsName) ds P := by
  obtain ⟨R, rfl, hR, hP⟩ := h
  refine ⟨by decide, R.length + 2, ?_⟩
  refine grow_loop (ok := okU) (s0 := .fz (.tup (rulesD R))) hR (fun x2 x3 x4 x5 K Q hQ => ⟨_, _, rfl, rfl, hQ⟩) condPU R.length [] _ _ _ List.nodup_nil (by simp) useful_fix fun x2 x3 x4 x5 => ?_
  rw [← srtC_eq] at hP
  exact Or.inr ⟨_, asStrs_chs _, hP⟩
end K49
namespace K49
open PySem PySem.Spec PyProof.Rows L2 VS K49M

/-! ### heads -/
def hstep (K : List Nat) (r : Rule) : List Nat := if decide (r.1 ∈ K) = true then K else K ++ [r.1]
def heads (R : List Rule) : List Nat := R.foldl hstep []
def spNames : DSp := fun ds P => ∃ R, ds = [.tup (rulesD R)] ∧ okRs R ∧ P (.tmp (.lst (chs (heads R)))) []
theorem hstep_len (K : List Nat) (r : Rule) : (hstep K r).length ≤ K.length + 1 := by
  unfold hstep
  split <;> simp
theorem names_loop {s0 : Sl} {P : WEnds} : ∀ (S : List Rule) (K : List Nat) (x2 x3 : Sl), K.length + S.length ≤ 100000 → (∀ x2 x3, P.nx [s0, .own (.lst (chs (S.foldl hstep K))), x2, x3]) →
    wLoop (wgT 2 (wgCons (wgN 2) (wgCons (wgN 3) wgNil))) (wIfS (wTest (wBin notinD (wVar 2) (wVar 1))) (wDrop (wMut 1 appendD (wCons (wVar 2) wNil))) wNx) P (S.map rlD) [s0, .own (.lst (chs K)), x2, x3]
  | [], K, x2, x3, _, h => h x2 x3
  | r :: S, K, x2, x3, hl, h => by
    simp only [List.length_cons] at hl
    have ih := fun K' (q : K'.length ≤ K.length + 1) h => names_loop (s0 := s0) (P := P) S K' (.fz (chD r.1)) (.fz (.str r.2)) (by omega) h
    refine ⟨rfl, rfl, flat_chs 59 K, fun q => ?_, fun q => ?_⟩
    · rw [any_ch] at q
      have e : hstep K r = K ++ [r.1] := by
        unfold hstep
        rw [if_neg (by simpa using q)]
      rw [List.foldl_cons, e] at h
      refine ⟨trivial, by rw [chs_len]; omega, ?_⟩
      have := ih (K ++ [r.1]) (by simp) h
      rw [← chs_snoc] at this
      exact this
    · rw [any_ch] at q
      have e : hstep K r = K := by
        unfold hstep
        rw [if_pos (by simpa using q)]
      rw [List.foldl_cons, e] at h
      exact ih K (by omega) h
theorem v_names {ds : List D} {P : T → List D → Prop} (h : spNames ds P) : bodySp [.rd] 4 wnames_of ds P := by
  obtain ⟨R, rfl, hR, hP⟩ := h
  have hl := hR.1
  refine ⟨by decide, _, _, rfl, rfl, ?_⟩
  exact names_loop R [] _ _ (by simp; omega) fun x2 x3 => hP

/-! ### what is reached, the program's way -/
def ddl (acc : List Nat) : List Nat → List Nat
  | [] => acc
  | c :: t => ddl (if decide (c ∈ acc) = true then acc else acc ++ [c]) t
theorem insD_ch (acc : List Nat) (c : Nat) : insD (chD c) (chs acc) = chs (if decide (c ∈ acc) = true then acc else acc ++ [c]) := by
  unfold insD
  rw [any_ch]
  split
  · rfl
  · exact chs_snoc acc c
theorem insAll_ch : ∀ (t acc : List Nat), insAll (chs acc) (chs t) = chs (ddl acc t)
  | [], acc => rfl
  | c :: t, acc => by
    show insAll (insD (chD c) (chs acc)) (chs t) = chs (ddl (if decide (c ∈ acc) = true then acc else acc ++ [c]) t)
    rw [insD_ch]
    exact insAll_ch t _
theorem mem_ddl {c : Nat} : ∀ {t acc : List Nat}, c ∈ ddl acc t ↔ c ∈ acc ∨ c ∈ t
  | [], acc => by simp [ddl]
  | a :: t, acc => by
    unfold ddl
    rw [mem_ddl]
    split
    · rename_i h
      have h := of_decide_eq_true h
      constructor
      · rintro (m | m)
        · exact .inl m
        · exact .inr (List.mem_cons_of_mem _ m)
      · rintro (m | m)
        · exact .inl m
        · rcases List.mem_cons.mp m with rfl | m
          · exact .inl h
          · exact .inr m
    · simp only [List.mem_append, List.mem_cons, List.not_mem_nil, or_false]
      exact or_assoc
theorem ddl_nodup : ∀ {t acc : List Nat}, acc.Nodup → (ddl acc t).Nodup
  | [], acc, h => h
  | a :: t, acc, h => by
    unfold ddl
    split
    · exact ddl_nodup h
    · rename_i q
      refine ddl_nodup ?_
      rw [List.nodup_append]
      exact ⟨h, List.pairwise_singleton _ _, fun x m b m' e => by
        simp at m'
        subst m'
        subst e
        exact q (decide_eq_true m)⟩
theorem ddl_len : ∀ (t acc : List Nat), (ddl acc t).length ≤ acc.length + t.length
  | [], acc => by simp [ddl]
  | a :: t, acc => by
    unfold ddl
    have := ddl_len t (if decide (a ∈ acc) = true then acc else acc ++ [a])
    have l : (if decide (a ∈ acc) = true then acc else acc ++ [a]).length ≤ acc.length + 1 := by split <;> simp
    simp only [List.length_cons]
    omega
def pnew (K t : List Nat) : List Nat := (srtC (ddl [] t)).filter fun c => isNm c && !decide (c ∈ K)
def pstep (x : Nat) (K : List Nat) (r : Rule) : List Nat := if decide (r.1 = x) = true then K ++ pnew K r.2 else K
theorem mem_pnew {K t : List Nat} {c : Nat} : c ∈ pnew K t ↔ c ∈ t ∧ isNm c = true ∧ c ∉ K := by
  unfold pnew
  rw [List.mem_filter, mem_srtC, mem_ddl]
  simp
theorem pnew_nodup {K t : List Nat} : (pnew K t).Nodup := (List.Perm.nodup_iff (srtC_perm _)).mpr (ddl_nodup List.nodup_nil) |>.filter _
theorem pnew_len {K t : List Nat} : (pnew K t).length ≤ t.length := by
  refine Nat.le_trans (List.length_filter_le _ _) ?_
  rw [(srtC_perm _).length_eq]
  have := ddl_len t []
  simpa using this
structure PInv (R : List Rule) (s : Nat) (K : List Nat) : Prop where
  nd : K.Nodup
  up : ∀ c ∈ K, isNm c = true
  so : ∀ c ∈ K, Rch R s c
theorem PInv.len {R : List Rule} {s : Nat} {K : List Nat} (h : PInv R s K) : K.length ≤ 26 := by
  have := nodup_le h.nd (m := (List.range 26).map (· + 65)) fun c m => by
    have u := h.up c m
    unfold isNm at u
    simp only [Bool.and_eq_true, decide_eq_true_eq] at u
    simp only [List.mem_map, List.mem_range]
    exact ⟨c - 65, by omega, by omega⟩
  simpa using this
theorem PInv.step {R : List Rule} {s x : Nat} {K : List Nat} {r : Rule} (h : PInv R s K) (hr : r ∈ R) (hx : x ∈ K) : PInv R s (pstep x K r) := by
  unfold pstep
  split
  · rename_i q
    have q := of_decide_eq_true q
    refine ⟨?_, fun c m => ?_, fun c m => ?_⟩
    · rw [List.nodup_append]
      exact ⟨h.nd, pnew_nodup, fun a m b m' e => (mem_pnew.mp m').2.2 (e ▸ m)⟩
    · rcases List.mem_append.mp m with m | m
      · exact h.up c m
      · exact (mem_pnew.mp m).2.1
    · rcases List.mem_append.mp m with m | m
      · exact h.so c m
      · have z := mem_pnew.mp m
        exact .step r hr (by rw [q]; exact h.so x hx) c z.1 z.2.1
  · exact h
theorem pstep_pre (x : Nat) (K : List Nat) (r : Rule) : ∃ E, pstep x K r = K ++ E := by
  unfold pstep
  split
  · exact ⟨_, rfl⟩
  · exact ⟨[], by simp⟩
theorem pfold_pre (x : Nat) : ∀ (S : List Rule) (K : List Nat), ∃ E, S.foldl (pstep x) K = K ++ E
  | [], K => ⟨[], by simp⟩
  | r :: S, K => by
    obtain ⟨E, e⟩ := pstep_pre x K r
    obtain ⟨E', e'⟩ := pfold_pre x S (pstep x K r)
    exact ⟨E ++ E', by rw [List.foldl_cons, e', e, List.append_assoc]⟩
theorem pfold_inv {R : List Rule} {s x : Nat} : ∀ (S : List Rule) (K : List Nat), (∀ r ∈ S, r ∈ R) → x ∈ K → PInv R s K → PInv R s (S.foldl (pstep x) K)
  | [], K, _, _, h => h
  | r :: S, K, hs, hx, h => by
    obtain ⟨E, e⟩ := pstep_pre x K r
    exact pfold_inv S _ (fun r' m => hs r' (List.mem_cons_of_mem _ m)) (by rw [e]; exact List.mem_append_left _ hx) (h.step (hs r List.mem_cons_self) hx)
theorem pfold_done {x : Nat} : ∀ (S : List Rule) (K : List Nat) (r : Rule), r ∈ S → r.1 = x → ∀ c ∈ r.2, isNm c = true → c ∈ S.foldl (pstep x) K
  | [], K, r, m, _, _, _, _ => by simp at m
  | r' :: S, K, r, m, hx, c, mc, n => by
    rw [List.foldl_cons]
    rcases List.mem_cons.mp m with rfl | m
    · obtain ⟨E, e⟩ := pfold_pre x S (pstep x K r)
      rw [e]
      refine List.mem_append_left _ ?_
      unfold pstep
      rw [if_pos (decide_eq_true hx)]
      by_cases k : c ∈ K
      · exact List.mem_append_left _ k
      · exact List.mem_append_right _ (mem_pnew.mpr ⟨mc, n, k⟩)
    · exact pfold_done S _ r m hx c mc n
/-- the names, in their order -/
def abc : List Nat := [65, 66, 67, 68, 69, 70, 71, 72, 73, 74, 75, 76, 77, 78, 79, 80, 81, 82, 83, 84, 85, 86, 87, 88, 89, 90]
theorem mem_abc {c : Nat} : c ∈ abc ↔ isNm c = true := by
  unfold isNm abc
  simp only [Bool.and_eq_true, decide_eq_true_eq, List.mem_cons, List.not_mem_nil, or_false]
  omega
def rl (R : List Rule) (s : Nat) : List Nat := srtC (abc.filter fun c => decide (c ∈ ritr srtC R R.length [s]))
theorem rch_up {R : List Rule} {s c : Nat} (hs : isNm s = true) (h : Rch R s c) : isNm c = true := by
  induction h with
  | start => exact hs
  | step r m _ c mc n _ => exact n
theorem mem_rl {R : List Rule} {s c : Nat} (hs : s ∈ R.map (·.1)) (us : isNm s = true) : c ∈ rl R s ↔ Rch R s c := by
  unfold rl
  rw [mem_srtC, List.mem_filter, decide_eq_true_eq, mem_ritr (fun t c => mem_srtC) hs, mem_abc]
  exact ⟨fun h => h.2, fun h => ⟨rch_up us h, h⟩⟩
theorem rl_eq {R : List Rule} {s : Nat} {K : List Nat} (hs : s ∈ R.map (·.1)) (us : isNm s = true) (h : PInv R s K) (ms : s ∈ K) (cl : Closed R K) : srtC K = rl R s := by
  unfold rl
  refine srtC_congr (perm_of h.nd ((by decide : abc.Nodup).filter _) fun c => ?_)
  rw [List.mem_filter, decide_eq_true_eq, mem_ritr (fun t c => mem_srtC) hs, mem_abc]
  exact ⟨fun m => ⟨h.up c m, h.so c m⟩, fun m => Rch.of_closed ms cl m.2⟩
end K49
namespace K49
open PySem PySem.Spec PyProof.Rows L2 VS K49M

theorem chs_app (K J : List Nat) : chs K ++ chs J = chs (K ++ J) := by simp [chs]
theorem chs_at {K : List Nat} {j : Nat} {x : Nat} (h : K[j]? = some x) : atI (chs K) (j : Int) = some (chD x) := by
  refine atI_nat ?_
  simp [chs, h]
def reRho (s0 : Sl) (K : List Nat) (j : Int) (x3 x4 x5 x6 : Sl) : Rho := [s0, .own (.lst (chs K)), .fz (.int j), x3, x4, x5, x6]
def wReBody : WS := wIfS (wTest (wBin eqD (wVar 3) (wBin ixD (wVar 1) (wVar 2)))) (wDrop (wMut 1 extendD (wCons (wLc (wiSeq (wSortedSc (wiSeq (wVar 4)) (wgN 6) wYes (wVar 6) [6])) (wgN 5) (wAnd (wTest (wCall [.rd] spIsName (wCons (wVar 5) wNil))) (wTest (wBin notinD (wVar 5) (wVar 1)))) (wVar 5) [5]) wNil))) wNx
theorem re_loop {s0 : Sl} {j x : Nat} {P : WEnds} : ∀ (S : List Rule) (K : List Nat) (x3 x4 x5 x6 : Sl), (∀ r ∈ S, okR r) → K.length + 20 * S.length ≤ 100000 → K[j]? = some x →
    (∀ x3 x4 x5 x6, P.nx (reRho s0 (S.foldl (pstep x) K) j x3 x4 x5 x6)) → wLoop wgNT wReBody P (S.map rlD) (reRho s0 K j x3 x4 x5 x6)
  | [], K, x3, x4, x5, x6, _, _, _, h => h x3 x4 x5 x6
  | r :: S, K, x3, x4, x5, x6, hr, hl, hx, h => by
    simp only [List.length_cons] at hl
    have r0 := hr r List.mem_cons_self
    have ih := fun K' x5 x6 (q : K'.length ≤ K.length + 20) (hx' : K'[j]? = some x) h => re_loop (s0 := s0) (P := P) S K' (.fz (chD r.1)) (.fz (.str r.2)) x5 x6 (fun r' m => hr r' (List.mem_cons_of_mem _ m)) (by omega) hx' h
    refine ⟨rfl, _, chs_at hx, flat_str _ _, flat_str _ _, fun q => ?_, fun q => ?_⟩
    · have q1 : r.1 = x := of_decide_eq_true ((eqb_ch r.1 x).symm.trans q)
      have e : pstep x K r = K ++ pnew K r.2 := by
        unfold pstep
        rw [if_pos (decide_eq_true q1)]
      rw [List.foldl_cons, e] at h
      have e1 : asStrs (insAll [] ((chs r.2).filterMap (sg fun c => some (chD c)))) = some ((ddl [] r.2).map fun c => [c]) := by
        rw [fm_sg, fm_some]
        exact (congrArg asStrs (insAll_ch r.2 [])).trans (asStrs_chs _)
      have e2 : (chs (srtC (ddl [] r.2))).filterMap (sg fun c => if (isNm c && !decide (c ∈ K)) = true then some (chD c) else none) = chs (pnew K r.2) := by
        rw [fm_sg, fm_if]
        rfl
      have hlen : (pnew K r.2).length ≤ 20 := Nat.le_trans pnew_len r0.1
      have hx2 : (K ++ pnew K r.2)[j]? = some x := by
        rw [List.getElem?_append_left (List.getElem?_eq_some_iff.mp hx).1]
        exact hx
      refine ⟨trivial, _, _, rfl, items_str _, by rw [chs_len]; have := r0.1; omega, scomp_pure (sg fun c => some (chD c)) _ _ (fun d m C hC => ?_) ?_⟩
      · obtain ⟨c, _, rfl⟩ := of_chs m
        exact br_t rfl ⟨_, rfl, rfl, hC⟩
      · refine Or.inr ⟨_, e1, ?_⟩
        rw [srtC_eq]
        refine ⟨_, _, rfl, rfl, by rw [chs_len, (srtC_perm _).length_eq]; have := ddl_len r.2 []; have := r0.1; simp at *; omega, comp_pure (sg fun c => if (isNm c && !decide (c ∈ K)) = true then some (chD c) else none) _ _ (fun d m C hC => ?_) ?_⟩
        · obtain ⟨c, _, rfl⟩ := of_chs m
          have hC2 : C (if (isNm c && !decide (c ∈ K)) = true then some (chD c) else none) _ := hC
          refine ⟨_, rfl, c, rfl, fun z => ⟨rfl, flat_chs 59 K, ?_⟩, fun z => br_f rfl ?_⟩
          · rw [any_ch]
            rw [z, Bool.true_and] at hC2
            refine ⟨fun z => ?_, fun z => ?_⟩
            · rw [if_pos z] at hC2
              exact hC2
            · rw [if_neg (by rw [z]; exact Bool.false_ne_true)] at hC2
              exact hC2
          · rw [z, Bool.false_and, if_neg Bool.false_ne_true] at hC2
            exact hC2
        · have fin : ∀ x5 x6, wLoop wgNT wReBody P (S.map rlD) [s0, .own (.lst (chs K ++ (chs (srtC (ddl [] r.2))).filterMap (sg fun c => if (isNm c && !decide (c ∈ K)) = true then some (chD c) else none))), .fz (.int j), .fz (chD r.1), .fz (.str r.2), x5, x6] := fun x5 x6 => by
            rw [e2, chs_app]
            exact ih _ x5 x6 (by simp; omega) hx2 h
          have lim : (chs K).length + ((chs (srtC (ddl [] r.2))).filterMap (sg fun c => if (isNm c && !decide (c ∈ K)) = true then some (chD c) else none)).length ≤ 16777216 := by
            rw [e2, chs_len, chs_len]
            omega
          exact ⟨lim, fin _ _⟩
    · have q1 : ¬ r.1 = x := of_decide_eq_false ((eqb_ch r.1 x).symm.trans q)
      have e : pstep x K r = K := by
        unfold pstep
        rw [if_neg (by simpa using q1)]
      rw [List.foldl_cons, e] at h
      exact ih K x5 x6 (by omega) hx h
end K49
namespace K49
open PySem PySem.Spec PyProof.Rows L2 VS K49M

def spReachP : DSp := fun ds P => ∃ r R, ds = [.tup (rulesD (r :: R))] ∧ okRs (r :: R) ∧ P (.tmp (.lst (chs (rl (r :: R) r.1)))) []
theorem okR_up {r : Rule} (h : okR r) : isNm r.1 = true := by
  have := h.2.1
  unfold isNm
  simp [this]
theorem re_while {R : List Rule} {s0 : Sl} {s : Nat} {P : WEnds} (hR : okRs R) (Hi : ∀ (K : List Nat) (j : Int) (x3 x4 x5 x6 : Sl) (Q : List D → Back → Rho → Prop), Q (rulesD R) none (reRho s0 K j x3 x4 x5 x6) → wiSeq (wVar 0) (reRho s0 K j x3 x4 x5 x6) Q)
    (fin : ∀ (K : List Nat) (j : Int) x3 x4 x5 x6, PInv R s K → s ∈ K → Closed R K → P.nx (reRho s0 K j x3 x4 x5 x6)) : ∀ (n j : Nat) (K : List Nat) (x3 x4 x5 x6 : Sl), PInv R s K → s ∈ K → j ≤ K.length → 27 ≤ j + n →
    (∀ (i : Nat) (x : Nat), i < j → K[i]? = some x → ∀ r ∈ R, r.1 = x → ∀ c ∈ r.2, isNm c = true → c ∈ K) →
    wLoopW (wTest (wBin ltD (wVar 2) (wCB lenD (wCons (wVar 1) wNil)))) (wSeq (wFor (wiSeq (wVar 0)) wgNT wReBody) (wAug (fun i j => i + j) 2 (wC (.int 1)))) P (n + 1) (reRho s0 K j x3 x4 x5 x6) := by
  intro n
  induction n with
  | zero =>
    intro j K x3 x4 x5 x6 pi ms le tot done
    have := pi.len
    omega
  | succ n ih =>
    intro j K x3 x4 x5 x6 pi ms le tot done
    have kl := pi.len
    have hl := hR.1
    refine ⟨fun q => ?_, fun q => ?_⟩
    · have lt : (j : Int) < ((chs K).length : Nat) := of_decide_eq_true q
      rw [chs_len] at lt
      have hj : j < K.length := by omega
      have hx : K[j]? = some K[j] := List.getElem?_eq_getElem hj
      refine Hi K j x3 x4 x5 x6 _ (re_loop R K x3 x4 x5 x6 hR.2 (by omega) hx fun x3 x4 x5 x6 => ⟨⟨_, rfl⟩, ?_⟩)
      obtain ⟨E, e⟩ := pfold_pre K[j] R K
      have pi2 := pfold_inv (R := R) R K (fun _ m => m) (List.getElem_mem hj) pi
      refine ih (j + 1) (R.foldl (pstep K[j]) K) x3 x4 x5 x6 pi2 (by rw [e]; exact List.mem_append_left _ ms) (by rw [e]; simp; omega) (by omega) fun i x li hi r hr hrx c mc nc => ?_
      by_cases ei : i = j
      · subst ei
        have : x = K[i] := by
          rw [e, List.getElem?_append_left hj, hx] at hi
          exact (Option.some.inj hi).symm
        exact pfold_done R K r hr (hrx.trans this) c mc nc
      · have li2 : i < j := by omega
        have hi2 : K[i]? = some x := by
          rw [e, List.getElem?_append_left (by omega)] at hi
          exact hi
        rw [e]
        exact List.mem_append_left _ (done i x li2 hi2 r hr hrx c mc nc)
    · have ge : ¬ (j : Int) < ((chs K).length : Nat) := of_decide_eq_false q
      rw [chs_len] at ge
      have hj : j = K.length := by omega
      refine fin K j x3 x4 x5 x6 pi ms fun r hr mk c mc nc => ?_
      obtain ⟨i, hi, ei⟩ := List.getElem_of_mem mk
      exact done i r.1 (by omega) (by rw [List.getElem?_eq_getElem hi, ei]) r hr rfl c mc nc
theorem v_preached {ds : List D} {P : T → List D → Prop} (h : spReachP ds P) : bodySp [.rd] 7 (wreached_names spIsName) ds P := by
  obtain ⟨r, R, rfl, hR, hP⟩ := h
  have r0 := hR.2 r List.mem_cons_self
  have up := okR_up r0
  refine ⟨rlD r, atI_nat (j := 0) rfl, chD r.1, atI_nat (j := 0) rfl, (by decide : (1 : Nat) ≤ 16777216), 28, ?_⟩
  refine re_while (R := r :: R) (s := r.1) (s0 := .fz (.tup (rulesD (r :: R)))) hR (fun K j x3 x4 x5 x6 Q hQ => ⟨_, _, rfl, rfl, hQ⟩) (fun K j x3 x4 x5 x6 pi ms cl => ?_) 27 0 [r.1] _ _ _ _ ⟨List.pairwise_singleton _ _, fun c m => by simp at m; subst m; exact up, fun c m => by simp at m; subst m; exact .start⟩ (by simp) (by simp) (by omega) fun i x li => by omega
  have e := rl_eq (by simp) up pi ms cl
  rw [← e, ← srtC_eq] at hP
  exact Or.inr ⟨_, asStrs_chs _, hP⟩

/-! ### the law's -/
def lrRho (s0 s1 : Sl) (K : List Nat) (x3 x4 x5 x6 : Sl) : Rho := [s0, s1, .own (.lst (chs K)), x3, x4, x5, x6]
def wLrBody : WS := wIfS (wTest (wBin inD (wVar 4) (wVar 2))) (wAsg 2 (wBin addD (wVar 2) (wLc (wiSeq (wCB sortedD (wCons (wCB listD (wCons (wVar 5) wNil)) wNil))) (wgN 6) (wAnd (wTest (wMeth "str" (strBlD fun l => Txt.isupper ⟨l.toArray⟩) (wVar 6) wNil)) (wTest (wBin notinD (wVar 6) (wVar 2)))) (wVar 6) [6]))) wNx
theorem rstep_len {K : List Nat} {r : Rule} (h : okR r) : (rstep srtC K r).length ≤ K.length + 20 := by
  unfold rstep
  split
  · have : (news K (srtC r.2)).length ≤ 20 := by
      unfold news
      refine Nat.le_trans (List.length_filter_le _ _) ?_
      rw [(srtC_perm _).length_eq]
      exact h.1
    simp only [List.length_append]
    omega
  · omega
theorem rfold_len : ∀ {S : List Rule} {K : List Nat}, (∀ r ∈ S, okR r) → (S.foldl (rstep srtC) K).length ≤ K.length + 20 * S.length
  | [], K, _ => by simp
  | r :: S, K, h => by
    have h1 := rfold_len (S := S) (K := rstep srtC K r) fun r' m => h r' (List.mem_cons_of_mem _ m)
    have h2 := rstep_len (K := K) (h r List.mem_cons_self)
    simp only [List.foldl_cons, List.length_cons]
    omega
theorem lr_loop {s0 s1 : Sl} {P : WEnds} {x3 : Sl} : ∀ (S : List Rule) (K : List Nat) (x4 x5 x6 : Sl), (∀ r ∈ S, okR r) → K.length + 20 * S.length ≤ 1000000 →
    (∀ x4 x5 x6, P.nx (lrRho s0 s1 (S.foldl (rstep srtC) K) x3 x4 x5 x6)) → wLoop (wgT 2 (wgCons (wgN 4) (wgCons (wgN 5) wgNil))) wLrBody P (S.map rlD) (lrRho s0 s1 K x3 x4 x5 x6)
  | [], K, x4, x5, x6, _, _, h => h x4 x5 x6
  | r :: S, K, x4, x5, x6, hr, hl, h => by
    simp only [List.length_cons] at hl
    have r0 := hr r List.mem_cons_self
    have ih := fun K' x6 (q : K'.length ≤ K.length + 20) h => lr_loop (s0 := s0) (s1 := s1) (x3 := x3) (P := P) S K' (.fz (chD r.1)) (.fz (.str r.2)) x6 (fun r' m => hr r' (List.mem_cons_of_mem _ m)) (by omega) h
    refine ⟨rfl, flat_str _ _, flat_chs 59 K, fun q => ?_, fun q => ?_⟩
    · rw [any_ch] at q
      have e : rstep srtC K r = K ++ news K (srtC r.2) := by
        unfold rstep
        rw [if_pos q]
      have sl := rstep_len (K := K) r0
      rw [e] at sl
      rw [List.foldl_cons, e] at h
      have e2 : (chs (srtC r.2)).filterMap (sg fun c => if (isNm c && !decide (c ∈ K)) = true then some (chD c) else none) = chs (news K (srtC r.2)) := by
        rw [fm_sg, fm_if]
        rfl
      have r1 := r0.1
      refine ⟨by omega, Or.inr ⟨_, asStrs_chs r.2, ?_⟩⟩
      rw [srtC_eq]
      refine ⟨_, _, rfl, rfl, by rw [chs_len, (srtC_perm _).length_eq]; omega, comp_pure (sg fun c => if (isNm c && !decide (c ∈ K)) = true then some (chD c) else none) _ _ (fun d m C hC => ?_) ?_⟩
      · obtain ⟨c, mc, rfl⟩ := of_chs m
        have hC2 : C (if (isNm c && !decide (c ∈ K)) = true then some (chD c) else none) _ := hC
        have up := upper_sign (r0.2.2 c (mem_srtC.mp mc))
        refine ⟨rfl, fun z => ⟨rfl, flat_chs 59 K, ?_⟩, fun z => br_f rfl ?_⟩
        · rw [any_ch]
          have z' : isNm c = true := up.symm.trans z
          rw [z', Bool.true_and] at hC2
          refine ⟨fun z => ?_, fun z => ?_⟩
          · rw [if_pos z] at hC2
            exact hC2
          · rw [if_neg (by rw [z]; exact Bool.false_ne_true)] at hC2
            exact hC2
        · have z' : isNm c = false := up.symm.trans z
          rw [z', Bool.false_and, if_neg Bool.false_ne_true] at hC2
          exact hC2
      · have fin : ∀ x6, wLoop (wgT 2 (wgCons (wgN 4) (wgCons (wgN 5) wgNil))) wLrBody P (S.map rlD) [s0, s1, .own (.lst (chs K ++ (chs (srtC r.2)).filterMap (sg fun c => if (isNm c && !decide (c ∈ K)) = true then some (chD c) else none))), x3, .fz (chD r.1), .fz (.str r.2), x6] := fun x6 => by
          rw [e2, chs_app]
          exact ih _ x6 sl h
        have lim : (chs K).length + ((chs (srtC r.2)).filterMap (sg fun c => if (isNm c && !decide (c ∈ K)) = true then some (chD c) else none)).length ≤ 16777216 := by
          rw [e2, chs_len, chs_len]
          simp only [List.length_append] at sl
          omega
        exact ⟨lim, fin _⟩
    · rw [any_ch] at q
      have e : rstep srtC K r = K := by
        unfold rstep
        rw [if_neg (by rw [q]; exact Bool.false_ne_true)]
      rw [List.foldl_cons, e] at h
      exact ih K x6 (by omega) h
theorem lr_turns {R : List Rule} {s0 s1 : Sl} {P : WEnds} (hR : okRs R) (Hi : ∀ (K : List Nat) (x3 x4 x5 x6 : Sl) (Q : List D → Back → Rho → Prop), Q (rulesD R) none (lrRho s0 s1 K x3 x4 x5 x6) → wiSeq (wVar 0) (lrRho s0 s1 K x3 x4 x5 x6) Q) :
    ∀ (ts : List D) (K : List Nat) (x3 x4 x5 x6 : Sl), K.length + 2000 * ts.length ≤ 900000 → (∀ x3 x4 x5 x6, P.nx (lrRho s0 s1 (ritr srtC R ts.length K) x3 x4 x5 x6)) →
    wLoop (wgN 3) (wFor (wiSeq (wVar 0)) (wgT 2 (wgCons (wgN 4) (wgCons (wgN 5) wgNil))) wLrBody) P ts (lrRho s0 s1 K x3 x4 x5 x6)
  | [], K, x3, x4, x5, x6, _, h => h x3 x4 x5 x6
  | t :: ts, K, x3, x4, x5, x6, hl, h => by
    simp only [List.length_cons] at hl
    have h1 := hR.1
    have h2 := rfold_len (S := R) (K := K) hR.2
    refine Hi K (.fz t) x4 x5 x6 _ (lr_loop R K x4 x5 x6 hR.2 (by omega) fun x4 x5 x6 => ?_)
    exact lr_turns hR Hi ts (rpass srtC R K) (.fz t) x4 x5 x6 (by show (R.foldl (rstep srtC) K).length + _ ≤ _; omega) h
def spReachL : DSp := fun ds P => ∃ R s, ds = [.lst (rulesD R), chD s] ∧ okRs R ∧ P (.tmp (.lst (chs (rl R s)))) []
theorem v_lreached {ds : List D} {P : T → List D → Prop} (h : spReachL ds P) : bodySp [.rd, .fz] 7 w_law_reached ds P := by
  obtain ⟨R, s, rfl, hR, hP⟩ := h
  have hl := hR.1
  refine ⟨(by decide : (1 : Nat) ≤ 16777216), _, rfl, ⟨by rw [rulesD_len]; omega, by rw [rulesD_len]; omega⟩, ?_⟩
  refine lr_turns (s0 := .lent (.lst (rulesD R))) (s1 := .fz (chD s)) hR (fun K x3 x4 x5 x6 Q hQ => ⟨_, _, rfl, rfl, hQ⟩) _ [s] _ _ _ _ (by rw [rng_len, rulesD_len]; simp; omega) fun x3 x4 x5 x6 => ?_
  rw [rng_len, rulesD_len, Int.toNat_natCast]
  generalize hK : ritr srtC R R.length [s] = K
  have e2 : (chs abc).filterMap (sg fun c => if decide (c ∈ K) = true then some (chD c) else none) = chs (abc.filter fun c => decide (c ∈ K)) := by
    rw [fm_sg, fm_if]
  have e3 : asStrs ((chs abc).filterMap (sg fun c => if decide (c ∈ K) = true then some (chD c) else none)) = some ((abc.filter fun c => decide (c ∈ K)).map fun c => [c]) := by
    rw [e2]
    exact asStrs_chs _
  refine ⟨by decide, _, _, rfl, (rfl : itemsD (.lst (chs abc)) = _), by decide, comp_pure (sg fun c => if decide (c ∈ K) = true then some (chD c) else none) _ _ (fun d m C hC => ?_) ?_⟩
  · obtain ⟨c, mc, rfl⟩ := of_chs m
    have hC2 : C (if decide (c ∈ K) = true then some (chD c) else none) _ := hC
    refine ⟨flat_str _ _, flat_chs 59 K, ?_⟩
    rw [any_ch]
    refine ⟨fun z => ?_, fun z => ?_⟩
    · rw [if_pos z] at hC2
      exact hC2
    · rw [if_neg (by rw [z]; exact Bool.false_ne_true)] at hC2
      exact hC2
  · unfold rl at hP
    rw [hK, ← srtC_eq] at hP
    exact Or.inr ⟨_, e3, hP⟩
end K49
namespace K49
open PySem PySem.Spec PyProof.Rows L2 VS K49M

/-! ### rules kept: mathematics -/
def keepW (U : List Nat) (r : Rule) : Bool := (r.1 :: r.2).all fun c => okU c || decide (c ∈ U)
def whole (R : List Rule) : List Rule := R.filter (keepW (useful okU R))
def isS (s : Nat) (r : Rule) : Bool := decide (r.1 = s)
def front (s : Nat) (W : List Rule) : List Rule := W.filter (isS s) ++ W.filter fun r => !isS s r
/-- the program's -/
def trimP (R : List Rule) (s : Nat) : List Rule := if whole R = [] ∨ s ∉ useful okU R then [] else (front s (whole R)).filter fun r => decide (r.1 ∈ rl (front s (whole R)) s)
/-- the law's -/
def trimL (R : List Rule) (s : Nat) : List Rule := if s ∉ useful okU R then [] else (whole R).filter (isS s) ++ (whole R).filter fun r => !isS s r && decide (r.1 ∈ rl (whole R) s)
theorem keepW_iff {U : List Nat} {r : Rule} : keepW U r = true ↔ ∀ c ∈ r.1 :: r.2, isNm c = true → c ∈ U := by
  unfold keepW
  rw [List.all_eq_true]
  constructor
  · intro h c m n
    have := h c m
    unfold okU at this
    rw [n] at this
    simpa using this
  · intro h c m
    unfold okU
    cases n : isNm c with
    | true => simpa using h c m n
    | false => rfl
theorem okU_iff {c : Nat} : okU c = false ↔ isNm c = true := by
  unfold okU
  cases isNm c <;> simp
theorem okRs_sub {R R' : List Rule} (h : okRs R) (s : R'.length ≤ R.length) (m : ∀ r ∈ R', r ∈ R) : okRs R' := ⟨Nat.le_trans s h.1, fun r x => h.2 r (m r x)⟩
theorem whole_sub {R : List Rule} : ∀ r ∈ whole R, r ∈ R := fun r m => (List.mem_filter.mp m).1
theorem whole_len {R : List Rule} : (whole R).length ≤ R.length := List.length_filter_le _ _
theorem mem_front {s : Nat} {W : List Rule} {r : Rule} : r ∈ front s W ↔ r ∈ W := by
  unfold front
  rw [List.mem_append, List.mem_filter, List.mem_filter]
  constructor
  · rintro (⟨m, _⟩ | ⟨m, _⟩) <;> exact m
  · intro m
    cases e : isS s r with
    | true => exact .inl ⟨m, rfl⟩
    | false => exact .inr ⟨m, rfl⟩
theorem front_len {s : Nat} : ∀ {W : List Rule}, (front s W).length = W.length
  | [] => rfl
  | r :: W => by
    have ih := front_len (s := s) (W := W)
    unfold front at *
    simp only [List.length_append, List.filter_cons] at *
    cases isS s r <;> simp <;> omega
/-- the start has a rule of use -/
theorem start_rule {R : List Rule} {s : Nat} (hR : okRs R) (h : s ∈ useful okU R) : ∃ r ∈ whole R, r.1 = s := by
  have d := mem_useful.mp h
  cases d with
  | mk r m hd =>
    refine ⟨r, List.mem_filter.mpr ⟨m, keepW_iff.mpr fun c mc n => ?_⟩, rfl⟩
    rcases List.mem_cons.mp mc with rfl | mc
    · exact h
    · exact mem_useful.mpr (hd c mc (okU_iff.mpr n))
theorem front_head {s : Nat} {W : List Rule} (h : ∃ r ∈ W, r.1 = s) : ∃ r T, front s W = r :: T ∧ r.1 = s := by
  obtain ⟨r, m, e⟩ := h
  unfold front
  cases q : W.filter (isS s) with
  | nil =>
    have : r ∈ W.filter (isS s) := List.mem_filter.mpr ⟨m, decide_eq_true e⟩
    rw [q] at this
    simp at this
  | cons a T =>
    have : a ∈ W.filter (isS s) := by rw [q]; simp
    exact ⟨a, _, rfl, of_decide_eq_true (List.mem_filter.mp this).2⟩
theorem rch_front {s c : Nat} {W : List Rule} : Rch (front s W) s c ↔ Rch W s c := ⟨Rch.mono fun r m => mem_front.mp m, Rch.mono fun r m => mem_front.mpr m⟩
theorem filter_id {α : Type} {p : α → Bool} {l : List α} (h : ∀ x ∈ l, p x = true) : l.filter p = l := List.filter_eq_self.mpr h
theorem trim_eq {R : List Rule} {s : Nat} (hR : okRs R) (us : isNm s = true) : trimP R s = trimL R s := by
  unfold trimP trimL
  by_cases h : s ∈ useful okU R
  · obtain ⟨r, m, e⟩ := start_rule hR h
    have ne : whole R ≠ [] := fun z => by rw [z] at m; simp at m
    rw [if_neg (by simp [ne, h]), if_neg (by simp [h])]
    have hs : s ∈ (whole R).map (·.1) := by rw [← e]; exact List.mem_map_of_mem m
    have hs2 : s ∈ (front s (whole R)).map (·.1) := by rw [← e]; exact List.mem_map_of_mem (mem_front.mpr m)
    have same : ∀ c, decide (c ∈ rl (front s (whole R)) s) = decide (c ∈ rl (whole R) s) := fun c => by
      rw [Bool.eq_iff_iff, decide_eq_true_eq, decide_eq_true_eq, mem_rl hs2 us, mem_rl hs us, rch_front]
    have e1 : (front s (whole R)).filter (fun r => decide (r.1 ∈ rl (front s (whole R)) s)) = (front s (whole R)).filter (fun r => decide (r.1 ∈ rl (whole R) s)) := List.filter_congr fun r _ => same r.1
    rw [e1]
    unfold front
    rw [List.filter_append, List.filter_filter, List.filter_filter]
    congr 1
    · refine List.filter_congr fun r m => ?_
      cases q : isS s r with
      | false => simp
      | true =>
        have : r.1 = s := of_decide_eq_true q
        rw [this]
        simp only [Bool.and_true, decide_eq_true_eq]
        exact (mem_rl hs us).mpr .start
    · refine List.filter_congr fun r m => ?_
      exact Bool.and_comm _ _
  · rw [if_pos (.inr h), if_pos h]
/-- trimmed rules stay as they are -/
theorem trim_idem {R : List Rule} {s : Nat} (hR : okRs R) (us : isNm s = true) (h : s ∈ useful okU R) : trimP (trimL R s) s = trimL R s := by
  obtain ⟨r0, m0, e0⟩ := start_rule hR h
  have hs : s ∈ (whole R).map (·.1) := by rw [← e0]; exact List.mem_map_of_mem m0
  have tl : trimL R s = (whole R).filter (isS s) ++ (whole R).filter fun r => !isS s r && decide (r.1 ∈ rl (whole R) s) := by
    unfold trimL
    rw [if_neg (by simp [h])]
  have mem : ∀ r, r ∈ trimL R s ↔ r ∈ whole R ∧ Rch (whole R) s r.1 := fun r => by
    rw [tl, List.mem_append, List.mem_filter, List.mem_filter, Bool.and_eq_true, decide_eq_true_eq, mem_rl hs us]
    constructor
    · rintro (⟨m, q⟩ | ⟨m, q, k⟩)
      · exact ⟨m, by rw [show r.1 = s from of_decide_eq_true q]; exact .start⟩
      · exact ⟨m, k⟩
    · rintro ⟨m, k⟩
      cases q : isS s r with
      | true => exact .inl ⟨m, rfl⟩
      | false => exact .inr ⟨m, rfl, k⟩
  have reach : ∀ c, Rch (whole R) s c → Rch (trimL R s) s c := fun c x => by
    induction x with
    | start => exact .start
    | step r m hx c mc n ih => exact .step r ((mem r).mpr ⟨m, hx⟩) ih c mc n
  have use : ∀ c, Der okU R c → Rch (whole R) s c → Der okU (trimL R s) c := fun c d => by
    induction d with
    | mk r m hd ih =>
      intro x
      have hw : r ∈ whole R := List.mem_filter.mpr ⟨m, keepW_iff.mpr fun c mc n => by
        rcases List.mem_cons.mp mc with rfl | mc
        · exact mem_useful.mpr (.mk r m hd)
        · exact mem_useful.mpr (hd c mc (okU_iff.mpr n))⟩
      exact .mk r ((mem r).mpr ⟨hw, x⟩) fun c mc n => ih c mc n (.step r hw x c mc (okU_iff.mp n))
  have useU : ∀ c, c ∈ useful okU R → Rch (whole R) s c → c ∈ useful okU (trimL R s) := fun c m x => mem_useful.mpr (use c (mem_useful.mp m) x)
  have ww : whole (trimL R s) = trimL R s := by
    unfold whole
    refine filter_id fun r m => keepW_iff.mpr fun c mc n => ?_
    obtain ⟨hw, x⟩ := (mem r).mp m
    have k := keepW_iff.mp (List.mem_filter.mp hw).2 c mc n
    refine useU c k ?_
    rcases List.mem_cons.mp mc with rfl | mc
    · exact x
    · exact .step r hw x c mc n
  have r0t : r0 ∈ trimL R s := (mem r0).mpr ⟨m0, by rw [e0]; exact .start⟩
  have ne : trimL R s ≠ [] := fun z => by rw [z] at r0t; simp at r0t
  have fr : front s (trimL R s) = trimL R s := by
    rw [tl]
    unfold front
    rw [List.filter_append, List.filter_append, List.filter_filter, List.filter_filter, List.filter_filter, List.filter_filter]
    have a1 : (whole R).filter (fun r => isS s r && isS s r) = (whole R).filter (isS s) := List.filter_congr fun r _ => Bool.and_self _
    have a2 : (whole R).filter (fun r => isS s r && (!isS s r && decide (r.1 ∈ rl (whole R) s))) = [] := List.filter_eq_nil_iff.mpr fun r _ q => by
      cases z : isS s r <;> simp [z] at q
    have a3 : (whole R).filter (fun r => !isS s r && isS s r) = [] := List.filter_eq_nil_iff.mpr fun r _ q => by
      cases z : isS s r <;> simp [z] at q
    have a4 : (whole R).filter (fun r => !isS s r && (!isS s r && decide (r.1 ∈ rl (whole R) s))) = (whole R).filter fun r => !isS s r && decide (r.1 ∈ rl (whole R) s) := List.filter_congr fun r _ => by
      cases isS s r <;> simp
    rw [a1, a2, a3, a4, List.append_nil, List.nil_append]
  have ht : s ∈ (trimL R s).map (·.1) := List.mem_map.mpr ⟨r0, r0t, e0⟩
  unfold trimP
  rw [ww, fr, if_neg (by simp only [ne, false_or, Classical.not_not]; exact useU s h .start)]
  refine filter_id fun r m => decide_eq_true ((mem_rl ht us).mpr (reach _ ((mem r).mp m).2))
end K49
namespace K49
open PySem PySem.Spec PyProof.Rows L2 VS K49M

def rg (h : Rule → Option D) : D → Option D
  | .tup [.str [n], .str t] => h (n, t)
  | _ => none
theorem fm_rg (h : Rule → Option D) (R : List Rule) : (rulesD R).filterMap (rg h) = R.filterMap h := by
  induction R with
  | nil => rfl
  | cons a l ih =>
    show (rlD a :: rulesD l).filterMap (rg h) = _
    rw [List.filterMap_cons, List.filterMap_cons, ih]
    rfl
theorem fm_rif (R : List Rule) (p : Rule → Bool) : R.filterMap (fun r => if p r = true then some (rlD r) else none) = rulesD (R.filter p) := by
  induction R with
  | nil => rfl
  | cons a l ih =>
    rw [List.filterMap_cons, List.filter_cons]
    cases h : p a with
    | true => simp [ih, rulesD]
    | false => simp [ih]
theorem of_rules {R : List Rule} {d : D} (m : d ∈ rulesD R) : ∃ r, r ∈ R ∧ d = rlD r := by
  simp only [rulesD, List.mem_map] at m
  obtain ⟨c, h, rfl⟩ := m
  exact ⟨c, h, rfl⟩
theorem fm_rules (R : List Rule) (p : Rule → Bool) : (rulesD R).filterMap (rg fun r => if p r = true then some (rlD r) else none) = rulesD (R.filter p) := by rw [fm_rg, fm_rif]
theorem rulesD_app (R S : List Rule) : rulesD R ++ rulesD S = rulesD (R ++ S) := by simp [rulesD]
theorem flat_rl (n : Nat) (r : Rule) : flat (n + 1) (rlD r) = true := by
  show ([chD r.1, D.str r.2].all (flat n)) = true
  simp [flat_str, chD]
/-- a comprehension over rules that keeps some -/
theorem rules_comp {wg : WG} {wt : WT} {we : WE} {vs : List Nat} {F : List D → Rho → Prop} {ρ0 : Rho} (R : List Rule) (p : Rule → Bool)
    (hs : ∀ r ∈ R, ∀ C : Option D → Rho → Prop, (p r = true → C (some (rlD r)) ρ0) → (p r = false → C none ρ0) → wg (rlD r) ρ0 fun ρ1 => wt ρ1 fun b ρ2 => br b (we ρ2 fun t ρ3 => cap t ρ3 fun e ρ4 => C (some e) (wipeR vs ρ4)) (C none (wipeR vs ρ2)))
    (h : F (rulesD (R.filter p)) ρ0) : wComp wg wt we vs F (rulesD R) [] ρ0 := by
  refine comp_pure (rg fun r => if p r = true then some (rlD r) else none) _ _ (fun d m C hC => ?_) ?_
  · obtain ⟨r, mr, rfl⟩ := of_rules m
    have hC2 : C (if p r = true then some (rlD r) else none) ρ0 := hC
    refine hs r mr C (fun z => ?_) (fun z => ?_)
    · rw [if_pos z] at hC2
      exact hC2
    · rw [if_neg (by rw [z]; exact Bool.false_ne_true)] at hC2
      exact hC2
  · rw [fm_rules]
    exact h
theorem ix0 (a b : D) : atI [a, b] 0 = some a := rfl
theorem ix1 (a b : D) : atI [a, b] 1 = some b := rfl
theorem any_srt (U : List Nat) (c : Nat) : ((chs (srtC U)).any fun z => eqb z (chD c)) = decide (c ∈ U) := by
  rw [any_ch, Bool.eq_iff_iff, decide_eq_true_eq, decide_eq_true_eq, mem_srtC]
theorem chs_cons (c : Nat) (t : List Nat) : itemsD (.str ([c] ++ t)) = some (chs (c :: t)) := rfl

def spTrimP : DSp := fun ds P => ∃ r R, ds = [.tup (rulesD (r :: R))] ∧ okRs (r :: R) ∧ P (.val (.tup (rulesD (trimP (r :: R) r.1)))) []
theorem front_ok {R : List Rule} {s : Nat} (hR : okRs R) : okRs (front s (whole R)) := okRs_sub hR (by rw [front_len]; exact whole_len) fun r m => whole_sub r (mem_front.mp m)
def tpRho (R : List Rule) (U : List D) (W : List Rule) (x3 x4 x5 x6 : Sl) : Rho := [.fz (.tup (rulesD R)), .own (.lst U), .fz (.tup (rulesD W)), x3, x4, x5, x6]
def wTpC : WS := wSeq (wAsg 4 (wCall [.rd] spReachP (wCons (wVar 2) wNil)))
          (wRet (wCB tupleD (wCons (wLc (wiSeq (wVar 2)) (wgN 5) (wTest (wBin inD (wBin ixD (wVar 5) (wC (.int 0))) (wVar 4))) (wVar 5) [5]) wNil)))
theorem tp_c {R F : List Rule} {U : List D} {r1 : Rule} {T : List Rule} {x3 x4 x5 x6 : Sl} {P : WEnds} (eF : F = r1 :: T) (fo : okRs F) (hP : ∀ x3 x4 x5 x6, P.rt (.val (.tup (rulesD (F.filter fun r => decide (r.1 ∈ rl F r1.1))))) (tpRho R U F x3 x4 x5 x6)) : wTpC P (tpRho R U F x3 x4 x5 x6) := by
  have hl2 := fo.1
  refine ⟨_, rfl, r1, T, by rw [eF], by rw [← eF]; exact fo, ?_⟩
  rw [← eF]
  generalize rl F r1.1 = L at hP ⊢
  refine ⟨_, _, rfl, rfl, by rw [rulesD_len]; omega, rules_comp F (fun r => decide (r.1 ∈ L)) (fun r mr C hT hF => ⟨chD r.1, ix0 _ _, flat_str _ _, flat_chs 59 L, fun q => hT ((any_ch L r.1).symm.trans q), fun q => hF ((any_ch L r.1).symm.trans q)⟩) ?_⟩
  exact hP _ _ _ _
def wTpB : WS := wSeq (wAsg 3 (wBin ixD (wBin ixD (wVar 0) (wC (.int 0))) (wC (.int 0))))
          (wSeq (wAsg 2 (wCB tupleD (wCons (wBin addD (wLc (wiSeq (wVar 2)) (wgN 5) (wTest (wBin eqD (wBin ixD (wVar 5) (wC (.int 0))) (wVar 3))) (wVar 5) [5]) (wLc (wiSeq (wVar 2)) (wgN 5) (wTest (wBin neD (wBin ixD (wVar 5) (wC (.int 0))) (wVar 3))) (wVar 5) [5])) wNil)))
          wTpC)
theorem tp_b {R W : List Rule} {U : List D} {r0 r1 : Rule} {s : Nat} {T : List Rule} {x3 x4 x5 x6 : Sl} {P : WEnds} (h0 : atI (rulesD R) 0 = some (rlD r0)) (hs : r0.1 = s) (hW : okRs W) (eF : front s W = r1 :: T) (es : r1.1 = s)
    (hP : ∀ x3 x4 x5 x6, P.rt (.val (.tup (rulesD ((front s W).filter fun r => decide (r.1 ∈ rl (front s W) s))))) (tpRho R U (front s W) x3 x4 x5 x6)) : wTpB P (tpRho R U W x3 x4 x5 x6) := by
  have hl2 := hW.1
  have fo : okRs (front s W) := okRs_sub hW (by rw [front_len]; exact Nat.le_refl _) fun r m => mem_front.mp m
  have efD : rulesD (W.filter (isS s)) ++ rulesD (W.filter fun r => !isS s r) = rulesD (front s W) := rulesD_app _ _
  have al := congrArg List.length efD
  rw [List.length_append, rulesD_len (front s W), front_len] at al
  refine ⟨rlD r0, h0, chD r0.1, ix0 _ _, ?_⟩
  rw [hs]
  refine ⟨_, _, rfl, rfl, by rw [rulesD_len]; omega, rules_comp W (isS s) (fun r mr C hT hF => ⟨chD r.1, ix0 _ _, flat_str _ _, flat_str _ _, fun q => hT ((eqb_ch _ _).symm.trans q), fun q => hF ((eqb_ch _ _).symm.trans q)⟩) ?_⟩
  refine ⟨_, _, rfl, rfl, by rw [rulesD_len]; omega, rules_comp W (fun r => !isS s r) (fun r mr C hT hF => ⟨chD r.1, ix0 _ _, flat_str _ _, flat_str _ _, fun q => hT ((congrArg not (eqb_ch _ _).symm).trans q), fun q => hF ((congrArg not (eqb_ch _ _).symm).trans q)⟩) ?_⟩
  refine ⟨by rw [al]; omega, ?_⟩
  rw [efD]
  exact tp_c (x3 := .fz (chD s)) (x4 := x4) (x6 := x6) eF fo (by rw [es]; exact hP)
theorem v_ptrimmed {ds : List D} {P : T → List D → Prop} (h : spTrimP ds P) : bodySp [.rd] 7 (wtrimmed_rules (spClosP okU) spIsName spReachP) ds P := by
  obtain ⟨r0, R0, rfl, hR, hP⟩ := h
  generalize hRR : r0 :: R0 = R at hR hP
  generalize hs : r0.1 = s at hP
  have h0 : atI (rulesD R) 0 = some (rlD r0) := by rw [← hRR]; exact atI_nat (j := 0) rfl
  have hl := hR.1
  have us : isNm s = true := by rw [← hs]; exact okR_up (hR.2 r0 (by rw [← hRR]; exact List.mem_cons_self))
  have hU : ∀ c, ((chs (srtC (useful okU R))).any fun z => eqb z (chD c)) = decide (c ∈ useful okU R) := any_srt _
  have fU : flat 60 (.lst (chs (srtC (useful okU R)))) = true := flat_chs 59 _
  generalize hD : chs (srtC (useful okU R)) = U at hU fU
  refine ⟨_, rfl, R, rfl, hR, ?_⟩
  rw [hD]
  refine ⟨_, _, rfl, rfl, by rw [rulesD_len]; omega, rules_comp R (keepW (useful okU R)) (fun r mr C hT hF => ?_) ?_⟩
  · -- one rule
    have rk := hR.2 r mr
    have e : asBls ((chs (r.1 :: r.2)).filterMap (sg fun c => some (.bl (okU c || decide (c ∈ useful okU R))))) = some ((r.1 :: r.2).map fun c => okU c || decide (c ∈ useful okU R)) := by
      rw [fm_sg, fm_some, show ((r.1 :: r.2).map fun c => D.bl (okU c || decide (c ∈ useful okU R))) = ((r.1 :: r.2).map fun c => okU c || decide (c ∈ useful okU R)).map D.bl by rw [List.map_map]; rfl]
      exact asBls_of
    have ek : ((r.1 :: r.2).map fun c => okU c || decide (c ∈ useful okU R)).all id = keepW (useful okU R) r := by
      rw [List.all_map]
      rfl
    have rl1 := rk.1
    refine ⟨chD r.1, ix0 _ _, .str r.2, ix1 _ _, by simp; omega, _, _, rfl, chs_cons _ _, by rw [chs_len, List.length_cons]; omega, comp_pure (sg fun c => some (.bl (okU c || decide (c ∈ useful okU R)))) _ _ (fun d m C2 hC => ?_) ⟨_, e, fun z => ?_, fun z => ?_⟩⟩
    · obtain ⟨c, _, rfl⟩ := of_chs m
      have hC2 : C2 (some (.bl (okU c || decide (c ∈ useful okU R)))) _ := hC
      refine br_t rfl ⟨_, rfl, c, rfl, fun q => ?_, fun q => ⟨flat_str _ _, fU, ?_⟩⟩
      · rw [show (okU c || decide (c ∈ useful okU R)) = true by
          show (!isNm c || decide (c ∈ useful okU R)) = true
          rw [q, Bool.true_or]] at hC2
        exact hC2
      · rw [show (okU c || decide (c ∈ useful okU R)) = decide (c ∈ useful okU R) by
          show (!isNm c || decide (c ∈ useful okU R)) = _
          rw [q, Bool.false_or]] at hC2
        rw [hU]
        exact hC2
    · exact hT (ek.symm.trans z)
    · exact hF (ek.symm.trans z)
  · have wl : (R.filter (keepW (useful okU R))).length ≤ R.length := List.length_filter_le _ _
    refine ⟨rfl, rfl, fun z => br_t rfl ⟨by decide, ?_⟩, fun z => ⟨rlD r0, h0, chD r0.1, ix0 _ _, flat_str _ _, fU, fun z2 => ⟨by decide, ?_⟩, fun z2 => ?_⟩⟩
    · have z1 : ((rulesD (R.filter (keepW (useful okU R)))).length : Int) = 0 := of_decide_eq_true z
      rw [rulesD_len] at z1
      have z3 : whole R = [] := List.eq_nil_of_length_eq_zero (by show (R.filter (keepW (useful okU R))).length = 0; omega)
      have : trimP R s = [] := by
        unfold trimP
        rw [if_pos (.inl z3)]
      rw [this] at hP
      exact hP
    · rw [hU, hs] at z2
      have : trimP R s = [] := by
        unfold trimP
        rw [if_pos (.inr (by simpa using z2))]
      rw [this] at hP
      exact hP
    · rw [hU, hs] at z2
      have inU : s ∈ useful okU R := by simpa using z2
      have z1 : ¬ ((rulesD (R.filter (keepW (useful okU R)))).length : Int) = 0 := of_decide_eq_false z
      rw [rulesD_len] at z1
      have wne : whole R ≠ [] := fun q => z1 (by show ((whole R).length : Int) = 0; rw [q]; rfl)
      obtain ⟨r1, T, ef, es⟩ := front_head (start_rule hR inU)
      have tp : trimP R s = (front s (whole R)).filter fun r => decide (r.1 ∈ rl (front s (whole R)) s) := by
        unfold trimP
        rw [if_neg (by simp [wne, inU])]
      rw [tp] at hP
      exact tp_b (x3 := .no) (x4 := .no) (x6 := .no) (U := U) h0 hs (okRs_sub hR whole_len whole_sub) ef es fun _ _ _ _ => hP
end K49
namespace K49
open PySem PySem.Spec PyProof.Rows L2 VS K49M

def spTrimL : DSp := fun ds P => ∃ r R, ds = [.lst (rulesD (r :: R))] ∧ okRs (r :: R) ∧ P (.tmp (.lst (rulesD (trimL (r :: R) r.1)))) []
def tlRho (R : List Rule) (s : Nat) (U : List Nat) (W : List Rule) (x4 x5 x6 x7 : Sl) : Rho := [.lent (.lst (rulesD R)), .fz (chD s), .own (.lst (chs U)), .own (.lst (rulesD W)), x4, x5, x6, x7]
def tlRho2 (R : List Rule) (s : Nat) (U : List Nat) (W : List Rule) (L : List Nat) (F : List Rule) (x6 x7 : Sl) : Rho := [.lent (.lst (rulesD R)), .fz (chD s), .own (.lst (chs U)), .own (.lst (rulesD W)), .own (.lst (chs L)), .own (.lst (rulesD F)), x6, x7]
def wTlC : WS := wRet (wBin addD (wVar 5) (wLc (wiSeq (wVar 3)) (wgN 6) (wAnd (wTest (wBin neD (wBin ixD (wVar 6) (wC (.int 0))) (wVar 1))) (wTest (wBin inD (wBin ixD (wVar 6) (wC (.int 0))) (wVar 4)))) (wVar 6) [6]))
theorem tl_c {R W F : List Rule} {U L : List Nat} {s : Nat} {x6 x7 : Sl} {P : WEnds} (hW : okRs W) (hF : F.length ≤ 100)
    (hP : ∀ x6, P.rt (.tmp (.lst (rulesD (F ++ W.filter fun r => !isS s r && decide (r.1 ∈ L))))) (tlRho2 R s U W L F x6 x7)) : wTlC P (tlRho2 R s U W L F x6 x7) := by
  have hl := hW.1
  have l2 : (W.filter fun r => !isS s r && decide (r.1 ∈ L)).length ≤ W.length := List.length_filter_le _ _
  refine ⟨_, _, rfl, rfl, by rw [rulesD_len]; omega, rules_comp W (fun r => !isS s r && decide (r.1 ∈ L)) (fun r mr C hT hF => ⟨chD r.1, ix0 _ _, flat_str _ _, flat_str _ _, fun q => ⟨chD r.1, ix0 _ _, flat_str _ _, flat_chs 59 L, fun q2 => hT ?_, fun q2 => hF ?_⟩, fun q => br_f rfl (hF ?_)⟩) ?_⟩
  · have a : (!isS s r) = true := (congrArg not (eqb_ch r.1 s).symm).trans q
    rw [a, Bool.true_and]
    exact (any_ch L r.1).symm.trans q2
  · have a : (!isS s r) = true := (congrArg not (eqb_ch r.1 s).symm).trans q
    rw [a, Bool.true_and]
    exact (any_ch L r.1).symm.trans q2
  · have a : (!isS s r) = false := (congrArg not (eqb_ch r.1 s).symm).trans q
    rw [a, Bool.false_and]
  · refine ⟨by rw [rulesD_len, rulesD_len]; omega, ?_⟩
    rw [rulesD_app]
    exact hP _
def wTlB : WS := wSeq (wAsg 4 (wCall [.rd, .fz] spReachL (wCons (wVar 3) (wCons (wVar 1) wNil))))
          (wSeq (wAsg 5 (wLc (wiSeq (wVar 3)) (wgN 6) (wTest (wBin eqD (wBin ixD (wVar 6) (wC (.int 0))) (wVar 1))) (wVar 6) [6]))
          wTlC)
theorem tl_b {R W : List Rule} {U : List Nat} {s : Nat} {x4 x5 x6 x7 : Sl} {P : WEnds} (hW : okRs W)
    (hP : ∀ x6, P.rt (.tmp (.lst (rulesD (W.filter (isS s) ++ W.filter fun r => !isS s r && decide (r.1 ∈ rl W s))))) (tlRho2 R s U W (rl W s) (W.filter (isS s)) x6 x7)) : wTlB P (tlRho R s U W x4 x5 x6 x7) := by
  have hl := hW.1
  refine ⟨_, rfl, W, s, rfl, hW, ?_⟩
  generalize rl W s = L at hP ⊢
  have l1 : (W.filter (isS s)).length ≤ W.length := List.length_filter_le _ _
  refine ⟨_, _, rfl, rfl, by rw [rulesD_len]; omega, rules_comp W (isS s) (fun r mr C hT hF => ⟨chD r.1, ix0 _ _, flat_str _ _, flat_str _ _, fun q => hT ((eqb_ch _ _).symm.trans q), fun q => hF ((eqb_ch _ _).symm.trans q)⟩) ?_⟩
  exact tl_c hW (by omega) hP
theorem v_ltrimmed {ds : List D} {P : T → List D → Prop} (h : spTrimL ds P) : bodySp [.rd] 8 (w_law_trimmed (spClosL okU) spReachL) ds P := by
  obtain ⟨r0, R0, rfl, hR, hP⟩ := h
  generalize hRR : r0 :: R0 = R at hR hP
  generalize hs : r0.1 = s at hP
  have h0 : atI (rulesD R) 0 = some (rlD r0) := by rw [← hRR]; exact atI_nat (j := 0) rfl
  have hl := hR.1
  refine ⟨rlD r0, h0, chD r0.1, ix0 _ _, ?_⟩
  rw [hs]
  refine ⟨_, rfl, R, rfl, hR, flat_str _ _, flat_chs 59 _, fun z => ⟨by decide, ?_⟩, fun z => ?_⟩
  · have z1 : s ∉ useful okU R := by
      have z2 := (congrArg not (any_ch (useful okU R) s)).symm.trans z
      simpa using z2
    have : trimL R s = [] := by
      unfold trimL
      rw [if_pos z1]
    rw [this] at hP
    exact hP
  · have inU : s ∈ useful okU R := by
      have z2 := (congrArg not (any_ch (useful okU R) s)).symm.trans z
      simpa using z2
    have tl : trimL R s = (whole R).filter (isS s) ++ (whole R).filter fun r => !isS s r && decide (r.1 ∈ rl (whole R) s) := by
      unfold trimL
      rw [if_neg (by simp [inU])]
    have hw : okRs (whole R) := okRs_sub hR whole_len whole_sub
    unfold whole at tl hw
    generalize useful okU R = U at tl hw ⊢
    refine ⟨_, _, rfl, rfl, by rw [rulesD_len]; omega, rules_comp R (keepW U) (fun r mr C hT hF => ?_) ?_⟩
    · have rk := hR.2 r mr
      have rl1 := rk.1
      have e : ((chs (r.1 :: r.2)).filterMap (sg fun c => if (isNm c && !decide (c ∈ U)) = true then some (chD c) else none)) = chs ((r.1 :: r.2).filter fun c => isNm c && !decide (c ∈ U)) := by
        rw [fm_sg, fm_if]
      have fl : flat 60 (.lst ((chs (r.1 :: r.2)).filterMap (sg fun c => if (isNm c && !decide (c ∈ U)) = true then some (chD c) else none))) = true := by
        rw [e]
        exact flat_chs 59 _
      have ek : eqb (.lst ((chs (r.1 :: r.2)).filterMap (sg fun c => if (isNm c && !decide (c ∈ U)) = true then some (chD c) else none))) (.lst []) = keepW U r := by
        rw [e, eqb_nil, good_empty (ok := okU) (K := U) _ fun c _ => by simp [okU]]
        rfl
      refine ⟨chD r.1, ix0 _ _, .str r.2, ix1 _ _, by simp; omega, _, _, rfl, chs_cons _ _, by rw [chs_len, List.length_cons]; omega, comp_pure (sg fun c => if (isNm c && !decide (c ∈ U)) = true then some (chD c) else none) _ _ (fun d m C2 hC => ?_) ⟨by decide, fl, rfl, fun z => hT (ek.symm.trans z), fun z => hF (ek.symm.trans z)⟩⟩
      obtain ⟨c, mc, rfl⟩ := of_chs m
      have hC2 : C2 (if (isNm c && !decide (c ∈ U)) = true then some (chD c) else none) _ := hC
      have up := upper_sign (c := c) (by
        rcases List.mem_cons.mp mc with rfl | mc
        · exact .inl rk.2.1
        · exact rk.2.2 c mc)
      refine ⟨rfl, fun z => ⟨rfl, flat_chs 59 U, ?_⟩, fun z => br_f rfl ?_⟩
      · rw [any_ch]
        have z' : isNm c = true := up.symm.trans z
        rw [z', Bool.true_and] at hC2
        refine ⟨fun z => ?_, fun z => ?_⟩
        · rw [if_pos z] at hC2
          exact hC2
        · rw [if_neg (by rw [z]; exact Bool.false_ne_true)] at hC2
          exact hC2
      · have z' : isNm c = false := up.symm.trans z
        rw [z', Bool.false_and, if_neg Bool.false_ne_true] at hC2
        exact hC2
    · rw [tl] at hP
      exact tl_b (x4 := .no) (x5 := .no) (x6 := .no) (x7 := .no) hw fun _ => hP

def spAny : DSp := fun ds P => ∃ r R, ds = [.tup (rulesD (r :: R))] ∧ okRs (r :: R) ∧ P (.val (.bl (decide (r.1 ∈ useful okU (r :: R))))) []
theorem v_any {ds : List D} {P : T → List D → Prop} (h : spAny ds P) : bodySp [.rd] 1 (wmakes_any (spClosP okU)) ds P := by
  obtain ⟨r0, R0, rfl, hR, hP⟩ := h
  refine ⟨rlD r0, atI_nat (j := 0) rfl, chD r0.1, ix0 _ _, _, rfl, _, rfl, hR, flat_str _ _, flat_chs 59 _, ?_⟩
  rw [any_srt]
  exact hP
end K49
namespace K49
open PySem PySem.Spec PyProof.Rows L2 VS K49M

theorem pl_chs (n : Nat) {K : List Nat} (h : K.length ≤ 1000000) : Pl (n + 1) (.lst (chs K)) := by
  refine ⟨by rw [chs_len]; exact h, fun x m => ?_⟩
  obtain ⟨c, _, rfl⟩ := of_chs m
  cases n <;> exact (by decide : (1 : Nat) ≤ 1000000)
theorem pl_str (n : Nat) {s : List Nat} (h : s.length ≤ 1000000) : Pl n (.str s) := by cases n <;> exact h
theorem pl_bl (n : Nat) (b : Bool) : Pl n (.bl b) := by cases n <;> trivial
theorem pl_rules {R : List Rule} (h : okRs R) : Pl 2 (.tup (rulesD R)) := by
  refine ⟨by rw [rulesD_len]; have := h.1; omega, fun x m => ?_⟩
  obtain ⟨r, mr, rfl⟩ := of_rules m
  refine ⟨(by decide : (2 : Nat) ≤ 1000000), fun y my => ?_⟩
  have := (h.2 r mr).1
  simp only [List.mem_cons, List.not_mem_nil, or_false] at my
  rcases my with rfl | rfl
  · exact pl_str _ (by decide : (1 : Nat) ≤ 1000000)
  · exact pl_str _ (by omega)
theorem flat_rules (n : Nat) (R : List Rule) : flat (n + 2) (.lst (rulesD R)) = true := by
  show ((rulesD R).all (flat (n + 1))) = true
  rw [List.all_eq_true]
  intro x m
  obtain ⟨r, _, rfl⟩ := of_rules m
  exact flat_rl n r
theorem eqb_rules (R : List Rule) : eqb (.lst (rulesD R)) (.lst []) = R.isEmpty := by
  cases R with
  | nil => rfl
  | cons a l => rfl
theorem trimL_ok {R : List Rule} {s : Nat} (hR : okRs R) (us : isNm s = true) : okRs (trimL R s) := by
  rw [← trim_eq hR us]
  unfold trimP
  split
  · exact ⟨by simp, fun r m => by simp at m⟩
  · refine okRs_sub (front_ok (s := s) hR) (List.length_filter_le _ _) fun r m => (List.mem_filter.mp m).1
theorem trimL_head {R : List Rule} {s : Nat} (hR : okRs R) (h : trimL R s ≠ []) : s ∈ useful okU R ∧ ∃ r T, trimL R s = r :: T ∧ r.1 = s := by
  by_cases k : s ∈ useful okU R
  · refine ⟨k, ?_⟩
    obtain ⟨r, m, e⟩ := start_rule hR k
    have tl : trimL R s = (whole R).filter (isS s) ++ (whole R).filter fun r => !isS s r && decide (r.1 ∈ rl (whole R) s) := by
      unfold trimL
      rw [if_neg (by simp [k])]
    rw [tl]
    cases q : (whole R).filter (isS s) with
    | nil =>
      have : r ∈ (whole R).filter (isS s) := List.mem_filter.mpr ⟨m, decide_eq_true e⟩
      rw [q] at this
      simp at this
    | cons a T =>
      have : a ∈ (whole R).filter (isS s) := by rw [q]; simp
      exact ⟨a, _, rfl, of_decide_eq_true (List.mem_filter.mp this).2⟩
  · exfalso
    apply h
    unfold trimL
    rw [if_pos k]
def asRho (R : List Rule) (H : List Nat) (x2 x3 x4 x5 : Sl) : Rho := [.lent (.lst (rulesD R)), .own (.lst (chs H)), x2, x3, x4, x5]
theorem heads_loop {R : List Rule} {x2 x3 : Sl} {P : WEnds} : ∀ (S : List Rule) (K : List Nat) (x4 x5 : Sl), K.length + S.length ≤ 100000 → (∀ x4 x5, P.nx (asRho R (S.foldl hstep K) x2 x3 x4 x5)) →
    wLoop (wgT 2 (wgCons (wgN 4) (wgCons (wgN 5) wgNil))) (wIfS (wTest (wBin notinD (wVar 4) (wVar 1))) (wDrop (wMut 1 appendD (wCons (wVar 4) wNil))) wNx) P (S.map rlD) (asRho R K x2 x3 x4 x5)
  | [], K, x4, x5, _, h => h x4 x5
  | r :: S, K, x4, x5, hl, h => by
    simp only [List.length_cons] at hl
    have ih := fun K' (q : K'.length ≤ K.length + 1) h => heads_loop (R := R) (x2 := x2) (x3 := x3) (P := P) S K' (.fz (chD r.1)) (.fz (.str r.2)) (by omega) h
    refine ⟨rfl, flat_str _ _, flat_chs 59 K, fun q => ?_, fun q => ?_⟩
    · rw [any_ch] at q
      have e : hstep K r = K ++ [r.1] := by
        unfold hstep
        rw [if_neg (by simpa using q)]
      rw [List.foldl_cons, e] at h
      refine ⟨trivial, by rw [chs_len]; omega, ?_⟩
      have := ih (K ++ [r.1]) (by simp) h
      rw [asRho, ← chs_snoc] at this
      exact this
    · rw [any_ch] at q
      have e : hstep K r = K := by
        unfold hstep
        rw [if_pos (by simpa using q)]
      rw [List.foldl_cons, e] at h
      exact ih K (by omega) h
theorem hfold_len : ∀ (S : List Rule) (K : List Nat), (S.foldl hstep K).length ≤ K.length + S.length
  | [], K => by simp
  | r :: S, K => by
    have h1 := hfold_len S (hstep K r)
    have h2 := hstep_len K r
    simp only [List.foldl_cons, List.length_cons]
    omega
def spAsked : DSp := fun ds P => ∃ r R, ds = [.lst (rulesD (r :: R))] ∧ okRs (r :: R) ∧ P (.val (.bl true)) []
def same2 : DSp := spSame 2
def wAsC : WS := wSeq (wAsg 3 (wCall [.rd] spTrimL (wCons (wVar 0) wNil)))
          (wSeq (wIfS (wNot (wTest (wCall [.rd, .rd] same2 (wCons (wCall [.rd] spTrimP (wCons (wCB tupleD (wCons (wVar 0) wNil)) wNil)) (wCons (wCB tupleD (wCons (wVar 3) wNil)) wNil))))) (wRet (wC (.bl false))) wNx)
          (wRet (wOrV (wBin eqD (wVar 3) (wLst wNil)) (wCall [.rd, .rd] same2 (wCons (wCall [.rd] spTrimP (wCons (wCB tupleD (wCons (wVar 3) wNil)) wNil)) (wCons (wCB tupleD (wCons (wVar 3) wNil)) wNil))))))
theorem as_c {r : Rule} {R : List Rule} {H : List Nat} {x2 x3 x4 x5 : Sl} {P : WEnds} (hR : okRs (r :: R)) (hP : ∀ x3, P.rt (.val (.bl true)) (asRho (r :: R) H x2 x3 x4 x5)) : wAsC P (asRho (r :: R) H x2 x3 x4 x5) := by
  have us : isNm r.1 = true := okR_up (hR.2 r List.mem_cons_self)
  have te := trim_eq hR us
  have tk := trimL_ok hR us
  have td := trim_idem (R := r :: R) (s := r.1) hR us
  have th := trimL_head (R := r :: R) (s := r.1) hR
  refine ⟨_, rfl, r, R, rfl, hR, ?_⟩
  refine ⟨_, rfl, r, R, rfl, hR, ?_⟩
  rw [te]
  generalize trimL (r :: R) r.1 = K at tk td th ⊢
  refine ⟨_, rfl, _, rfl, pl_rules tk, br_f rfl ⟨by decide, flat_rules 58 K, rfl, fun z => hP _, fun z => ?_⟩⟩
  have ne : K ≠ [] := fun q => by
    rw [q] at z
    cases z
  obtain ⟨hu, r1, T, e1, e2⟩ := th ne
  have td2 := td hu
  refine ⟨_, rfl, r1, T, by rw [e1], by rw [← e1]; exact tk, ?_⟩
  rw [← e1, e2, td2]
  exact ⟨_, rfl, _, rfl, pl_rules tk, hP _⟩
theorem v_asked {ds : List D} {P : T → List D → Prop} (h : spAsked ds P) : bodySp [.rd] 6 (w_law_asked same2 spNames (spClosL okE) (spClosP okE) (spClosL okU) (spClosP okU) spReachL spReachP spAny spTrimL spTrimP) ds P := by
  obtain ⟨r, R, rfl, hR, hP⟩ := h
  have hl := hR.1
  have us : isNm r.1 = true := okR_up (hR.2 r List.mem_cons_self)
  refine ⟨by decide, _, _, rfl, rfl, ?_⟩
  refine heads_loop (x2 := .no) (x3 := .no) (r :: R) [] _ _ (by simp at *; omega) fun x4 x5 => ?_
  have hh : ((r :: R).foldl hstep []).length ≤ 1000000 := by
    have := hfold_len (r :: R) []
    simp at *
    omega
  have small : ∀ {ok : Nat → Bool}, (srtC (useful ok (r :: R))).length ≤ 1000000 := fun {ok} => by
    rw [(srtC_perm _).length_eq]
    have := nodup_le (useful_nodup (ok := ok) (R := r :: R)) useful_heads
    simp at *
    omega
  have smr : (rl (r :: R) r.1).length ≤ 1000000 := by
    unfold rl
    rw [(srtC_perm _).length_eq]
    exact Nat.le_trans (List.length_filter_le _ _) (by decide)
  -- the heads
  refine ⟨_, rfl, r :: R, rfl, hR, _, rfl, _, rfl, pl_chs 1 hh, br_f rfl ?_⟩
  -- the empty ones
  refine ⟨_, rfl, r :: R, rfl, hR, _, rfl, r :: R, rfl, hR, Or.inr ⟨_, asStrs_chs _, ?_⟩⟩
  rw [srtC_eq]
  refine ⟨_, rfl, _, rfl, pl_chs 1 small, br_f rfl ?_⟩
  -- the useful ones
  refine ⟨_, rfl, r :: R, rfl, hR, Or.inr ⟨_, asStrs_chs _, ?_⟩⟩
  rw [srtC_eq]
  refine ⟨_, rfl, r :: R, rfl, hR, _, rfl, _, rfl, pl_chs 1 small, br_f rfl ?_⟩
  -- the reached ones
  refine ⟨_, rfl, r, R, rfl, hR, rlD r, atI_nat (j := 0) rfl, chD r.1, ix0 _ _, _, rfl, r :: R, r.1, rfl, hR, _, rfl, _, rfl, pl_chs 1 smr, br_f rfl ?_⟩
  -- any
  refine ⟨_, rfl, r, R, rfl, hR, rlD r, atI_nat (j := 0) rfl, chD r.1, ix0 _ _, flat_str _ _, flat_chs 59 _, ?_⟩
  rw [any_srt]
  refine ⟨_, rfl, _, rfl, pl_bl _ _, br_f rfl ?_⟩
  exact as_c (x3 := .no) hR fun _ => hP
end K49
namespace K49
open PySem PySem.Spec PyProof.Rows L2 VS K49M

def Ups (N : List Nat) : Prop := ∀ c ∈ N, 65 ≤ c ∧ c ≤ 90
def Lows (N : List Nat) : Prop := ∀ c ∈ N, 97 ≤ c ∧ c ≤ 122
theorem chs_split {F L : List D} {A : List Nat} (p : (F ++ L).Perm (chs A)) : ∃ N, F = chs N ∧ ∀ c ∈ N, c ∈ A := by
  obtain ⟨k, e, pk⟩ := perm_map_inv p
  refine ⟨k.take F.length, ?_, fun c m => pk.mem_iff.mp (List.mem_of_mem_take m)⟩
  have := congrArg (List.take F.length) e
  rw [List.take_left, ← List.map_take] at this
  exact this
def spNm : DSp := fun ds P => ∃ b many, ds = [b, .int many] ∧ BoxOk b ∧ 0 ≤ many ∧ many ≤ 26 ∧ ∀ N b', Ups N → (N.length : Int) = many → BoxOk b' → P (.tmp (.lst (chs N))) [b']
theorem v_nm {ds : List D} {P : T → List D → Prop} (h : spNm ds P) : bodySp [.mu, .rd] 2 (w_law_names spSome) ds P := by
  obtain ⟨b, many, rfl, bo, m0, m1, hP⟩ := h
  refine ⟨by decide, _, 0, rfl, rfl, rfl, b, chs abc, many, rfl, bo, m0, m1, by decide, fun F L b' p q bo' => ?_⟩
  obtain ⟨N, rfl, sub⟩ := chs_split p
  rw [chs_len] at q
  refine hP N b' (fun c m => ?_) q bo'
  have := mem_abc.mp (sub c m)
  unfold isNm at this
  simpa using this
def low : List Nat := [97, 98, 99, 100, 101, 102, 103, 104, 105, 106, 107, 108, 109, 110, 111, 112, 113, 114, 115, 116, 117, 118, 119, 120, 121, 122]
theorem mem_low {c : Nat} (h : c ∈ low) : 97 ≤ c ∧ c ≤ 122 := by
  unfold low at h
  simp only [List.mem_cons, List.not_mem_nil, or_false] at h
  omega
def spLt : DSp := fun ds P => ∃ b many, ds = [b, .int many] ∧ BoxOk b ∧ 0 ≤ many ∧ many ≤ 26 ∧ ∀ N b', Lows N → (N.length : Int) = many → BoxOk b' → P (.tmp (.lst (chs N))) [b']
theorem v_lt {ds : List D} {P : T → List D → Prop} (h : spLt ds P) : bodySp [.mu, .rd] 2 (w_law_letters spSome) ds P := by
  obtain ⟨b, many, rfl, bo, m0, m1, hP⟩ := h
  refine ⟨by decide, _, 0, rfl, rfl, rfl, b, chs low, many, rfl, bo, m0, m1, by decide, fun F L b' p q bo' => ?_⟩
  obtain ⟨N, rfl, sub⟩ := chs_split p
  rw [chs_len] at q
  have := hP (srtC N) b' (fun c m => mem_low (sub c (mem_srtC.mp m))) (by rw [(srtC_perm _).length_eq]; exact q) bo'
  rw [← srtC_eq] at this
  exact Or.inr ⟨_, asStrs_chs _, this⟩

/-! ### drawn rules -/
def RuleOk (n : Nat) (r : Rule) : Prop := r.2.length ≤ n ∧ (65 ≤ r.1 ∧ r.1 ≤ 90) ∧ ∀ c ∈ r.2, sign c
theorem RuleOk.okR {n : Nat} {r : Rule} (h : RuleOk n r) (hn : n ≤ 20) : okR r := ⟨Nat.le_trans h.1 hn, h.2⟩
def spRules : DSp := fun ds P => ∃ b N L many longest, ds = [b, .lst (chs N), .lst (chs L), .int many, .int longest] ∧ BoxOk b ∧ Ups N ∧ N ≠ [] ∧ N.length ≤ 1000 ∧ Lows L ∧ L ≠ [] ∧ L.length ≤ 1000 ∧ 0 ≤ many ∧ many ≤ 20 ∧ 0 ≤ longest ∧ longest ≤ 10 ∧
  ∀ R b', (R.length : Int) = many → (∀ r ∈ R, RuleOk 10 r) → BoxOk b' → P (.tmp (.lst (rulesD R))) [b']
def rlRho (b : D) (N L : List Nat) (many longest : Int) (R : List Rule) (x6 x7 x8 : Sl) : Rho := [.mu b, .fz (.lst (chs N)), .fz (.lst (chs L)), .fz (.int many), .fz (.int longest), .own (.lst (rulesD R)), x6, x7, x8]
theorem ch_pick {N : List Nat} {x : D} (m : x ∈ chs N) : ∃ c, c ∈ N ∧ x = chD c := of_chs m
theorem chs_ne {N : List Nat} (h : N ≠ []) : chs N ≠ [] := fun e => h (by cases N with | nil => rfl | cons a l => simp [chs] at e)
theorem text_loop {N L : List Nat} {many longest : Int} {R : List Rule} {x6 : Sl} {P : WEnds} (hN : Ups N) (nN : N ≠ []) (lN : N.length ≤ 1000) (hL : Lows L) (nL : L ≠ []) (lL : L.length ≤ 1000) : ∀ (ds : List D) (b : D) (t : List Nat) (x8 : Sl), BoxOk b → (∀ c ∈ t, sign c) → t.length + ds.length ≤ 1000 →
    (∀ b' t' x8, BoxOk b' → (∀ c ∈ t', sign c) → t'.length = t.length + ds.length → P.nx (rlRho b' N L many longest R x6 (.fz (.str t')) x8)) →
    wLoop (wgN 8) (wAsg 7 (wBin addD (wVar 7) (wCallM 0 [.mu, .rd] spPick (wCons (wVar 0) (wCons (wCallM 0 [.mu, .rd] spPick (wCons (wVar 0) (wCons (wLst (wCons (wVar 1) (wCons (wVar 2) wNil))) wNil))) wNil))))) P ds (rlRho b N L many longest R x6 (.fz (.str t)) x8)
  | [], b, t, x8, bo, ht, _, h => h b t x8 bo ht rfl
  | d :: ds, b, t, x8, bo, ht, hl, h => by
    simp only [List.length_cons] at hl
    have nx : ∀ c b', sign c → BoxOk b' → wLoop (wgN 8) (wAsg 7 (wBin addD (wVar 7) (wCallM 0 [.mu, .rd] spPick (wCons (wVar 0) (wCons (wCallM 0 [.mu, .rd] spPick (wCons (wVar 0) (wCons (wLst (wCons (wVar 1) (wCons (wVar 2) wNil))) wNil))) wNil))))) P ds (rlRho b' N L many longest R x6 (.fz (.str (t ++ [c]))) (.fz d)) := fun c b' hc bo' =>
      text_loop hN nN lN hL nL lL ds b' (t ++ [c]) (.fz d) bo' (fun c' m => by
        rcases List.mem_append.mp m with m | m
        · exact ht c' m
        · simp at m
          subst m
          exact hc) (by simp; omega) fun b2 t2 x8 bo2 ht2 l2 => h b2 t2 x8 bo2 ht2 (by simp at l2 ⊢; omega)
    refine ⟨(by decide : (2 : Nat) ≤ 16777216), _, 0, rfl, rfl, rfl, b, .lst [.lst (chs N), .lst (chs L)], _, rfl, bo, (fun n e => nomatch e), rfl, by simp, (by decide : (2 : Nat) ≤ 1000000), fun x b1 mx bo1 => ?_⟩
    simp only [List.mem_cons, List.not_mem_nil, or_false] at mx
    rcases mx with rfl | rfl
    · refine ⟨_, 0, rfl, rfl, rfl, b1, .lst (chs N), _, rfl, bo1, (fun n e => nomatch e), rfl, chs_ne nN, by rw [chs_len]; omega, fun x b2 mx bo2 => ?_⟩
      obtain ⟨c, mc, rfl⟩ := of_chs mx
      exact ⟨by simp; omega, nx c b2 (.inl (hN c mc)) bo2⟩
    · refine ⟨_, 0, rfl, rfl, rfl, b1, .lst (chs L), _, rfl, bo1, (fun n e => nomatch e), rfl, chs_ne nL, by rw [chs_len]; omega, fun x b2 mx bo2 => ?_⟩
      obtain ⟨c, mc, rfl⟩ := of_chs mx
      exact ⟨by simp; omega, nx c b2 (.inr (hL c mc)) bo2⟩
theorem rulesD_snoc (R : List Rule) (r : Rule) : rulesD R ++ [rlD r] = rulesD (R ++ [r]) := by simp [rulesD]
def wRlBody : WS := wSeq (wAsg 7 (wC (.str [])))
              (wSeq (wFor (wiR1 (wCons (wCallM 0 [.mu, .rd] spDraw (wCons (wVar 0) (wCons (wBin addD (wVar 4) (wC (.int 1))) wNil))) wNil)) (wgN 8) (wAsg 7 (wBin addD (wVar 7) (wCallM 0 [.mu, .rd] spPick (wCons (wVar 0) (wCons (wCallM 0 [.mu, .rd] spPick (wCons (wVar 0) (wCons (wLst (wCons (wVar 1) (wCons (wVar 2) wNil))) wNil))) wNil))))))
              (wDrop (wMut 5 appendD (wCons (wTup (wCons (wCallM 0 [.mu, .rd] spPick (wCons (wVar 0) (wCons (wVar 1) wNil))) (wCons (wVar 7) wNil))) wNil))))
theorem rules_loop {N L : List Nat} {many longest : Int} {P : WEnds} (hN : Ups N) (nN : N ≠ []) (lN : N.length ≤ 1000) (hL : Lows L) (nL : L ≠ []) (lL : L.length ≤ 1000) (o0 : 0 ≤ longest) (o1 : longest ≤ 10) : ∀ (ds : List D) (b : D) (R : List Rule) (x6 x7 x8 : Sl), BoxOk b → (∀ r ∈ R, RuleOk 10 r) → R.length + ds.length ≤ 1000 →
    (∀ b' R' x6 x7 x8, BoxOk b' → (∀ r ∈ R', RuleOk 10 r) → R'.length = R.length + ds.length → P.nx (rlRho b' N L many longest R' x6 x7 x8)) →
    wLoop (wgN 6) wRlBody P ds (rlRho b N L many longest R x6 x7 x8)
  | [], b, R, x6, x7, x8, bo, hr, _, h => h b R x6 x7 x8 bo hr rfl
  | d :: ds, b, R, x6, x7, x8, bo, hr, hl, h => by
    simp only [List.length_cons] at hl
    refine ⟨_, 0, rfl, rfl, rfl, b, longest + 1, rfl, bo, by omega, fun n b1 n0 n1 bo1 => ?_⟩
    refine ⟨n, rfl, by omega, text_loop (x6 := .fz d) (R := R) hN nN lN hL nL lL _ b1 [] x8 bo1 (by simp) (by rw [rng_len]; simp; omega) fun b2 t x8 bo2 ht lt => ?_⟩
    rw [rng_len] at lt
    refine ⟨trivial, _, 0, rfl, rfl, rfl, b2, .lst (chs N), _, rfl, bo2, (fun n e => nomatch e), rfl, chs_ne nN, by rw [chs_len]; omega, fun x b3 mx bo3 => ?_⟩
    obtain ⟨c, mc, rfl⟩ := of_chs mx
    have ok : RuleOk 10 (c, t) := ⟨by show t.length ≤ 10; simp at lt; omega, hN c mc, ht⟩
    have := rules_loop hN nN lN hL nL lL o0 o1 (many := many) (P := P) ds b3 (R ++ [(c, t)]) (.fz d) (.fz (.str t)) x8 bo3 (fun r m => by
      rcases List.mem_append.mp m with m | m
      · exact hr r m
      · simp at m
        subst m
        exact ok) (by simp; omega) fun b' R' x6 x7 x8 bo' hr' l' => h b' R' x6 x7 x8 bo' hr' (by simp at l' ⊢; omega)
    rw [rlRho, ← rulesD_snoc] at this
    exact ⟨(by decide : (2 : Nat) ≤ 16777216), by rw [rulesD_len]; omega, this⟩
theorem v_rules {ds : List D} {P : T → List D → Prop} (h : spRules ds P) : bodySp [.mu, .fz, .fz, .rd, .rd] 9 (w_law_rules spDraw spPick) ds P := by
  obtain ⟨b, N, L, many, longest, rfl, bo, hN, nN, lN, hL, nL, lL, m0, m1, o0, o1, hP⟩ := h
  refine ⟨by decide, many, rfl, by omega, ?_⟩
  refine rules_loop (many := many) hN nN lN hL nL lL o0 o1 _ b [] _ _ _ bo (by simp) (by rw [rng_len]; simp; omega) fun b' R' x6 x7 x8 bo' hr' l' => ?_
  rw [rng_len] at l'
  exact hP R' b' (by simp at l'; omega) hr' bo'
end K49
namespace K49
open PySem PySem.Spec PyProof.Rows L2 VS K49M

def arRho (b : D) (N L : List Nat) (R : List Rule) (x4 x5 : Sl) : Rho := [.mu b, .lent (.lst (chs N)), .lent (.lst (chs L)), .own (.lst (rulesD R)), x4, x5]
def wArBody : WS := wSeq (wAsg 5 (wBin mulD (wBin ixD (wVar 1) (wBin addD (wVar 4) (wC (.int 1)))) (wCallM 0 [.mu, .rd] spPick (wCons (wVar 0) (wCons (wLst (wCons (wC (.int 1)) (wCons (wC (.int 1)) (wCons (wC (.int 2)) wNil)))) wNil)))))
              (wSeq (wIfS (wTest (wBin eqD (wCallM 0 [.mu, .rd] spDraw (wCons (wVar 0) (wCons (wC (.int 4)) wNil))) (wC (.int 0)))) (wAsg 5 (wBin addD (wVar 5) (wCallM 0 [.mu, .rd] spPick (wCons (wVar 0) (wCons (wVar 2) wNil))))) wNx)
              (wDrop (wMut 3 insertD (wCons (wC (.int 0)) (wCons (wTup (wCons (wBin ixD (wVar 1) (wVar 4)) (wCons (wVar 5) wNil))) wNil)))))
theorem chs_get {N : List Nat} {k : Nat} (h : k < N.length) : atI (chs N) (k : Int) = some (chD N[k]) := chs_at (List.getElem?_eq_getElem h)
theorem chs_last {N : List Nat} (h : N ≠ []) : ∃ c, c ∈ N ∧ atI (chs N) (-1) = some (chD c) := by
  refine ⟨N.getLast h, List.getLast_mem h, ?_⟩
  have e : chs N = chs N.dropLast ++ [chD (N.getLast h)] := by
    rw [chs_snoc, List.dropLast_concat_getLast h]
  rw [e]
  exact atI_last _ _
theorem ar_ins {b : D} {N L : List Nat} {R : List Rule} {k : Nat} {t : List Nat} {P : WEnds} (hN : Ups N) (hk : k < N.length) (ht : ∀ c ∈ t, sign c) (lt : t.length ≤ 10) (lR : R.length ≤ 1000) (h : ∀ r, RuleOk 10 r → P.nx (arRho b N L (r :: R) (.fz (.int k)) (.fz (.str t)))) :
    wDrop (wMut 3 insertD (wCons (wC (.int 0)) (wCons (wTup (wCons (wBin ixD (wVar 1) (wVar 4)) (wCons (wVar 5) wNil))) wNil))) P (arRho b N L R (.fz (.int k)) (.fz (.str t))) := by
  refine ⟨trivial, chD N[k], chs_get hk, (by decide : (2 : Nat) ≤ 16777216), by rw [rulesD_len]; omega, by decide, by decide, ?_⟩
  exact h (N[k], t) ⟨lt, hN _ (List.getElem_mem hk), ht⟩
theorem ar_loop {N L : List Nat} {P : WEnds} (hN : Ups N) (lN : N.length ≤ 1000) (hL : Lows L) (nL : L ≠ []) (lL : L.length ≤ 1000) : ∀ (ks : List Nat) (b : D) (R : List Rule) (x4 x5 : Sl), (∀ k ∈ ks, k + 1 < N.length) → BoxOk b → (∀ r ∈ R, RuleOk 10 r) → R.length + ks.length ≤ 1000 →
    (∀ b' R' x4 x5, BoxOk b' → (∀ r ∈ R', RuleOk 10 r) → R'.length = R.length + ks.length → P.nx (arRho b' N L R' x4 x5)) →
    wLoop (wgN 4) wArBody P (ks.map fun k => D.int ((k : Nat) : Int)) (arRho b N L R x4 x5)
  | [], b, R, x4, x5, _, bo, hr, _, h => h b R x4 x5 bo hr rfl
  | k :: ks, b, R, x4, x5, hk, bo, hr, hl, h => by
    simp only [List.length_cons] at hl
    have k0 := hk k List.mem_cons_self
    have go : ∀ b' x5 r, BoxOk b' → RuleOk 10 r → wLoop (wgN 4) wArBody P (ks.map fun k => D.int ((k : Nat) : Int)) (arRho b' N L (r :: R) (.fz (.int k)) x5) := fun b' x5 r bo' ok =>
      ar_loop hN lN hL nL lL ks b' (r :: R) (.fz (.int k)) x5 (fun j m => hk j (List.mem_cons_of_mem _ m)) bo' (fun r' m => by
        rcases List.mem_cons.mp m with rfl | m
        · exact ok
        · exact hr r' m) (by simp; omega) fun b2 R2 x4 x5 bo2 hr2 l2 => h b2 R2 x4 x5 bo2 hr2 (by simp at l2 ⊢; omega)
    have nk : Ups [N[k + 1]] := fun c m => by
      simp at m
      subst m
      exact hN _ (List.getElem_mem k0)
    -- behind the text
    have rest : ∀ b1 t, BoxOk b1 → (∀ c ∈ t, sign c) → t.length ≤ 2 → wSeq (wIfS (wTest (wBin eqD (wCallM 0 [.mu, .rd] spDraw (wCons (wVar 0) (wCons (wC (.int 4)) wNil))) (wC (.int 0)))) (wAsg 5 (wBin addD (wVar 5) (wCallM 0 [.mu, .rd] spPick (wCons (wVar 0) (wCons (wVar 2) wNil))))) wNx)
              (wDrop (wMut 3 insertD (wCons (wC (.int 0)) (wCons (wTup (wCons (wBin ixD (wVar 1) (wVar 4)) (wCons (wVar 5) wNil))) wNil))))
        ⟨fun ρ2 => wLoop (wgN 4) wArBody P (ks.map fun k => D.int ((k : Nat) : Int)) ρ2, P.rt, P.bk, fun ρ2 => wLoop (wgN 4) wArBody P (ks.map fun k => D.int ((k : Nat) : Int)) ρ2⟩ (arRho b1 N L R (.fz (.int k)) (.fz (.str t))) := fun b1 t bo1 ht lt => by
      refine ⟨_, 0, rfl, rfl, rfl, b1, 4, rfl, bo1, by decide, fun n b2 n0 n1 bo2 => ⟨rfl, rfl, fun q => ?_, fun q => ?_⟩⟩
      · refine ⟨_, 0, rfl, rfl, rfl, b2, .lst (chs L), _, rfl, bo2, (fun n e => nomatch e), rfl, chs_ne nL, by rw [chs_len]; omega, fun x b3 mx bo3 => ?_⟩
        obtain ⟨c, mc, rfl⟩ := of_chs mx
        refine ⟨by simp; omega, ?_⟩
        exact ar_ins (t := t ++ [c]) hN (by omega) (fun c' m => by
          rcases List.mem_append.mp m with m | m
          · exact ht c' m
          · simp at m
            subst m
            exact .inr (hL _ mc)) (by simp; omega) (by omega) fun r ok => go b3 _ r bo3 ok
      · exact ar_ins (t := t) hN (by omega) ht (by omega) (by omega) fun r ok => go b2 _ r bo2 ok
    have hx : atI (chs N) ((k : Int) + 1) = some (chD N[k + 1]) := chs_get (k := k + 1) k0
    refine ⟨chD N[k + 1], hx, (by decide : (3 : Nat) ≤ 16777216), _, 0, rfl, rfl, rfl, b, .lst [.int 1, .int 1, .int 2], _, rfl, bo, (fun n e => nomatch e), rfl, by simp, (by decide : (3 : Nat) ≤ 1000000), fun x b1 mx bo1 => ?_⟩
    simp only [List.mem_cons, List.not_mem_nil, or_false] at mx
    rcases mx with rfl | rfl | rfl
    · exact ⟨by decide, by decide, (by decide : (1 : Nat) * Int.toNat 1 ≤ 16777216), rest b1 [N[k + 1]] bo1 (fun c m => .inl (nk c m)) (by simp)⟩
    · exact ⟨by decide, by decide, (by decide : (1 : Nat) * Int.toNat 1 ≤ 16777216), rest b1 [N[k + 1]] bo1 (fun c m => .inl (nk c m)) (by simp)⟩
    · exact ⟨by decide, by decide, (by decide : (1 : Nat) * Int.toNat 2 ≤ 16777216), rest b1 [N[k + 1], N[k + 1]] bo1 (fun c m => .inl (nk c (by simpa using m))) (by simp)⟩
def spRow : DSp := fun ds P => ∃ b N L, ds = [b, .lst (chs N), .lst (chs L)] ∧ BoxOk b ∧ Ups N ∧ 2 ≤ N.length ∧ N.length ≤ 20 ∧ Lows L ∧ L ≠ [] ∧ L.length ≤ 20 ∧ ∀ R b', R.length = N.length + 1 → (∀ r ∈ R, RuleOk 10 r) → BoxOk b' → P (.tmp (.lst (rulesD R))) [b']
def wArEnd : WS := wSeq (wDrop (wMut 3 insertD (wCons (wC (.int 0)) (wCons (wTup (wCons (wBin ixD (wVar 1) (wUn negD (wC (.int 1)))) (wCons (wCallM 0 [.mu, .rd] spPick (wCons (wVar 0) (wCons (wLst (wCons (wC (.str [])) (wCons (wC (.str [])) (wCons (wBin ixD (wVar 2) (wC (.int 0))) (wCons (wBin addD (wBin ixD (wVar 2) (wC (.int 0))) (wBin ixD (wVar 2) (wUn negD (wC (.int 1))))) wNil))))) wNil))) wNil))) wNil))))
          (wSeq (wDrop (wMut 3 insertD (wCons (wC (.int 0)) (wCons (wTup (wCons (wBin ixD (wVar 1) (wC (.int 0))) (wCons (wCallM 0 [.mu, .rd] spPick (wCons (wVar 0) (wCons (wLst (wCons (wBin ixD (wVar 1) (wC (.int 1))) (wCons (wBin addD (wBin ixD (wVar 1) (wC (.int 1))) (wBin ixD (wVar 2) (wC (.int 0)))) (wCons (wBin addD (wBin ixD (wVar 1) (wC (.int 0))) (wBin ixD (wVar 1) (wC (.int 0)))) (wCons (wBin ixD (wVar 1) (wUn negD (wC (.int 1)))) wNil))))) wNil))) wNil))) wNil))))
          (wRet (wVar 3)))
theorem ar_end {b : D} {N L : List Nat} {R : List Rule} {x4 x5 : Sl} {P : WEnds} (hN : Ups N) (n2 : 2 ≤ N.length) (hL : Lows L) (nL : L ≠ []) (bo : BoxOk b) (hr : ∀ r ∈ R, RuleOk 10 r) (lR : R.length ≤ 1000)
    (h : ∀ b' R', R'.length = R.length + 2 → (∀ r ∈ R', RuleOk 10 r) → BoxOk b' → P.rt (.bor 3) (arRho b' N L R' x4 x5)) : wArEnd P (arRho b N L R x4 x5) := by
  have nN : N ≠ [] := fun e => by rw [e] at n2; simp at n2
  obtain ⟨zn, mzn, ezn⟩ := chs_last nN
  obtain ⟨zl, mzl, ezl⟩ := chs_last nL
  have l0 : 0 < L.length := List.length_pos_iff.mpr nL
  have a0 := chs_get (N := L) (k := 0) l0
  have n0 := chs_get (N := N) (k := 0) (by omega)
  have n1 := chs_get (N := N) (k := 1) (by omega)
  have sl : ∀ c ∈ L, sign c := fun c m => .inr (hL c m)
  have sn : ∀ c ∈ N, sign c := fun c m => .inl (hN c m)
  have ml0 := sl _ (List.getElem_mem l0)
  have mn0 := sn _ (List.getElem_mem (show 0 < N.length by omega))
  have mn1 := sn _ (List.getElem_mem (show 1 < N.length by omega))
  have t0 : ∀ c ∈ ([] : List Nat), sign c := by simp
  have t1 : ∀ {x}, sign x → ∀ c ∈ [x], sign c := fun h c m => by simp at m; subst m; exact h
  have t2 : ∀ {x y}, sign x → sign y → ∀ c ∈ [x, y], sign c := fun h k c m => by
    simp at m
    rcases m with rfl | rfl
    · exact h
    · exact k
  -- the second insert
  have second : ∀ (b1 : D) (r : Rule), BoxOk b1 → RuleOk 10 r → wSeq (wDrop (wMut 3 insertD (wCons (wC (.int 0)) (wCons (wTup (wCons (wBin ixD (wVar 1) (wC (.int 0))) (wCons (wCallM 0 [.mu, .rd] spPick (wCons (wVar 0) (wCons (wLst (wCons (wBin ixD (wVar 1) (wC (.int 1))) (wCons (wBin addD (wBin ixD (wVar 1) (wC (.int 1))) (wBin ixD (wVar 2) (wC (.int 0)))) (wCons (wBin addD (wBin ixD (wVar 1) (wC (.int 0))) (wBin ixD (wVar 1) (wC (.int 0)))) (wCons (wBin ixD (wVar 1) (wUn negD (wC (.int 1)))) wNil))))) wNil))) wNil))) wNil))))
          (wRet (wVar 3)) P (arRho b1 N L (r :: R) x4 x5) := fun b1 r bo1 ok => by
    have fin : ∀ b2 t, BoxOk b2 → (∀ c ∈ t, sign c) → t.length ≤ 10 → P.rt (.bor 3) (arRho b2 N L ((N[0], t) :: r :: R) x4 x5) := fun b2 t bo2 ht lt => h b2 _ (by simp) (fun r' m => by
      rcases List.mem_cons.mp m with rfl | m
      · exact ⟨lt, hN _ (List.getElem_mem (show 0 < N.length by omega)), ht⟩
      · rcases List.mem_cons.mp m with rfl | m
        · exact ok
        · exact hr r' m) bo2
    have room : (rulesD (r :: R)).length < 16777216 := by
      rw [rulesD_len]
      simp only [List.length_cons]
      omega
    refine ⟨trivial, chD N[0], n0, chD N[1], n1, chD N[1], n1, chD L[0], a0, (by decide : (1 + 1 : Nat) ≤ 16777216), chD N[0], n0, chD N[0], n0, (by decide : (1 + 1 : Nat) ≤ 16777216), chD zn, ezn, (by decide : (4 : Nat) ≤ 16777216), _, 0, rfl, rfl, rfl, b1, _, _, rfl, bo1, (fun n e => nomatch e), rfl, by simp, (by decide : (4 : Nat) ≤ 1000000), fun x b2 mx bo2 => ?_⟩
    simp only [List.mem_cons, List.not_mem_nil, or_false] at mx
    rcases mx with rfl | rfl | rfl | rfl
    · exact ⟨(by decide : (2 : Nat) ≤ 16777216), room, by decide, by decide, fin b2 [N[1]] bo2 (t1 mn1) (by simp)⟩
    · exact ⟨(by decide : (2 : Nat) ≤ 16777216), room, by decide, by decide, fin b2 [N[1], L[0]] bo2 (t2 mn1 ml0) (by simp)⟩
    · exact ⟨(by decide : (2 : Nat) ≤ 16777216), room, by decide, by decide, fin b2 [N[0], N[0]] bo2 (t2 mn0 mn0) (by simp)⟩
    · exact ⟨(by decide : (2 : Nat) ≤ 16777216), room, by decide, by decide, fin b2 [zn] bo2 (t1 (sn _ mzn)) (by simp)⟩
  have go : ∀ b1 t, BoxOk b1 → (∀ c ∈ t, sign c) → t.length ≤ 10 → RuleOk 10 (zn, t) := fun b1 t bo1 ht lt => ⟨lt, hN _ mzn, ht⟩
  have room : (rulesD R).length < 16777216 := by
    rw [rulesD_len]
    omega
  refine ⟨trivial, chD zn, ezn, chD L[0], a0, chD L[0], a0, chD zl, ezl, (by decide : (1 + 1 : Nat) ≤ 16777216), (by decide : (4 : Nat) ≤ 16777216), _, 0, rfl, rfl, rfl, b, _, _, rfl, bo, (fun n e => nomatch e), rfl, by simp, (by decide : (4 : Nat) ≤ 1000000), fun x b1 mx bo1 => ?_⟩
  simp only [List.mem_cons, List.not_mem_nil, or_false] at mx
  rcases mx with rfl | rfl | rfl | rfl
  · exact ⟨(by decide : (2 : Nat) ≤ 16777216), room, by decide, by decide, second b1 (zn, []) bo1 (go b1 [] bo1 t0 (by simp))⟩
  · exact ⟨(by decide : (2 : Nat) ≤ 16777216), room, by decide, by decide, second b1 (zn, []) bo1 (go b1 [] bo1 t0 (by simp))⟩
  · exact ⟨(by decide : (2 : Nat) ≤ 16777216), room, by decide, by decide, second b1 (zn, [L[0]]) bo1 (go b1 _ bo1 (t1 ml0) (by simp))⟩
  · exact ⟨(by decide : (2 : Nat) ≤ 16777216), room, by decide, by decide, second b1 (zn, [L[0], zl]) bo1 (go b1 _ bo1 (t2 ml0 (sl _ mzl)) (by simp))⟩
theorem v_row {ds : List D} {P : T → List D → Prop} (h : spRow ds P) : bodySp [.mu, .rd, .rd] 6 (w_law_in_a_row spPick spDraw) ds P := by
  obtain ⟨b, N, L, rfl, bo, hN, n2, lN, hL, nL, lL, hP⟩ := h
  have e : rng 0 (((chs N).length : Int) - 1).toNat = (List.range (N.length - 1)).map fun k => D.int ((k : Nat) : Int) := by
    rw [chs_len, show ((N.length : Int) - 1) = ((N.length - 1 : Nat) : Int) by omega]
    exact rng_nat
  refine ⟨by decide, _, rfl, ⟨by rw [chs_len]; omega, by rw [chs_len]; omega⟩, loop_eq e ?_⟩
  refine ar_loop hN (by omega) hL nL (by omega) _ b [] _ _ (fun k m => by simp at m; omega) bo (by simp) (by simp; omega) fun b' R' x4 x5 bo' hr' l' => ?_
  simp at l'
  exact ar_end hN n2 hL nL bo' hr' (by omega) fun b2 R2 l2 hr2 bo2 => hP R2 b2 (by omega) hr2 bo2
end K49
namespace K49
open PySem PySem.Spec PyProof.Rows L2 VS K49M

theorem okRs_of {R : List Rule} (h : ∀ r ∈ R, RuleOk 10 r) (l : R.length ≤ 100) : okRs R := ⟨l, fun r m => (h r m).okR (by decide)⟩
theorem ne_cons {R : List Rule} (h : R ≠ []) : ∃ r T, R = r :: T := by
  cases R with
  | nil => exact absurd rfl h
  | cons r T => exact ⟨r, T, rfl⟩
/-- the frame behind the names, the letters, the number -/
def lwRho (ns : List Int) (b : D) (N L : List Nat) (x2 x3 : Sl) (many : Int) (x5 x6 x7 : Sl) : Rho := [.fz (.scr ns), .own b, x2, x3, .fz (.int many), x5, x6, x7]
theorem boxOk_own {b : D} (h : BoxOk b) : ∃ l, b = .lst l := by
  obtain ⟨l, i, _, rfl⟩ := h
  exact ⟨_, rfl⟩
def okAll (R : List Rule) : Prop := R ≠ [] ∧ R.length ≤ 100 ∧ ∀ r ∈ R, RuleOk 10 r
theorem asked_at {R : List Rule} {P : T → List D → Prop} (h : okAll R) (hP : P (.val (.bl true)) []) : spAsked [.lst (rulesD R)] P := by
  obtain ⟨r, T, rfl⟩ := ne_cons h.1
  exact ⟨r, T, rfl, okRs_of h.2.2 h.2.1, hP⟩
/-- the last statement: three rules by hand -/
def wLwE : WS := wRet (wCall [.rd] spAsked (wCons (wLst (wCons (wTup (wCons (wBin ixD (wVar 2) (wC (.int 0))) (wCons (wBin addD (wBin ixD (wVar 3) (wC (.int 0))) (wBin ixD (wVar 2) (wC (.int 1)))) wNil))) (wCons (wTup (wCons (wBin ixD (wVar 2) (wC (.int 1))) (wCons (wBin ixD (wVar 2) (wC (.int 0))) wNil))) (wCons (wTup (wCons (wBin ixD (wVar 2) (wC (.int 0))) (wCons (wC (.str [])) wNil))) wNil)))) wNil))
def lwRho2 (ns : List Int) (b : D) (N L : List Nat) (many : Int) (x5 x6 x7 : Sl) : Rho := [.fz (.scr ns), .own b, .fz (.lst (chs N)), .fz (.lst (chs L)), .fz (.int many), x5, x6, x7]
theorem lw_e {ns : List Int} {b : D} {N L : List Nat} {many : Int} {x5 x6 x7 : Sl} {P : WEnds} (hN : Ups N) (n2 : 2 ≤ N.length) (hL : Lows L) (nL : L ≠ []) (hP : P.rt (.val (.bl true)) (lwRho2 ns b N L many x5 x6 x7)) : wLwE P (lwRho2 ns b N L many x5 x6 x7) := by
  have l0 : 0 < L.length := List.length_pos_iff.mpr nL
  have a0 := chs_get (N := L) (k := 0) l0
  have n0 := chs_get (N := N) (k := 0) (by omega)
  have n1 := chs_get (N := N) (k := 1) (by omega)
  have u0 := hN _ (List.getElem_mem (show 0 < N.length by omega))
  have u1 := hN _ (List.getElem_mem (show 1 < N.length by omega))
  have w0 := hL _ (List.getElem_mem l0)
  refine ⟨chD N[0], n0, chD L[0], a0, chD N[1], n1, (by decide : (1 + 1 : Nat) ≤ 16777216), (by decide : (2 : Nat) ≤ 16777216), chD N[1], n1, chD N[0], n0, (by decide : (2 : Nat) ≤ 16777216), chD N[0], n0, (by decide : (2 : Nat) ≤ 16777216), (by decide : (3 : Nat) ≤ 16777216), _, rfl, ?_⟩
  refine asked_at (R := [(N[0], [L[0], N[1]]), (N[1], [N[0]]), (N[0], [])]) ⟨by simp, by simp, fun r m => ?_⟩ hP
  simp only [List.mem_cons, List.not_mem_nil, or_false] at m
  rcases m with rfl | rfl | rfl
  · exact ⟨by simp, u0, fun c m => by
      simp at m
      rcases m with rfl | rfl
      · exact .inr w0
      · exact .inl u1⟩
  · exact ⟨by simp, u1, fun c m => by
      simp at m
      subst m
      exact .inl u0⟩
  · exact ⟨by simp, u0, fun c m => by simp at m⟩
/-- the signs' loop -/
theorem sign_loop {ns : List Int} {b : D} {N L : List Nat} {many : Int} {x5 x6 : Sl} {P : WEnds} : ∀ (cs : List Nat) (x7 : Sl), (∀ c ∈ cs, sign c) → (∀ x7, P.nx (lwRho2 ns b N L many x5 x6 x7)) →
    wLoop (wgN 7) (wIfS (wNot (wTest (wCall [.rd, .rd] same2 (wCons (wCall [.rd] spIsName (wCons (wVar 7) wNil)) (wCons (wMeth "str" (strBlD fun l => Txt.isupper ⟨l.toArray⟩) (wVar 7) wNil) wNil))))) (wRet (wC (.bl false))) wNx) P (chs cs) (lwRho2 ns b N L many x5 x6 x7)
  | [], x7, _, h => h x7
  | c :: cs, x7, hc, h => by
    have up := upper_sign (hc c List.mem_cons_self)
    have go := sign_loop (ns := ns) (b := b) (N := N) (L := L) (many := many) (x5 := x5) (x6 := x6) (P := P) cs (.fz (chD c)) (fun c' m => hc c' (List.mem_cons_of_mem _ m)) h
    refine ⟨_, rfl, c, rfl, rfl, _, rfl, .bl (isNm c), ?_, pl_bl _ _, br_f rfl go⟩
    show [D.bl (isNm c), D.bl (Txt.isupper ⟨[c].toArray⟩)] = _
    rw [up]
end K49
set_option maxHeartbeats 4000000
namespace K49
open PySem PySem.Spec PyProof.Rows L2 VS K49M

theorem rulesD_ins (R : List Rule) (r : Rule) (k : Nat) : (rulesD R).take k ++ [rlD r] ++ (rulesD R).drop k = rulesD (R.take k ++ [r] ++ R.drop k) := by simp [rulesD]
theorem rulesD_erase (R : List Rule) (k : Nat) : (rulesD R).eraseIdx k = rulesD (R.eraseIdx k) := by
  unfold rulesD
  induction R generalizing k with
  | nil => rfl
  | cons a l ih =>
    cases k with
    | zero => rfl
    | succ k => exact congrArg (rlD a :: ·) (ih k)
def lwR (ns : List Int) (b : D) (N L : List Nat) (many : Int) (R : List Rule) (x6 x7 : Sl) : Rho := lwRho2 ns b N L many (.own (.lst (rulesD R))) x6 x7
theorem ins_ok {R : List Rule} {r : Rule} {k : Nat} (h : ∀ x ∈ R, RuleOk 10 x) (hr : RuleOk 10 r) : ∀ x ∈ R.take k ++ [r] ++ R.drop k, RuleOk 10 x := fun x m => by
  simp only [List.mem_append, List.mem_cons, List.not_mem_nil, or_false] at m
  rcases m with (m | rfl) | m
  · exact h x (List.mem_of_mem_take m)
  · exact hr
  · exact h x (List.mem_of_mem_drop m)
theorem ins_loop {ns : List Int} {N L : List Nat} {many : Int} {x7 : Sl} {P : WEnds} : ∀ (S : List Rule) (b : D) (R : List Rule) (x6 : Sl), BoxOk b → (∀ x ∈ R, RuleOk 10 x) → (∀ x ∈ S, RuleOk 10 x) → 3 ≤ R.length → R.length + S.length ≤ 100 →
    (∀ b' R' x6, BoxOk b' → (∀ x ∈ R', RuleOk 10 x) → 3 ≤ R'.length → R'.length ≤ R.length + S.length → P.nx (lwR ns b' N L many R' x6 x7)) →
    wLoop (wgN 6) (wDrop (wMut 5 insertD (wCons (wBin addD (wC (.int 1)) (wCallM 0 [.mu, .rd] spDraw (wCons (wVar 1) (wCons (wCB lenD (wCons (wVar 5) wNil)) wNil)))) (wCons (wVar 6) wNil)))) P (rulesD S) (lwR ns b N L many R x6 x7)
  | [], b, R, x6, bo, hr, _, h3, hl, h => h b R x6 bo hr h3 (by simp)
  | r :: S, b, R, x6, bo, hr, hs, h3, hl, h => by
    simp only [List.length_cons] at hl
    refine ⟨trivial, _, 1, rfl, rfl, rfl, b, ((rulesD R).length : Int), rfl, bo, by rw [rulesD_len]; omega, fun n b1 n0 n1 bo1 => ?_⟩
    rw [rulesD_len] at n1
    have ok := ins_ok (k := (1 + n).toNat) hr (hs r List.mem_cons_self)
    have go := ins_loop (ns := ns) (N := N) (L := L) (many := many) (x7 := x7) (P := P) S b1 (R.take (1 + n).toNat ++ [r] ++ R.drop (1 + n).toNat) (.fz (rlD r)) bo1 ok (fun x m => hs x (List.mem_cons_of_mem _ m)) (by simp; omega) (by simp; omega) fun b' R' x6 bo' hr' h3' l' => h b' R' x6 bo' hr' h3' (by simp at l' ⊢; omega)
    rw [lwR, ← rulesD_ins] at go
    exact ⟨by rw [rulesD_len]; omega, by omega, by omega, go⟩
def wLwD : WS := wSeq (wIfS (wNot (wTest (wCall [.rd] spAsked (wCons (wVar 5) wNil)))) (wRet (wC (.bl false))) wNx)
          (wSeq (wFor (wiSeq (wBin addD (wBin addD (wVar 2) (wVar 3)) (wLst (wCons (wC (.str [65])) (wCons (wC (.str [90])) (wCons (wC (.str [97])) (wCons (wC (.str [122])) wNil))))))) (wgN 7) (wIfS (wNot (wTest (wCall [.rd, .rd] same2 (wCons (wCall [.rd] spIsName (wCons (wVar 7) wNil)) (wCons (wMeth "str" (strBlD fun l => Txt.isupper ⟨l.toArray⟩) (wVar 7) wNil) wNil))))) (wRet (wC (.bl false))) wNx))
          wLwE)
theorem lw_d {ns : List Int} {b : D} {N L : List Nat} {many : Int} {R : List Rule} {x6 x7 : Sl} {P : WEnds} (hN : Ups N) (n2 : 2 ≤ N.length) (lN : N.length ≤ 100) (hL : Lows L) (nL : L ≠ []) (lL : L.length ≤ 100) (ok : okAll R) (hP : ∀ x7, P.rt (.val (.bl true)) (lwR ns b N L many R x6 x7)) : wLwD P (lwR ns b N L many R x6 x7) := by
  refine ⟨_, rfl, asked_at ok (br_f rfl ?_)⟩
  have e : chs N ++ chs L ++ [chD 65, chD 90, chD 97, chD 122] = chs (N ++ L ++ [65, 90, 97, 122]) := by simp [chs]
  refine ⟨by rw [chs_len, chs_len]; omega, (by decide : (4 : Nat) ≤ 16777216), by rw [List.length_append, chs_len, chs_len]; show _ + 4 ≤ _; omega, _, _, rfl, rfl, loop_eq e ?_⟩
  refine sign_loop (N ++ L ++ [65, 90, 97, 122]) x7 (fun c m => ?_) fun x7 => lw_e hN n2 hL nL (hP x7)
  simp only [List.mem_append, List.mem_cons, List.not_mem_nil, or_false] at m
  rcases m with (m | m) | rfl | rfl | rfl | rfl
  · exact .inl (hN c m)
  · exact .inr (hL c m)
  · exact .inl ⟨by decide, by decide⟩
  · exact .inl ⟨by decide, by decide⟩
  · exact .inr ⟨by decide, by decide⟩
  · exact .inr ⟨by decide, by decide⟩
def wLwC : WS := wSeq (wIfS (wTest (wBin eqD (wCallM 0 [.mu, .rd] spDraw (wCons (wVar 1) (wCons (wC (.int 3)) wNil))) (wC (.int 0)))) (wDrop (wMut 5 popD (wCons (wCallM 0 [.mu, .rd] spDraw (wCons (wVar 1) (wCons (wCB lenD (wCons (wVar 5) wNil)) wNil))) wNil))) wNx) wLwD
theorem lw_c {ns : List Int} {b : D} {N L : List Nat} {many : Int} {R : List Rule} {x6 x7 : Sl} {P : WEnds} (hN : Ups N) (n2 : 2 ≤ N.length) (lN : N.length ≤ 100) (hL : Lows L) (nL : L ≠ []) (lL : L.length ≤ 100) (bo : BoxOk b) (hr : ∀ x ∈ R, RuleOk 10 x) (h3 : 3 ≤ R.length) (hl : R.length ≤ 100)
    (hP : ∀ b R x7, P.rt (.val (.bl true)) (lwR ns b N L many R x6 x7)) : wLwC P (lwR ns b N L many R x6 x7) := by
  have ne : ∀ {S : List Rule}, 2 ≤ S.length → S ≠ [] := fun h e => by rw [e] at h; simp at h
  refine ⟨_, 1, rfl, rfl, rfl, b, 3, rfl, bo, by decide, fun n b1 n0 n1 bo1 => ⟨rfl, rfl, fun q => ?_, fun q => ?_⟩⟩
  · refine ⟨trivial, _, 1, rfl, rfl, rfl, b1, ((rulesD R).length : Int), rfl, bo1, by rw [rulesD_len]; omega, fun k b2 k0 k1 bo2 => ?_⟩
    rw [rulesD_len] at k1
    obtain ⟨j, rfl⟩ : ∃ j : Nat, k = j := ⟨k.toNat, by omega⟩
    have hj : j < R.length := by omega
    have go := lw_d (ns := ns) (b := b2) (N := N) (L := L) (many := many) (R := R.eraseIdx j) (x6 := x6) (x7 := x7) (P := P) hN n2 lN hL nL lL ⟨ne (by rw [List.length_eraseIdx]; split <;> omega), by rw [List.length_eraseIdx]; split <;> omega, fun x m => hr x (List.mem_of_mem_eraseIdx m)⟩ (hP b2 _)
    rw [lwR, ← rulesD_erase] at go
    exact ⟨by omega, by omega, j, rlD R[j], ixN_at (by rw [rulesD_len]; exact hj), by simp [rulesD, hj], go⟩
  · exact lw_d hN n2 lN hL nL lL ⟨ne (by omega), hl, hr⟩ (hP b1 R)
def wLwB : WS := wSeq (wAsg 5 (wCallM 0 [.mu, .rd, .rd] spRow (wCons (wVar 1) (wCons (wVar 2) (wCons (wVar 3) wNil)))))
          (wSeq (wFor (wiSeq (wCallM 0 [.mu, .fz, .fz, .rd, .rd] spRules (wCons (wVar 1) (wCons (wBin addD (wVar 2) (wCallM 0 [.mu, .rd] spNm (wCons (wVar 1) (wCons (wC (.int 1)) wNil)))) (wCons (wVar 3) (wCons (wCallM 0 [.mu, .rd] spDraw (wCons (wVar 1) (wCons (wC (.int 3)) wNil))) (wCons (wC (.int 3)) wNil))))))) (wgN 6) (wDrop (wMut 5 insertD (wCons (wBin addD (wC (.int 1)) (wCallM 0 [.mu, .rd] spDraw (wCons (wVar 1) (wCons (wCB lenD (wCons (wVar 5) wNil)) wNil)))) (wCons (wVar 6) wNil)))))
          wLwC)
theorem lw_b {ns : List Int} {b : D} {N L : List Nat} {many : Int} {x5 x6 x7 : Sl} {P : WEnds} (hN : Ups N) (n2 : 2 ≤ N.length) (lN : N.length ≤ 20) (hL : Lows L) (nL : L ≠ []) (lL : L.length ≤ 20) (bo : BoxOk b)
    (hP : ∀ b R x6 x7, P.rt (.val (.bl true)) (lwR ns b N L many R x6 x7)) : wLwB P (lwRho2 ns b N L many x5 x6 x7) := by
  have nN : N ≠ [] := fun e => by rw [e] at n2; simp at n2
  refine ⟨_, 1, rfl, rfl, rfl, b, N, L, rfl, bo, hN, n2, lN, hL, nL, lL, fun R b1 lR hr bo1 => ?_⟩
  refine ⟨_, 1, rfl, rfl, rfl, b1, 1, rfl, bo1, by decide, by decide, fun N1 b2 hN1 lN1 bo2 => ?_⟩
  refine ⟨by rw [chs_len, chs_len]; omega, _, 1, rfl, rfl, rfl, b2, 3, rfl, bo2, by decide, fun n b3 n0 n1 bo3 => ?_⟩
  rw [chs_app]
  refine ⟨_, 1, rfl, rfl, rfl, b3, N ++ N1, L, n, 3, rfl, bo3, fun c m => ?_, by simp [nN], by simp; omega, hL, nL, by omega, n0, by omega, by decide, by decide, fun S b4 lS hS bo4 => ?_⟩
  · rcases List.mem_append.mp m with m | m
    · exact hN c m
    · exact hN1 c m
  · refine ⟨_, _, rfl, rfl, ins_loop (ns := ns) (N := N) (L := L) (many := many) (x7 := x7) S b4 R x6 bo4 hr hS (by omega) (by omega) fun b5 R5 x6 bo5 hr5 h3 h5 => ?_⟩
    exact lw_c hN n2 (by omega) hL nL (by omega) bo5 hr5 h3 (by omega) fun b R x7 => hP b R x6 x7
def spLaw : DSp := fun ds P => ∃ ns, ds = [.scr ns] ∧ P (.val (.bl true)) []
def wLwA : WS := wSeq (wAsg 2 (wCallM 0 [.mu, .rd] spNm (wCons (wVar 1) (wCons (wBin addD (wC (.int 2)) (wCallM 0 [.mu, .rd] spDraw (wCons (wVar 1) (wCons (wC (.int 4)) wNil)))) wNil))))
          (wSeq (wAsg 3 (wCallM 0 [.mu, .rd] spLt (wCons (wVar 1) (wCons (wBin addD (wC (.int 1)) (wCallM 0 [.mu, .rd] spDraw (wCons (wVar 1) (wCons (wC (.int 3)) wNil)))) wNil))))
          (wSeq (wAsg 4 (wCallM 0 [.mu, .rd] spPick (wCons (wVar 1) (wCons (wLst (wCons (wC (.int 5)) (wCons (wC (.int 7)) (wCons (wC (.int 8)) (wCons (wC (.int 6)) (wCons (wC (.int 4)) (wCons (wC (.int 3)) (wCons (wC (.int 2)) (wCons (wC (.int 1)) wNil))))))))) wNil))))
          (wSeq (wIfS (wNot (wTest (wCall [.rd] spAsked (wCons (wCallM 0 [.mu, .fz, .fz, .rd, .rd] spRules (wCons (wVar 1) (wCons (wVar 2) (wCons (wVar 3) (wCons (wVar 4) (wCons (wCallM 0 [.mu, .rd] spPick (wCons (wVar 1) (wCons (wLst (wCons (wC (.int 2)) (wCons (wC (.int 3)) (wCons (wC (.int 4)) (wCons (wC (.int 1)) wNil))))) wNil))) wNil)))))) wNil)))) (wRet (wC (.bl false))) wNx)
          (wSeq (wAsg 5 (wCallM 0 [.mu, .rd, .rd] spRow (wCons (wVar 1) (wCons (wVar 2) (wCons (wVar 3) wNil)))))
          (wSeq (wFor (wiSeq (wCallM 0 [.mu, .fz, .fz, .rd, .rd] spRules (wCons (wVar 1) (wCons (wBin addD (wVar 2) (wCallM 0 [.mu, .rd] spNm (wCons (wVar 1) (wCons (wC (.int 1)) wNil)))) (wCons (wVar 3) (wCons (wCallM 0 [.mu, .rd] spDraw (wCons (wVar 1) (wCons (wC (.int 3)) wNil))) (wCons (wC (.int 3)) wNil))))))) (wgN 6) (wDrop (wMut 5 insertD (wCons (wBin addD (wC (.int 1)) (wCallM 0 [.mu, .rd] spDraw (wCons (wVar 1) (wCons (wCB lenD (wCons (wVar 5) wNil)) wNil)))) (wCons (wVar 6) wNil)))))
          (wSeq (wIfS (wTest (wBin eqD (wCallM 0 [.mu, .rd] spDraw (wCons (wVar 1) (wCons (wC (.int 3)) wNil))) (wC (.int 0)))) (wDrop (wMut 5 popD (wCons (wCallM 0 [.mu, .rd] spDraw (wCons (wVar 1) (wCons (wCB lenD (wCons (wVar 5) wNil)) wNil))) wNil))) wNx)
          (wSeq (wIfS (wNot (wTest (wCall [.rd] spAsked (wCons (wVar 5) wNil)))) (wRet (wC (.bl false))) wNx)
          (wSeq (wFor (wiSeq (wBin addD (wBin addD (wVar 2) (wVar 3)) (wLst (wCons (wC (.str [65])) (wCons (wC (.str [90])) (wCons (wC (.str [97])) (wCons (wC (.str [122])) wNil))))))) (wgN 7) (wIfS (wNot (wTest (wCall [.rd, .rd] same2 (wCons (wCall [.rd] spIsName (wCons (wVar 7) wNil)) (wCons (wMeth "str" (strBlD fun l => Txt.isupper ⟨l.toArray⟩) (wVar 7) wNil) wNil))))) (wRet (wC (.bl false))) wNx))
          (wRet (wCall [.rd] spAsked (wCons (wLst (wCons (wTup (wCons (wBin ixD (wVar 2) (wC (.int 0))) (wCons (wBin addD (wBin ixD (wVar 3) (wC (.int 0))) (wBin ixD (wVar 2) (wC (.int 1)))) wNil))) (wCons (wTup (wCons (wBin ixD (wVar 2) (wC (.int 1))) (wCons (wBin ixD (wVar 2) (wC (.int 0))) wNil))) (wCons (wTup (wCons (wBin ixD (wVar 2) (wC (.int 0))) (wCons (wC (.str [])) wNil))) wNil)))) wNil)))))))))))
theorem lw_a {ns : List Int} {b0 : D} {P : T → List D → Prop} (bo0 : BoxOk b0) (hP : P (.val (.bl true)) []) : wLwA ⟨fun ρ => exitP [.rd] P (.val .non) ρ, fun t ρ => exitP [.rd] P t ρ, fun _ => False, fun _ => False⟩ [.fz (.scr ns), .own b0, .no, .no, .no, .no, .no, .no] := by
  refine ⟨_, 1, rfl, rfl, rfl, b0, 4, rfl, bo0, by decide, fun n b1 n0 n1 bo1 => ?_⟩
  refine ⟨_, 1, rfl, rfl, rfl, b1, 2 + n, rfl, bo1, by omega, by omega, fun N b2 hN lN bo2 => ?_⟩
  refine ⟨_, 1, rfl, rfl, rfl, b2, 3, rfl, bo2, by decide, fun m b3 m0 m1 bo3 => ?_⟩
  refine ⟨_, 1, rfl, rfl, rfl, b3, 1 + m, rfl, bo3, by omega, by omega, fun L b4 hL lL bo4 => ?_⟩
  have n2 : 2 ≤ N.length := by omega
  have nN : N ≠ [] := fun e => by rw [e] at n2; simp at n2
  have nL : L ≠ [] := fun e => by rw [e] at lL; simp at lL; omega
  have rest : ∀ (many : Int) (b5 : D), 0 ≤ many → many ≤ 20 → BoxOk b5 → _ := fun many b5 k0 k1 bo5 => lw_b (ns := ns) (b := b5) (N := N) (L := L) (many := many) (x5 := .no) (x6 := .no) (x7 := .no) (P := ⟨fun ρ => exitP [.rd] P (.val .non) ρ, fun t ρ => exitP [.rd] P t ρ, fun _ => False, fun _ => False⟩) hN n2 (by omega) hL nL (by omega) bo5 fun _ _ _ _ => hP
  have first : ∀ (many : Int) (b5 : D), 0 < many → many ≤ 20 → BoxOk b5 → wSeq (wIfS (wNot (wTest (wCall [.rd] spAsked (wCons (wCallM 0 [.mu, .fz, .fz, .rd, .rd] spRules (wCons (wVar 1) (wCons (wVar 2) (wCons (wVar 3) (wCons (wVar 4) (wCons (wCallM 0 [.mu, .rd] spPick (wCons (wVar 1) (wCons (wLst (wCons (wC (.int 2)) (wCons (wC (.int 3)) (wCons (wC (.int 4)) (wCons (wC (.int 1)) wNil))))) wNil))) wNil)))))) wNil)))) (wRet (wC (.bl false))) wNx) wLwB ⟨fun ρ => exitP [.rd] P (.val .non) ρ, fun t ρ => exitP [.rd] P t ρ, fun _ => False, fun _ => False⟩
      [.fz (.scr ns), .own b5, .own (.lst (chs N)), .own (.lst (chs L)), .fz (.int many), .no, .no, .no] := fun many b5 k0 k1 bo5 => by
    refine ⟨(by decide : (4 : Nat) ≤ 16777216), _, 1, rfl, rfl, rfl, b5, _, _, rfl, bo5, (fun n e => nomatch e), rfl, by simp, (by decide : (4 : Nat) ≤ 1000000), fun x b6 mx bo6 => ?_⟩
    have go : ∀ (q : Int), 0 ≤ q → q ≤ 10 → x = .int q → _ := fun q q0 q1 ex => (⟨q0, q1, ex⟩ : 0 ≤ q ∧ q ≤ 10 ∧ x = .int q)
    obtain ⟨q, q0, q1, rfl⟩ : ∃ q : Int, 0 ≤ q ∧ q ≤ 10 ∧ x = .int q := by
      simp only [List.mem_cons, List.not_mem_nil, or_false] at mx
      rcases mx with rfl | rfl | rfl | rfl
      · exact ⟨2, by decide, by decide, rfl⟩
      · exact ⟨3, by decide, by decide, rfl⟩
      · exact ⟨4, by decide, by decide, rfl⟩
      · exact ⟨1, by decide, by decide, rfl⟩
    refine ⟨_, 1, rfl, rfl, rfl, b6, N, L, many, q, rfl, bo6, hN, nN, by omega, hL, nL, by omega, by omega, k1, q0, q1, fun R b7 lR hR bo7 => ?_⟩
    have nR : R ≠ [] := fun e => by rw [e] at lR; simp at lR; omega
    refine ⟨_, rfl, asked_at ⟨nR, by omega, hR⟩ (br_f rfl ?_)⟩
    exact rest many b7 (by omega) k1 bo7
  refine ⟨(by decide : (8 : Nat) ≤ 16777216), _, 1, rfl, rfl, rfl, b4, _, _, rfl, bo4, (fun n e => nomatch e), rfl, by simp, (by decide : (8 : Nat) ≤ 1000000), fun x b5 mx bo5 => ?_⟩
  obtain ⟨q, q0, q1, rfl⟩ : ∃ q : Int, 0 < q ∧ q ≤ 20 ∧ x = .int q := by
    simp only [List.mem_cons, List.not_mem_nil, or_false] at mx
    rcases mx with rfl | rfl | rfl | rfl | rfl | rfl | rfl | rfl
    · exact ⟨5, by decide, by decide, rfl⟩
    · exact ⟨7, by decide, by decide, rfl⟩
    · exact ⟨8, by decide, by decide, rfl⟩
    · exact ⟨6, by decide, by decide, rfl⟩
    · exact ⟨4, by decide, by decide, rfl⟩
    · exact ⟨3, by decide, by decide, rfl⟩
    · exact ⟨2, by decide, by decide, rfl⟩
    · exact ⟨1, by decide, by decide, rfl⟩
  exact first q b5 q0 q1 bo5
theorem v_law {ds : List D} {P : T → List D → Prop} (h : spLaw ds P) : bodySp [.rd] 8 (wlaw spDigits spNm spDraw spLt spPick spAsked spRules spRow same2 spIsName) ds P := by
  obtain ⟨ns, rfl, hP⟩ := h
  refine ⟨_, rfl, ns, 0, 16, rfl, by decide, by decide, by decide, by decide, fun l => ⟨(by decide : (2 : Nat) ≤ 16777216), ?_⟩⟩
  exact lw_a (ns := ns) (b0 := .lst [.lst (l.map .int), .int 0]) ⟨l, 0, by decide, rfl⟩ hP
end K49
namespace K49
open PySem PySem.Spec PyProof.Rows L2 VS K49M
theorem all_mk {l : PySem.W.OpenLaw} {w : World} {K : PySem.W.Frag} {h : Heap} {mg : Str → Option Value} {fa : Addr} (X : K.In h) (G : h.Ns mainGlobals mg) (hfa : mg "law" = some (.ref fa))
    {f0 : Addr} {od0 an0 : Option Addr} {sl0 : Array (Option Value)} {oc0 kV0 dc0 pm0 cd0 ct0 : Value}
    {f1 : Addr} {od1 an1 : Option Addr} {sl1 : Array (Option Value)} {oc1 kV1 dc1 pm1 cd1 ct1 : Value}
    {f2 : Addr} {od2 an2 : Option Addr} {sl2 : Array (Option Value)} {oc2 kV2 dc2 pm2 cd2 ct2 : Value}
    {f3 : Addr} {od3 an3 : Option Addr} {sl3 : Array (Option Value)} {oc3 kV3 dc3 pm3 cd3 ct3 : Value}
    {f4 : Addr} {od4 an4 : Option Addr} {sl4 : Array (Option Value)} {oc4 kV4 dc4 pm4 cd4 ct4 : Value}
    {f5 : Addr} {od5 an5 : Option Addr} {sl5 : Array (Option Value)} {oc5 kV5 dc5 pm5 cd5 ct5 : Value}
    {f6 : Addr} {od6 an6 : Option Addr} {sl6 : Array (Option Value)} {oc6 kV6 dc6 pm6 cd6 ct6 : Value}
    {f7 : Addr} {od7 an7 : Option Addr} {sl7 : Array (Option Value)} {oc7 kV7 dc7 pm7 cd7 ct7 : Value}
    {f8 : Addr} {od8 an8 : Option Addr} {sl8 : Array (Option Value)} {oc8 kV8 dc8 pm8 cd8 ct8 : Value}
    {f9 : Addr} {od9 an9 : Option Addr} {sl9 : Array (Option Value)} {oc9 kV9 dc9 pm9 cd9 ct9 : Value}
    {f10 : Addr} {od10 an10 : Option Addr} {sl10 : Array (Option Value)} {oc10 kV10 dc10 pm10 cd10 ct10 : Value}
    {f11 : Addr} {od11 an11 : Option Addr} {sl11 : Array (Option Value)} {oc11 kV11 dc11 pm11 cd11 ct11 : Value}
    {f12 : Addr} {od12 an12 : Option Addr} {sl12 : Array (Option Value)} {oc12 kV12 dc12 pm12 cd12 ct12 : Value}
    {f13 : Addr} {od13 an13 : Option Addr} {sl13 : Array (Option Value)} {oc13 kV13 dc13 pm13 cd13 ct13 : Value}
    {f14 : Addr} {od14 an14 : Option Addr} {sl14 : Array (Option Value)} {oc14 kV14 dc14 pm14 cd14 ct14 : Value}
    {f15 : Addr} {od15 an15 : Option Addr} {sl15 : Array (Option Value)} {oc15 kV15 dc15 pm15 cd15 ct15 : Value}
    {f16 : Addr} {od16 an16 : Option Addr} {sl16 : Array (Option Value)} {oc16 kV16 dc16 pm16 cd16 ct16 : Value}
    {f17 : Addr} {od17 an17 : Option Addr} {sl17 : Array (Option Value)} {oc17 kV17 dc17 pm17 cd17 ct17 : Value}
    {f18 : Addr} {od18 an18 : Option Addr} {sl18 : Array (Option Value)} {oc18 kV18 dc18 pm18 cd18 ct18 : Value}
    {f19 : Addr} {od19 an19 : Option Addr} {sl19 : Array (Option Value)} {oc19 kV19 dc19 pm19 cd19 ct19 : Value}
    {f20 : Addr} {od20 an20 : Option Addr} {sl20 : Array (Option Value)} {oc20 kV20 dc20 pm20 cd20 ct20 : Value}
    {f21 : Addr} {od21 an21 : Option Addr} {sl21 : Array (Option Value)} {oc21 kV21 dc21 pm21 cd21 ct21 : Value}
    {f22 : Addr} {od22 an22 : Option Addr} {sl22 : Array (Option Value)} {oc22 kV22 dc22 pm22 cd22 ct22 : Value}
    (a0 : PySem.W.nsIn K mainGlobals "is_name" = some (some (.ref f0))) (l0 : K.lookup f0 = some ⟨oc0, od0, .func (PySem.W.fnOf "is_name" "is_name" (defArgs sis_name) (defBody sis_name) (defScope sis_name) .none kV0 dc0 pm0 an0 cd0 ct0), sl0⟩) (c0 : PySem.W.codeIn K cd0 "is_name" = true) (k0 : PySem.W.keepIn K (.ref f0) = true)
    (a1 : PySem.W.nsIn K mainGlobals "names_of" = some (some (.ref f1))) (l1 : K.lookup f1 = some ⟨oc1, od1, .func (PySem.W.fnOf "names_of" "names_of" (defArgs snames_of) (defBody snames_of) (defScope snames_of) .none kV1 dc1 pm1 an1 cd1 ct1), sl1⟩) (c1 : PySem.W.codeIn K cd1 "names_of" = true) (k1 : PySem.W.keepIn K (.ref f1) = true)
    (a2 : PySem.W.nsIn K mainGlobals "empty_names" = some (some (.ref f2))) (l2 : K.lookup f2 = some ⟨oc2, od2, .func (PySem.W.fnOf "empty_names" "empty_names" (defArgs sempty_names) (defBody sempty_names) (defScope sempty_names) .none kV2 dc2 pm2 an2 cd2 ct2), sl2⟩) (c2 : PySem.W.codeIn K cd2 "empty_names" = true) (k2 : PySem.W.keepIn K (.ref f2) = true)
    (a3 : PySem.W.nsIn K mainGlobals "useful_names" = some (some (.ref f3))) (l3 : K.lookup f3 = some ⟨oc3, od3, .func (PySem.W.fnOf "useful_names" "useful_names" (defArgs suseful_names) (defBody suseful_names) (defScope suseful_names) .none kV3 dc3 pm3 an3 cd3 ct3), sl3⟩) (c3 : PySem.W.codeIn K cd3 "useful_names" = true) (k3 : PySem.W.keepIn K (.ref f3) = true)
    (a4 : PySem.W.nsIn K mainGlobals "reached_names" = some (some (.ref f4))) (l4 : K.lookup f4 = some ⟨oc4, od4, .func (PySem.W.fnOf "reached_names" "reached_names" (defArgs sreached_names) (defBody sreached_names) (defScope sreached_names) .none kV4 dc4 pm4 an4 cd4 ct4), sl4⟩) (c4 : PySem.W.codeIn K cd4 "reached_names" = true) (k4 : PySem.W.keepIn K (.ref f4) = true)
    (a5 : PySem.W.nsIn K mainGlobals "trimmed_rules" = some (some (.ref f5))) (l5 : K.lookup f5 = some ⟨oc5, od5, .func (PySem.W.fnOf "trimmed_rules" "trimmed_rules" (defArgs strimmed_rules) (defBody strimmed_rules) (defScope strimmed_rules) .none kV5 dc5 pm5 an5 cd5 ct5), sl5⟩) (c5 : PySem.W.codeIn K cd5 "trimmed_rules" = true) (k5 : PySem.W.keepIn K (.ref f5) = true)
    (a6 : PySem.W.nsIn K mainGlobals "makes_any" = some (some (.ref f6))) (l6 : K.lookup f6 = some ⟨oc6, od6, .func (PySem.W.fnOf "makes_any" "makes_any" (defArgs smakes_any) (defBody smakes_any) (defScope smakes_any) .none kV6 dc6 pm6 an6 cd6 ct6), sl6⟩) (c6 : PySem.W.codeIn K cd6 "makes_any" = true) (k6 : PySem.W.keepIn K (.ref f6) = true)
    (a7 : PySem.W.nsIn K mainGlobals "_law_cell" = some (some (.ref f7))) (l7 : K.lookup f7 = some ⟨oc7, od7, .func (PySem.W.fnOf "_law_cell" "_law_cell" (defArgs s_law_cell) (defBody s_law_cell) (defScope s_law_cell) .none kV7 dc7 pm7 an7 cd7 ct7), sl7⟩) (c7 : PySem.W.codeIn K cd7 "_law_cell" = true) (k7 : PySem.W.keepIn K (.ref f7) = true)
    (a8 : PySem.W.nsIn K mainGlobals "_law_digits" = some (some (.ref f8))) (l8 : K.lookup f8 = some ⟨oc8, od8, .func (PySem.W.fnOf "_law_digits" "_law_digits" (defArgs s_law_digits) (defBody s_law_digits) (defScope s_law_digits) .none kV8 dc8 pm8 an8 cd8 ct8), sl8⟩) (c8 : PySem.W.codeIn K cd8 "_law_digits" = true) (k8 : PySem.W.keepIn K (.ref f8) = true)
    (a9 : PySem.W.nsIn K mainGlobals "_law_draw" = some (some (.ref f9))) (l9 : K.lookup f9 = some ⟨oc9, od9, .func (PySem.W.fnOf "_law_draw" "_law_draw" (defArgs s_law_draw) (defBody s_law_draw) (defScope s_law_draw) .none kV9 dc9 pm9 an9 cd9 ct9), sl9⟩) (c9 : PySem.W.codeIn K cd9 "_law_draw" = true) (k9 : PySem.W.keepIn K (.ref f9) = true)
    (a10 : PySem.W.nsIn K mainGlobals "_law_pick" = some (some (.ref f10))) (l10 : K.lookup f10 = some ⟨oc10, od10, .func (PySem.W.fnOf "_law_pick" "_law_pick" (defArgs s_law_pick) (defBody s_law_pick) (defScope s_law_pick) .none kV10 dc10 pm10 an10 cd10 ct10), sl10⟩) (c10 : PySem.W.codeIn K cd10 "_law_pick" = true) (k10 : PySem.W.keepIn K (.ref f10) = true)
    (a11 : PySem.W.nsIn K mainGlobals "_law_some" = some (some (.ref f11))) (l11 : K.lookup f11 = some ⟨oc11, od11, .func (PySem.W.fnOf "_law_some" "_law_some" (defArgs s_law_some) (defBody s_law_some) (defScope s_law_some) .none kV11 dc11 pm11 an11 cd11 ct11), sl11⟩) (c11 : PySem.W.codeIn K cd11 "_law_some" = true) (k11 : PySem.W.keepIn K (.ref f11) = true)
    (a12 : PySem.W.nsIn K mainGlobals "_law_same" = some (some (.ref f12))) (l12 : K.lookup f12 = some ⟨oc12, od12, .func (PySem.W.fnOf "_law_same" "_law_same" (defArgs s_law_same) (defBody s_law_same) (defScope s_law_same) .none kV12 dc12 pm12 an12 cd12 ct12), sl12⟩) (c12 : PySem.W.codeIn K cd12 "_law_same" = true) (k12 : PySem.W.keepIn K (.ref f12) = true)
    (a13 : PySem.W.nsIn K mainGlobals "_law_names" = some (some (.ref f13))) (l13 : K.lookup f13 = some ⟨oc13, od13, .func (PySem.W.fnOf "_law_names" "_law_names" (defArgs s_law_names) (defBody s_law_names) (defScope s_law_names) .none kV13 dc13 pm13 an13 cd13 ct13), sl13⟩) (c13 : PySem.W.codeIn K cd13 "_law_names" = true) (k13 : PySem.W.keepIn K (.ref f13) = true)
    (a14 : PySem.W.nsIn K mainGlobals "_law_letters" = some (some (.ref f14))) (l14 : K.lookup f14 = some ⟨oc14, od14, .func (PySem.W.fnOf "_law_letters" "_law_letters" (defArgs s_law_letters) (defBody s_law_letters) (defScope s_law_letters) .none kV14 dc14 pm14 an14 cd14 ct14), sl14⟩) (c14 : PySem.W.codeIn K cd14 "_law_letters" = true) (k14 : PySem.W.keepIn K (.ref f14) = true)
    (a15 : PySem.W.nsIn K mainGlobals "_law_rules" = some (some (.ref f15))) (l15 : K.lookup f15 = some ⟨oc15, od15, .func (PySem.W.fnOf "_law_rules" "_law_rules" (defArgs s_law_rules) (defBody s_law_rules) (defScope s_law_rules) .none kV15 dc15 pm15 an15 cd15 ct15), sl15⟩) (c15 : PySem.W.codeIn K cd15 "_law_rules" = true) (k15 : PySem.W.keepIn K (.ref f15) = true)
    (a16 : PySem.W.nsIn K mainGlobals "_law_empty" = some (some (.ref f16))) (l16 : K.lookup f16 = some ⟨oc16, od16, .func (PySem.W.fnOf "_law_empty" "_law_empty" (defArgs s_law_empty) (defBody s_law_empty) (defScope s_law_empty) .none kV16 dc16 pm16 an16 cd16 ct16), sl16⟩) (c16 : PySem.W.codeIn K cd16 "_law_empty" = true) (k16 : PySem.W.keepIn K (.ref f16) = true)
    (a17 : PySem.W.nsIn K mainGlobals "_law_useful" = some (some (.ref f17))) (l17 : K.lookup f17 = some ⟨oc17, od17, .func (PySem.W.fnOf "_law_useful" "_law_useful" (defArgs s_law_useful) (defBody s_law_useful) (defScope s_law_useful) .none kV17 dc17 pm17 an17 cd17 ct17), sl17⟩) (c17 : PySem.W.codeIn K cd17 "_law_useful" = true) (k17 : PySem.W.keepIn K (.ref f17) = true)
    (a18 : PySem.W.nsIn K mainGlobals "_law_reached" = some (some (.ref f18))) (l18 : K.lookup f18 = some ⟨oc18, od18, .func (PySem.W.fnOf "_law_reached" "_law_reached" (defArgs s_law_reached) (defBody s_law_reached) (defScope s_law_reached) .none kV18 dc18 pm18 an18 cd18 ct18), sl18⟩) (c18 : PySem.W.codeIn K cd18 "_law_reached" = true) (k18 : PySem.W.keepIn K (.ref f18) = true)
    (a19 : PySem.W.nsIn K mainGlobals "_law_trimmed" = some (some (.ref f19))) (l19 : K.lookup f19 = some ⟨oc19, od19, .func (PySem.W.fnOf "_law_trimmed" "_law_trimmed" (defArgs s_law_trimmed) (defBody s_law_trimmed) (defScope s_law_trimmed) .none kV19 dc19 pm19 an19 cd19 ct19), sl19⟩) (c19 : PySem.W.codeIn K cd19 "_law_trimmed" = true) (k19 : PySem.W.keepIn K (.ref f19) = true)
    (a20 : PySem.W.nsIn K mainGlobals "_law_in_a_row" = some (some (.ref f20))) (l20 : K.lookup f20 = some ⟨oc20, od20, .func (PySem.W.fnOf "_law_in_a_row" "_law_in_a_row" (defArgs s_law_in_a_row) (defBody s_law_in_a_row) (defScope s_law_in_a_row) .none kV20 dc20 pm20 an20 cd20 ct20), sl20⟩) (c20 : PySem.W.codeIn K cd20 "_law_in_a_row" = true) (k20 : PySem.W.keepIn K (.ref f20) = true)
    (a21 : PySem.W.nsIn K mainGlobals "_law_asked" = some (some (.ref f21))) (l21 : K.lookup f21 = some ⟨oc21, od21, .func (PySem.W.fnOf "_law_asked" "_law_asked" (defArgs s_law_asked) (defBody s_law_asked) (defScope s_law_asked) .none kV21 dc21 pm21 an21 cd21 ct21), sl21⟩) (c21 : PySem.W.codeIn K cd21 "_law_asked" = true) (k21 : PySem.W.keepIn K (.ref f21) = true)
    (a22 : PySem.W.nsIn K mainGlobals "law" = some (some (.ref f22))) (l22 : K.lookup f22 = some ⟨oc22, od22, .func (PySem.W.fnOf "law" "law" (defArgs slaw) (defBody slaw) (defScope slaw) .none kV22 dc22 pm22 an22 cd22 ct22), sl22⟩) (c22 : PySem.W.codeIn K cd22 "law" = true) (k22 : PySem.W.keepIn K (.ref f22) = true)
    (z_len : PySem.W.nsIn K mainGlobals "len" = some none)
    (z_int : PySem.W.nsIn K mainGlobals "int" = some none)
    (z_list : PySem.W.nsIn K mainGlobals "list" = some none)
    (z_tuple : PySem.W.nsIn K mainGlobals "tuple" = some none)
    (z_sorted : PySem.W.nsIn K mainGlobals "sorted" = some none)
    (z_range : PySem.W.nsIn K mainGlobals "range" = some none)
    (z_all : PySem.W.nsIn K mainGlobals "all" = some none)
    (z_any : PySem.W.nsIn K mainGlobals "any" = some none)
    (z_sum : PySem.W.nsIn K mainGlobals "sum" = some none)
    (z_max : PySem.W.nsIn K mainGlobals "max" = some none)
    (z_min : PySem.W.nsIn K mainGlobals "min" = some none)
    (z_repr : PySem.W.nsIn K mainGlobals "repr" = some none)
    (z_isinstance : PySem.W.nsIn K mainGlobals "isinstance" = some none)
    (z_str : PySem.W.nsIn K mainGlobals "str" = some none)
    (z_bool : PySem.W.nsIn K mainGlobals "bool" = some none)
    (z_enumerate : PySem.W.nsIn K mainGlobals "enumerate" = some none)
    (z_zip : PySem.W.nsIn K mainGlobals "zip" = some none) :
    ∃ fd : FuncData, (∀ (s : Shared) (v : Value), BindsTo s fd ⟨[v], []⟩ [("script", v)]) ∧ ∀ base : Heap, K.In base → base.Ns mainGlobals mg → FnOk l.prog w K mg base CX0 5 fa fd ["script"] (liftSp K [.rd] spTrue) := by
  have e := hfa.symm.trans (PySem.W.mg_of X G a22)
  cases e
  have B : Bls mg := ⟨PySem.W.mg_none_of X G z_len, PySem.W.mg_none_of X G z_int, PySem.W.mg_none_of X G z_list, PySem.W.mg_none_of X G z_tuple, PySem.W.mg_none_of X G z_sorted, PySem.W.mg_none_of X G z_range, PySem.W.mg_none_of X G z_all, PySem.W.mg_none_of X G z_any, PySem.W.mg_none_of X G z_sum, PySem.W.mg_none_of X G z_max, PySem.W.mg_none_of X G z_min, PySem.W.mg_none_of X G z_repr, PySem.W.mg_none_of X G z_isinstance, PySem.W.mg_none_of X G z_str, PySem.W.mg_none_of X G z_bool, PySem.W.mg_none_of X G z_enumerate, PySem.W.mg_none_of X G z_zip⟩
  have F0 := fun_mk (st := sis_name) l0 c0 k0
  have b0 := F0.binds (ps := ["sign"]) fun _ _ _ _ _ _ us hl => match us, hl with | [_], _ => rfl
  have F1 := fun_mk (st := snames_of) l1 c1 k1
  have b1 := F1.binds (ps := ["rules"]) fun _ _ _ _ _ _ us hl => match us, hl with | [_], _ => rfl
  have F2 := fun_mk (st := sempty_names) l2 c2 k2
  have b2 := F2.binds (ps := ["rules"]) fun _ _ _ _ _ _ us hl => match us, hl with | [_], _ => rfl
  have F3 := fun_mk (st := suseful_names) l3 c3 k3
  have b3 := F3.binds (ps := ["rules"]) fun _ _ _ _ _ _ us hl => match us, hl with | [_], _ => rfl
  have F4 := fun_mk (st := sreached_names) l4 c4 k4
  have b4 := F4.binds (ps := ["rules"]) fun _ _ _ _ _ _ us hl => match us, hl with | [_], _ => rfl
  have F5 := fun_mk (st := strimmed_rules) l5 c5 k5
  have b5 := F5.binds (ps := ["rules"]) fun _ _ _ _ _ _ us hl => match us, hl with | [_], _ => rfl
  have F6 := fun_mk (st := smakes_any) l6 c6 k6
  have b6 := F6.binds (ps := ["rules"]) fun _ _ _ _ _ _ us hl => match us, hl with | [_], _ => rfl
  have F7 := fun_mk (st := s_law_cell) l7 c7 k7
  have b7 := F7.binds (ps := ["script", "k"]) fun _ _ _ _ _ _ us hl => match us, hl with | [_, _], _ => rfl
  have F8 := fun_mk (st := s_law_digits) l8 c8 k8
  have b8 := F8.binds (ps := ["script", "first", "last"]) fun _ _ _ _ _ _ us hl => match us, hl with | [_, _, _], _ => rfl
  have F9 := fun_mk (st := s_law_draw) l9 c9 k9
  have b9 := F9.binds (ps := ["box", "many"]) fun _ _ _ _ _ _ us hl => match us, hl with | [_, _], _ => rfl
  have F10 := fun_mk (st := s_law_pick) l10 c10 k10
  have b10 := F10.binds (ps := ["box", "row"]) fun _ _ _ _ _ _ us hl => match us, hl with | [_, _], _ => rfl
  have F11 := fun_mk (st := s_law_some) l11 c11 k11
  have b11 := F11.binds (ps := ["box", "row", "many"]) fun _ _ _ _ _ _ us hl => match us, hl with | [_, _, _], _ => rfl
  have F12 := fun_mk (st := s_law_same) l12 c12 k12
  have b12 := F12.binds (ps := ["told", "due"]) fun _ _ _ _ _ _ us hl => match us, hl with | [_, _], _ => rfl
  have F13 := fun_mk (st := s_law_names) l13 c13 k13
  have b13 := F13.binds (ps := ["box", "many"]) fun _ _ _ _ _ _ us hl => match us, hl with | [_, _], _ => rfl
  have F14 := fun_mk (st := s_law_letters) l14 c14 k14
  have b14 := F14.binds (ps := ["box", "many"]) fun _ _ _ _ _ _ us hl => match us, hl with | [_, _], _ => rfl
  have F15 := fun_mk (st := s_law_rules) l15 c15 k15
  have b15 := F15.binds (ps := ["box", "names", "letters", "many", "longest"]) fun _ _ _ _ _ _ us hl => match us, hl with | [_, _, _, _, _], _ => rfl
  have F16 := fun_mk (st := s_law_empty) l16 c16 k16
  have b16 := F16.binds (ps := ["rules"]) fun _ _ _ _ _ _ us hl => match us, hl with | [_], _ => rfl
  have F17 := fun_mk (st := s_law_useful) l17 c17 k17
  have b17 := F17.binds (ps := ["rules"]) fun _ _ _ _ _ _ us hl => match us, hl with | [_], _ => rfl
  have F18 := fun_mk (st := s_law_reached) l18 c18 k18
  have b18 := F18.binds (ps := ["rules", "start"]) fun _ _ _ _ _ _ us hl => match us, hl with | [_, _], _ => rfl
  have F19 := fun_mk (st := s_law_trimmed) l19 c19 k19
  have b19 := F19.binds (ps := ["rules"]) fun _ _ _ _ _ _ us hl => match us, hl with | [_], _ => rfl
  have F20 := fun_mk (st := s_law_in_a_row) l20 c20 k20
  have b20 := F20.binds (ps := ["box", "names", "letters"]) fun _ _ _ _ _ _ us hl => match us, hl with | [_, _, _], _ => rfl
  have F21 := fun_mk (st := s_law_asked) l21 c21 k21
  have b21 := F21.binds (ps := ["rules"]) fun _ _ _ _ _ _ us hl => match us, hl with | [_], _ => rfl
  have F22 := fun_mk (st := slaw) l22 c22 k22
  have b22 := F22.binds (ps := ["script"]) fun _ _ _ _ _ _ us hl => match us, hl with | [_], _ => rfl
  refine ⟨PySem.W.fnOf "law" "law" (defArgs slaw) (defBody slaw) (defScope slaw) .none kV22 dc22 pm22 an22 cd22 ct22, fun s v => .of_eq rfl, fun base _ _ => ?_⟩
  have D_cell : Dn l.prog w K mg base 1 "_law_cell" [.rd, .rd] spCell := (ok_law_cell (k := 0) B F7 (PySem.W.mg_of X G a7) b7).imp fun ds Q h => v_cell h
  have D_digits : Dn l.prog w K mg base 2 "_law_digits" [.rd, .rd, .rd] spDigits := (ok_law_digits (k := 1) B F8 (PySem.W.mg_of X G a8) b8 D_cell).imp fun ds Q h => v_digits h
  have D_draw : Dn l.prog w K mg base 1 "_law_draw" [.mu, .rd] spDraw := (ok_law_draw (k := 0) B F9 (PySem.W.mg_of X G a9) b9).imp fun ds Q h => v_draw h
  have D_pick : Dn l.prog w K mg base 2 "_law_pick" [.mu, .rd] spPick := (ok_law_pick (k := 1) B F10 (PySem.W.mg_of X G a10) b10 D_draw).imp fun ds Q h => v_pick h
  have D_some : Dn l.prog w K mg base 2 "_law_some" [.mu, .rd, .rd] spSome := (ok_law_some (k := 1) B F11 (PySem.W.mg_of X G a11) b11 D_draw).imp fun ds Q h => v_some h
  have D_same0 : Dn l.prog w K mg base 1 "_law_same" [.rd, .rd] (spSame 0) := (ok_law_same (k := 0) B F12 (PySem.W.mg_of X G a12) b12 (dn_void (PySem.W.mg_of X G a12) k12 b12 [.rd, .rd])).imp fun ds Q h => v_same (n := 0) _ (fun m e => nomatch e) h
  have D_same1 : Dn l.prog w K mg base 2 "_law_same" [.rd, .rd] (spSame 1) := (ok_law_same (k := 1) B F12 (PySem.W.mg_of X G a12) b12 D_same0).imp fun ds Q h => v_same (n := 1) _ (fun m e => by cases e; rfl) h
  have D_same : Dn l.prog w K mg base 3 "_law_same" [.rd, .rd] same2 := (ok_law_same (k := 2) B F12 (PySem.W.mg_of X G a12) b12 D_same1).imp fun ds Q h => v_same (n := 2) _ (fun m e => by cases e; rfl) h
  have D_isn : Dn l.prog w K mg base 1 "is_name" [.rd] spIsName := (okis_name (k := 0) B F0 (PySem.W.mg_of X G a0) b0).imp fun ds Q h => v_isname h
  have D_nof : Dn l.prog w K mg base 1 "names_of" [.rd] spNames := (oknames_of (k := 0) B F1 (PySem.W.mg_of X G a1) b1).imp fun ds Q h => v_names h
  have D_emp : Dn l.prog w K mg base 1 "empty_names" [.rd] (spClosP okE) := (okempty_names (k := 0) B F2 (PySem.W.mg_of X G a2) b2).imp fun ds Q h => v_pempty h
  have D_use : Dn l.prog w K mg base 2 "useful_names" [.rd] (spClosP okU) := (okuseful_names (k := 1) B F3 (PySem.W.mg_of X G a3) b3 D_isn).imp fun ds Q h => v_puseful h
  have D_rea : Dn l.prog w K mg base 2 "reached_names" [.rd] spReachP := (okreached_names (k := 1) B F4 (PySem.W.mg_of X G a4) b4 D_isn).imp fun ds Q h => v_preached h
  have D_tri : Dn l.prog w K mg base 3 "trimmed_rules" [.rd] spTrimP := (oktrimmed_rules (k := 2) B F5 (PySem.W.mg_of X G a5) b5 D_use (D_isn.mono (by decide)) D_rea).imp fun ds Q h => v_ptrimmed h
  have D_any : Dn l.prog w K mg base 3 "makes_any" [.rd] spAny := (okmakes_any (k := 2) B F6 (PySem.W.mg_of X G a6) b6 D_use).imp fun ds Q h => v_any h
  have D_nm : Dn l.prog w K mg base 3 "_law_names" [.mu, .rd] spNm := (ok_law_names (k := 2) B F13 (PySem.W.mg_of X G a13) b13 D_some).imp fun ds Q h => v_nm h
  have D_lt : Dn l.prog w K mg base 3 "_law_letters" [.mu, .rd] spLt := (ok_law_letters (k := 2) B F14 (PySem.W.mg_of X G a14) b14 D_some).imp fun ds Q h => v_lt h
  have D_rul : Dn l.prog w K mg base 3 "_law_rules" [.mu, .fz, .fz, .rd, .rd] spRules := (ok_law_rules (k := 2) B F15 (PySem.W.mg_of X G a15) b15 (D_draw.mono (by decide)) D_pick).imp fun ds Q h => v_rules h
  have D_lem : Dn l.prog w K mg base 1 "_law_empty" [.rd] (spClosL okE) := (ok_law_empty (k := 0) B F16 (PySem.W.mg_of X G a16) b16).imp fun ds Q h => v_lempty h
  have D_lus : Dn l.prog w K mg base 1 "_law_useful" [.rd] (spClosL okU) := (ok_law_useful (k := 0) B F17 (PySem.W.mg_of X G a17) b17).imp fun ds Q h => v_luseful h
  have D_lre : Dn l.prog w K mg base 1 "_law_reached" [.rd, .fz] spReachL := (ok_law_reached (k := 0) B F18 (PySem.W.mg_of X G a18) b18).imp fun ds Q h => v_lreached h
  have D_ltr : Dn l.prog w K mg base 2 "_law_trimmed" [.rd] spTrimL := (ok_law_trimmed (k := 1) B F19 (PySem.W.mg_of X G a19) b19 D_lus D_lre).imp fun ds Q h => v_ltrimmed h
  have D_row : Dn l.prog w K mg base 3 "_law_in_a_row" [.mu, .rd, .rd] spRow := (ok_law_in_a_row (k := 2) B F20 (PySem.W.mg_of X G a20) b20 D_pick (D_draw.mono (by decide))).imp fun ds Q h => v_row h
  have D_ask : Dn l.prog w K mg base 4 "_law_asked" [.rd] spAsked := (ok_law_asked (k := 3) B F21 (PySem.W.mg_of X G a21) b21 D_same (D_nof.mono (by decide)) (D_lem.mono (by decide)) (D_emp.mono (by decide)) (D_lus.mono (by decide)) (D_use.mono (by decide)) (D_lre.mono (by decide)) (D_rea.mono (by decide)) D_any (D_ltr.mono (by decide)) D_tri).imp fun ds Q h => v_asked h
  exact fn_imp (fnlaw (k := 4) B F22 (D_digits.mono (by decide)) (D_nm.mono (by decide)) (D_draw.mono (by decide)) (D_lt.mono (by decide)) (D_pick.mono (by decide)) D_ask (D_rul.mono (by decide)) (D_row.mono (by decide)) (D_same.mono (by decide)) (D_isn.mono (by decide))) fun ds Q h => v_law (by obtain ⟨ns, _, e, q⟩ := h; exact ⟨ns, e, q⟩)
end K49
open PySem PySem.W PyProof.Rows
set_option maxHeartbeats 0 in
theorem PySem.Challenge.cw_wordlands_k49_whole_names_that_are_of_us_holds : PySem.Challenge.rw_wordlands_k49_whole_names_that_are_of_us.Holds := by
  w_on; o_law; k_head; (case hw => w_witness2)
  k_fill
  refine L2.walk_of (l := PySem.Challenge.rw_wordlands_k49_whole_names_that_are_of_us) (n := 63) (k := 5) (x := "script") (CX := fun _ => L2.CX0) (sp := fun w => VS.liftSp _ [.rd] VS.spTrue) rfl (by decide) rfl ⟨rfl, by decide, by decide⟩ (fun w h Y => PySem.W.kIn_of Y) ?F (fun _ _ a ns hl ho hS => VS.law_start hl ho hS) (fun _ _ _ _ _ h => h)
  case F =>
    intro w mg fa h KX G hmg
    refine' K49.all_mk KX G hmg ?a0 ?l0 ?c0 ?k0 ?a1 ?l1 ?c1 ?k1 ?a2 ?l2 ?c2 ?k2 ?a3 ?l3 ?c3 ?k3 ?a4 ?l4 ?c4 ?k4 ?a5 ?l5 ?c5 ?k5 ?a6 ?l6 ?c6 ?k6 ?a7 ?l7 ?c7 ?k7 ?a8 ?l8 ?c8 ?k8 ?a9 ?l9 ?c9 ?k9 ?a10 ?l10 ?c10 ?k10 ?a11 ?l11 ?c11 ?k11 ?a12 ?l12 ?c12 ?k12 ?a13 ?l13 ?c13 ?k13 ?a14 ?l14 ?c14 ?k14 ?a15 ?l15 ?c15 ?k15 ?a16 ?l16 ?c16 ?k16 ?a17 ?l17 ?c17 ?k17 ?a18 ?l18 ?c18 ?k18 ?a19 ?l19 ?c19 ?k19 ?a20 ?l20 ?c20 ?k20 ?a21 ?l21 ?c21 ?k21 ?a22 ?l22 ?c22 ?k22 ?z_len ?z_int ?z_list ?z_tuple ?z_sorted ?z_range ?z_all ?z_any ?z_sum ?z_max ?z_min ?z_repr ?z_isinstance ?z_str ?z_bool ?z_enumerate ?z_zip
    (case a0 => k_is); (case l0 => k_is); (case c0 => k_is); (case k0 => k_is); (case a1 => k_is); (case l1 => k_is); (case c1 => k_is); (case k1 => k_is)
    (case a2 => k_is); (case l2 => k_is); (case c2 => k_is); (case k2 => k_is); (case a3 => k_is); (case l3 => k_is); (case c3 => k_is); (case k3 => k_is)
    (case a4 => k_is); (case l4 => k_is); (case c4 => k_is); (case k4 => k_is); (case a5 => k_is); (case l5 => k_is); (case c5 => k_is); (case k5 => k_is)
    (case a6 => k_is); (case l6 => k_is); (case c6 => k_is); (case k6 => k_is); (case a7 => k_is); (case l7 => k_is); (case c7 => k_is); (case k7 => k_is)
    (case a8 => k_is); (case l8 => k_is); (case c8 => k_is); (case k8 => k_is); (case a9 => k_is); (case l9 => k_is); (case c9 => k_is); (case k9 => k_is)
    (case a10 => k_is); (case l10 => k_is); (case c10 => k_is); (case k10 => k_is); (case a11 => k_is); (case l11 => k_is); (case c11 => k_is); (case k11 => k_is)
    (case a12 => k_is); (case l12 => k_is); (case c12 => k_is); (case k12 => k_is); (case a13 => k_is); (case l13 => k_is); (case c13 => k_is); (case k13 => k_is)
    (case a14 => k_is); (case l14 => k_is); (case c14 => k_is); (case k14 => k_is); (case a15 => k_is); (case l15 => k_is); (case c15 => k_is); (case k15 => k_is)
    (case a16 => k_is); (case l16 => k_is); (case c16 => k_is); (case k16 => k_is); (case a17 => k_is); (case l17 => k_is); (case c17 => k_is); (case k17 => k_is)
    (case a18 => k_is); (case l18 => k_is); (case c18 => k_is); (case k18 => k_is); (case a19 => k_is); (case l19 => k_is); (case c19 => k_is); (case k19 => k_is)
    (case a20 => k_is); (case l20 => k_is); (case c20 => k_is); (case k20 => k_is); (case a21 => k_is); (case l21 => k_is); (case c21 => k_is); (case k21 => k_is)
    (case a22 => k_is); (case l22 => k_is); (case c22 => k_is); (case k22 => k_is); (case z_len => k_is); (case z_int => k_is); (case z_list => k_is); (case z_tuple => k_is)
    (case z_sorted => k_is); (case z_range => k_is); (case z_all => k_is); (case z_any => k_is); (case z_sum => k_is); (case z_max => k_is); (case z_min => k_is); (case z_repr => k_is)
    (case z_isinstance => k_is); (case z_str => k_is); (case z_bool => k_is); (case z_enumerate => k_is); (case z_zip => k_is)
