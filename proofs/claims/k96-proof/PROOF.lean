import PyProof.Rows.All
import Wide.All
import OpenK.AllK
import Wide.FinOn
import HandS.ForMost
import HandS.Flow
import HandS.Style
import HandS.DictTup
import HandS.TupAny
import HandS.TupMul
import HandS.Deep
import HandS.Star
import HandS.TupLen
import HandS.Conv
import HandS.SetFor
import HandS.More
import HandS.IsInst
import KE.SortData
import PyProof.SumWalk
import PyProof.WalksMore
import KE.KIndexOf
import KE.GoesMore
import HandS.Walk
import KE.KDictDisplayH
import KE.KDictWalk
import HandS.Rev
import PyProof.ReprRoads
import HandS.Zip
import HandS.TupSets
import HandS.Ends
import KE.KEqDeep
import PySem.Challenge.RW_heightnets_k96_whole_turnings
section
set_option Elab.async false
set_option linter.all false
set_option maxRecDepth 100000
set_option maxHeartbeats 1000000
/-! A layer of plain data over HandS: values as data, an environment of cells, statements as functions on it. -/
namespace Pl
open PySem PySem.Spec PyProof.Rows L2

/-- data that never changes; ptp: a tuple of which it is known that it has no dict of its own (methods may be called on it; it is no key) -/
inductive D where
  | non | bl (b : Bool) | int (i : Int) | str (s : Str) | tup (xs : List D) | ptp (xs : List D)
/-- data that may change: lists, dicts (keys ints and texts, or tuples of these), tuples with such -/
inductive M where
  | im (d : D) | lst (xs : List M) | mtp (xs : List M) | dk (kvs : List (Key × M)) | dt (kvs : List (List Key × M))

mutual
inductive RI (H : Hp) : D → V → Prop
  | non : RI H .non .non
  | bl (b : Bool) : RI H (.bl b) (.bl b)
  | int (i : Int) : RI H (.int i) (.int i)
  | str (s : Str) : RI H (.str s) (.str s)
  | tup {a : Addr} {xs : List V} {ds : List D} : H a = some (.tup xs) → RIs H ds xs → RI H (.tup ds) (.ref a)
  | ptp {a : Addr} {o : Obj} {xs : List V} {ds : List D} : H a = some (.frz o (.tup xs)) → o.dict = none → RIs H ds xs → RI H (.ptp ds) (.ref a)
inductive RIs (H : Hp) : List D → List V → Prop
  | nil : RIs H [] []
  | cons {d : D} {ds : List D} {v : V} {vs : List V} : RI H d v → RIs H ds vs → RIs H (d :: ds) (v :: vs)
end
/-- tuples are kept -/
def IsTp (u : HO) : Prop := (∃ xs, u = .tup xs) ∨ ∃ o xs, u = .frz o (.tup xs)
def TK (H H' : Hp) : Prop := ∀ a u, IsTp u → H a = some u → H' a = some u
theorem TK.t {H H' : Hp} (k : TK H H') {a : Addr} {xs : List V} (h : H a = some (.tup xs)) : H' a = some (.tup xs) := k a _ (.inl ⟨_, rfl⟩) h
theorem TK.p {H H' : Hp} (k : TK H H') {a : Addr} {o : Obj} {xs : List V} (h : H a = some (.frz o (.tup xs))) : H' a = some (.frz o (.tup xs)) := k a _ (.inr ⟨_, _, rfl⟩) h
theorem TK.refl (H : Hp) : TK H H := fun _ _ _ h => h
theorem TK.trans {H H1 H2 : Hp} (a : TK H H1) (b : TK H1 H2) : TK H H2 := fun x xs t h => b x xs t (a x xs t h)
section
variable {H H' : Hp}
mutual
theorem RI.keep (k : TK H H') : ∀ {d : D} {v : V}, RI H d v → RI H' d v
  | _, _, .non => .non
  | _, _, .bl b => .bl b
  | _, _, .int i => .int i
  | _, _, .str s => .str s
  | _, _, .tup h r => .tup (k.t h) (RIs.keep k r)
  | _, _, .ptp h n r => .ptp (k.p h) n (RIs.keep k r)
theorem RIs.keep (k : TK H H') : ∀ {ds : List D} {vs : List V}, RIs H ds vs → RIs H' ds vs
  | _, _, .nil => .nil
  | _, _, .cons h r => .cons (RI.keep k h) (RIs.keep k r)
end
theorem RIs.length : ∀ {ds : List D} {vs : List V}, RIs H ds vs → vs.length = ds.length
  | _, _, .nil => rfl
  | _, _, .cons _ r => by rw [List.length_cons, List.length_cons, RIs.length r]
theorem RIs.get : ∀ {ds : List D} {vs : List V} {i : Nat} {d : D}, RIs H ds vs → ds[i]? = some d → ∃ v, vs[i]? = some v ∧ RI H d v
  | _, _, _, _, .nil, e => by simp at e
  | _, _, 0, _, .cons h _, e => by
    simp at e
    subst e
    exact ⟨_, rfl, h⟩
  | _, _, i + 1, d, .cons _ r, e => by
    obtain ⟨v, h1, h2⟩ := RIs.get (i := i) (d := d) r (by simpa using e)
    exact ⟨v, by simpa using h1, h2⟩
theorem RIs.append : ∀ {ds es : List D} {vs ws : List V}, RIs H ds vs → RIs H es ws → RIs H (ds ++ es) (vs ++ ws)
  | _, _, _, _, .nil, s => s
  | _, _, _, _, .cons h r, s => .cons h (RIs.append r s)
end

mutual
inductive RM (H : Hp) : M → V → List Addr → Prop
  | im {d : D} {v : V} : RI H d v → RM H (.im d) v []
  | lst {a : Addr} {vs : List V} {ms : List M} {f : List Addr} : H a = some (.lst vs) → RMs H ms vs f → a ∉ f → RM H (.lst ms) (.ref a) (a :: f)
  | mtp {a : Addr} {vs : List V} {ms : List M} {f : List Addr} : H a = some (.tup vs) → RMs H ms vs f → RM H (.mtp ms) (.ref a) f
  | dk {a : Addr} {kvs : List (Key × V)} {kms : List (Key × M)} {f : List Addr} : H a = some (.dK kvs) → kvs.map (·.1) = kms.map (·.1) → RMs H (kms.map (·.2)) (kvs.map (·.2)) f → a ∉ f → RM H (.dk kms) (.ref a) (a :: f)
  | dt {a : Addr} {kvs : List (List Key × V)} {kms : List (List Key × M)} {f : List Addr} : H a = some (.dT kvs) → kvs.map (·.1) = kms.map (·.1) → RMs H (kms.map (·.2)) (kvs.map (·.2)) f → a ∉ f → RM H (.dt kms) (.ref a) (a :: f)
inductive RMs (H : Hp) : List M → List V → List Addr → Prop
  | nil : RMs H [] [] []
  | cons' {m : M} {v : V} {f : List Addr} {ms : List M} {vs : List V} {g F : List Addr} : RM H m v f → RMs H ms vs g → (∀ a ∈ f, a ∉ g) → F = f ++ g → RMs H (m :: ms) (v :: vs) F
end
section
variable {H H' : Hp}
theorem RMs.cons {m : M} {v : V} {f : List Addr} {ms : List M} {vs : List V} {g : List Addr} (h : RM H m v f) (r : RMs H ms vs g) (d : ∀ a ∈ f, a ∉ g) : RMs H (m :: ms) (v :: vs) (f ++ g) := .cons' h r d rfl
theorem Rd.eq {a : Addr} {u : HO} (e : H' a = H a) (h : Rd H a u) : Rd H' a u := by
  rcases h with h | ⟨o, h⟩
  · exact .inl (e.trans h)
  · exact .inr ⟨o, e.trans h⟩
theorem Rd.some {a : Addr} {u : HO} (h : Rd H a u) : ∃ o, H a = some o := by
  rcases h with h | ⟨o, h⟩
  · exact ⟨_, h⟩
  · exact ⟨_, h⟩
mutual
theorem RM.keep (k : TK H H') : ∀ {m : M} {v : V} {f : List Addr}, RM H m v f → (∀ a ∈ f, H' a = H a) → RM H' m v f
  | _, _, _, .im h, _ => .im (h.keep k)
  | _, _, _, .lst h r n, e => .lst ((e _ List.mem_cons_self).trans h) (RMs.keep k r fun a ha => e a (List.mem_cons_of_mem _ ha)) n
  | _, _, _, .mtp h r, e => .mtp (k.t h) (RMs.keep k r e)
  | _, _, _, .dk h q r n, e => .dk ((e _ List.mem_cons_self).trans h) q (RMs.keep k r fun a ha => e a (List.mem_cons_of_mem _ ha)) n
  | _, _, _, .dt h q r n, e => .dt ((e _ List.mem_cons_self).trans h) q (RMs.keep k r fun a ha => e a (List.mem_cons_of_mem _ ha)) n
theorem RMs.keep (k : TK H H') : ∀ {ms : List M} {vs : List V} {f : List Addr}, RMs H ms vs f → (∀ a ∈ f, H' a = H a) → RMs H' ms vs f
  | _, _, _, .nil, _ => .nil
  | _, _, _, .cons' h r d q, e => .cons' (RM.keep k h fun a ha => e a (q ▸ List.mem_append_left _ ha)) (RMs.keep k r fun a ha => e a (q ▸ List.mem_append_right _ ha)) d q
end
/-- what stands at a footprint: lists and dicts -/
def Mu (H : Hp) (a : Addr) : Prop := (∃ xs, H a = some (.lst xs)) ∨ (∃ kvs, Rd H a (.dK kvs)) ∨ ∃ kvs, Rd H a (.dT kvs)
theorem Mu.some {a : Addr} (h : Mu H a) : ∃ o, H a = some o := by
  rcases h with ⟨_, h⟩ | ⟨_, h⟩ | ⟨_, h⟩
  · exact ⟨_, h⟩
  · exact Rd.some h
  · exact Rd.some h
mutual
theorem RM.mu : ∀ {m : M} {v : V} {f : List Addr}, RM H m v f → ∀ a ∈ f, Mu H a
  | _, _, _, .im _, a, ha => by cases ha
  | _, _, _, .lst h r _, a, ha => by
    rcases List.mem_cons.mp ha with e | ha
    · subst e; exact .inl ⟨_, h⟩
    · exact RMs.mu r a ha
  | _, _, _, .mtp _ r, a, ha => RMs.mu r a ha
  | _, _, _, .dk h _ r _, a, ha => by
    rcases List.mem_cons.mp ha with e | ha
    · subst e; exact .inr (.inl ⟨_, .inl h⟩)
    · exact RMs.mu r a ha
  | _, _, _, .dt h _ r _, a, ha => by
    rcases List.mem_cons.mp ha with e | ha
    · subst e; exact .inr (.inr ⟨_, .inl h⟩)
    · exact RMs.mu r a ha
theorem RMs.mu : ∀ {ms : List M} {vs : List V} {f : List Addr}, RMs H ms vs f → ∀ a ∈ f, Mu H a
  | _, _, _, .nil, a, ha => by cases ha
  | _, _, _, .cons' h r _ q, a, ha => by
    rw [q] at ha
    rcases List.mem_append.mp ha with ha | ha
    · exact RM.mu h a ha
    · exact RMs.mu r a ha
end
mutual
theorem RM.plain : ∀ {m : M} {v : V} {f : List Addr}, RM H m v f → ∀ a ∈ f, ∀ o u, H a ≠ some (.frz o u)
  | _, _, _, .im _, a, ha => by cases ha
  | _, _, _, .lst h r _, a, ha => by
    rcases List.mem_cons.mp ha with e | ha
    · subst e; rw [h]; exact fun o u z => nomatch z
    · exact RMs.plain r a ha
  | _, _, _, .mtp _ r, a, ha => RMs.plain r a ha
  | _, _, _, .dk h _ r _, a, ha => by
    rcases List.mem_cons.mp ha with e | ha
    · subst e; rw [h]; exact fun o u z => nomatch z
    · exact RMs.plain r a ha
  | _, _, _, .dt h _ r _, a, ha => by
    rcases List.mem_cons.mp ha with e | ha
    · subst e; rw [h]; exact fun o u z => nomatch z
    · exact RMs.plain r a ha
theorem RMs.plain : ∀ {ms : List M} {vs : List V} {f : List Addr}, RMs H ms vs f → ∀ a ∈ f, ∀ o u, H a ≠ some (.frz o u)
  | _, _, _, .nil, a, ha => by cases ha
  | _, _, _, .cons' h r _ q, a, ha => by
    rw [q] at ha
    rcases List.mem_append.mp ha with ha | ha
    · exact RM.plain h a ha
    · exact RMs.plain r a ha
end
theorem RMs.length : ∀ {ms : List M} {vs : List V} {f : List Addr}, RMs H ms vs f → vs.length = ms.length
  | _, _, _, .nil => rfl
  | _, _, _, .cons' _ r _ _ => by rw [List.length_cons, List.length_cons, RMs.length r]
theorem RMs.get : ∀ {ms : List M} {vs : List V} {f : List Addr} {i : Nat} {m : M}, RMs H ms vs f → ms[i]? = some m → ∃ v g, vs[i]? = some v ∧ RM H m v g ∧ ∀ a ∈ g, a ∈ f
  | _, _, _, _, _, .nil, e => by simp at e
  | _, _, _, 0, _, .cons' h _ _ q, e => by
    simp at e
    subst e
    exact ⟨_, _, rfl, h, fun a ha => q ▸ List.mem_append_left _ ha⟩
  | _, _, _, i + 1, m, .cons' _ r _ q, e => by
    obtain ⟨v, g, h1, h2, h3⟩ := RMs.get (i := i) (m := m) r (by simpa using e)
    exact ⟨v, g, by simpa using h1, h2, fun a ha => q ▸ List.mem_append_right _ (h3 a ha)⟩
/-- a list of fixed data -/
theorem RMs.ims : ∀ {ds : List D} {vs : List V}, RIs H ds vs → RMs H (ds.map M.im) vs []
  | _, _, .nil => .nil
  | _, _, .cons h r => RMs.cons (f := []) (g := []) (.im h) (RMs.ims r) (fun _ ha => nomatch ha)
theorem RMs.of_ims : ∀ {ds : List D} {vs : List V} {f : List Addr}, RMs H (ds.map M.im) vs f → RIs H ds vs ∧ f = []
  | [], _, _, h => by
    cases h
    exact ⟨.nil, rfl⟩
  | d :: ds, _, _, h => by
    rw [List.map_cons] at h
    match h with
    | .cons' (.im h1) r _ w =>
      obtain ⟨q, e⟩ := RMs.of_ims r
      exact ⟨.cons h1 q, by rw [w, e]; rfl⟩
theorem RMs.append : ∀ {ms ns : List M} {vs ws : List V} {f g : List Addr}, RMs H ms vs f → RMs H ns ws g → (∀ a ∈ f, a ∉ g) → RMs H (ms ++ ns) (vs ++ ws) (f ++ g)
  | _, _, _, _, _, _, .nil, s, _ => s
  | _, _, _, _, _, _, .cons' (f := f0) (g := g0) h r d w, s, e => by
    rw [w] at e
    rw [w, List.cons_append, List.cons_append, List.append_assoc]
    refine .cons h (RMs.append r s fun a ha => e a (List.mem_append_right _ ha)) fun a ha hb => ?_
    rcases List.mem_append.mp hb with hb | hb
    · exact d a ha hb
    · exact e a (List.mem_append_left _ ha) hb
end

/-! ### a part of the heap that calls may turn -/
structure Vol (S : Type) where
  own : Addr → Prop
  rel : S → Hp → Prop
  ref : V
  loc : ∀ {s : S} {H H' : Hp}, (∀ a, own a → H' a = H a) → rel s H → rel s H'
  at_ : ∀ {s : S} {H : Hp} {a : Addr}, rel s H → own a → ∃ o, H a = some o ∧ Mut (some o)
def Vol.nil : Vol Unit := ⟨fun _ => False, fun _ _ => True, .non, fun _ h => h, fun _ h => h.elim⟩
section
variable {S : Type}
/-- all but the part is kept -/
def ExV (T : Vol S) (H H' : Hp) : Prop := ∀ a o, ¬ T.own a → H a = some o → H' a = some o
theorem ExV.refl (T : Vol S) (H : Hp) : ExV T H H := fun _ _ _ h => h
theorem ExV.trans {T : Vol S} {H H1 H2 : Hp} (a : ExV T H H1) (b : ExV T H1 H2) : ExV T H H2 := fun x o n h => b x o n (a x o n h)
theorem Vol.ntup {T : Vol S} {s : S} {H : Hp} {a : Addr} (r : T.rel s H) (h : T.own a) {xs : List V} : ¬ Rd H a (.tup xs) := fun q => by
  obtain ⟨o, e, mu⟩ := T.at_ r h
  rcases q with q | ⟨ob, q⟩
  · rw [e] at q; cases q; exact mu
  · rw [e] at q; cases q; exact mu
theorem IsTp.rd {H : Hp} {a : Addr} {u : HO} (t : IsTp u) (h : H a = some u) : ∃ xs, Rd H a (.tup xs) := by
  rcases t with ⟨xs, rfl⟩ | ⟨o, xs, rfl⟩
  · exact ⟨xs, .inl h⟩
  · exact ⟨xs, .inr ⟨o, h⟩⟩
theorem ExV.tk {T : Vol S} {s : S} {H H' : Hp} (e : ExV T H H') (r : T.rel s H) : TK H H' := fun a u t h => e a _ (fun q => let ⟨_, z⟩ := t.rd h; T.ntup r q z) h
theorem tk_upd {H : Hp} {p : Addr} {o : HO} (h : ∀ xs, ¬ Rd H p (.tup xs)) : TK H (upd H p o) := fun a u t q => by
  have n : a ≠ p := fun e => by
    obtain ⟨xs, z⟩ := t.rd q
    exact h xs (e ▸ z)
  rw [upd_ne n]
  exact q
theorem Mu.ntup {H : Hp} {a : Addr} (h : Mu H a) (xs : List V) : ¬ Rd H a (.tup xs) := fun q => by
  rcases h with ⟨_, h⟩ | ⟨_, h | ⟨_, h⟩⟩ | ⟨_, h | ⟨_, h⟩⟩ <;> rcases q with q | ⟨_, q⟩ <;> (rw [h] at q; cases q)
theorem none_ntup {H : Hp} {a : Addr} (h : H a = none) (xs : List V) : ¬ Rd H a (.tup xs) := fun q => by
  rcases q with q | ⟨_, q⟩ <;> (rw [h] at q; cases q)
/-- new addresses are not of the part -/
theorem Vol.new {T : Vol S} {s : S} {H : Hp} {a : Addr} (r : T.rel s H) (h : H a = none) : ¬ T.own a := fun q => by
  obtain ⟨o, e, _⟩ := T.at_ r q
  rw [h] at e; cases e
theorem ExV.back {T : Vol S} {s : S} {H H' : Hp} {a : Addr} (e : ExV T H H') (r : T.rel s H) (h : H' a = none) (r' : T.rel s' H') : H a = none := by
  cases q : H a with
  | none => rfl
  | some o =>
    rw [e a o (T.new r' h) q] at h
    cases h
theorem ExV.new {T : Vol S} {H : Hp} {p : Addr} {o : HO} (h : H p = none) : ExV T H (upd H p o) := fun a u _ e => by
  rw [upd_ne (ne_of_none e h)]
  exact e
theorem Vol.upd {T : Vol S} {s : S} {H : Hp} {p : Addr} {o : HO} (r : T.rel s H) (h : ¬ T.own p) : T.rel s (L2.upd H p o) :=
  T.loc (fun a q => upd_ne fun e => h (e ▸ q)) r
end

/-- a dict that no walk holds at the time -/
def Pln (H : Hp) : M → V → Prop
  | .dk _, v => ∀ a, v = .ref a → ∀ o u, H a ≠ some (.frz o u)
  | .dt _, v => ∀ a, v = .ref a → ∀ o u, H a ≠ some (.frz o u)
  | _, _ => True
theorem Pln.keep {H H' : Hp} {m : M} {v : V} {f : List Addr} (r : RM H m v f) (e : ∀ a ∈ f, H' a = H a) (h : Pln H m v) : Pln H' m v := by
  cases r with
  | im _ => exact True.intro
  | lst _ _ _ => exact True.intro
  | mtp _ _ => exact True.intro
  | dk _ _ _ _ =>
    intro a ea o u
    cases ea
    rw [e _ List.mem_cons_self]
    exact h _ rfl o u
  | dt _ _ _ _ =>
    intro a ea o u
    cases ea
    rw [e _ List.mem_cons_self]
    exact h _ rfl o u
/-! ### the environment -/
def IsDct (u : HO) : Prop := (∃ kvs, u = .dK kvs) ∨ ∃ kvs, u = .dT kvs
/-- the heap at the start; the dicts that are walked now, the last one first, with what they hold -/
structure Bs where
  h : Hp
  lk : List (Addr × HO)
instance : CoeFun Bs (fun _ => Addr → Option HO) := ⟨Bs.h⟩
/-- the heap as if the last n walks were over -/
def undo (lk : List (Addr × HO)) (n : Nat) (H : Hp) : Hp := fun a => match (lk.take n).find? (fun p => decide (p.1 = a)) with
  | some p => some p.2
  | none => H a
/-- what a name holds: nothing; fixed data; an object of its own; an object that stands still (loc: made here); the part; an object that stands still with a dict in it that is walked -/
inductive C where
  | no | im (d : D) | own (m : M) | frz (loc : Bool) (m : M) | src | lck (n : Nat) (m : M)
/-- what an expression gives: fixed data, a new object, an object (or a part of it) that the name i holds, the part, a part of a new object -/
inductive W where
  | im (d : D) | new (m : M) | sl (i : Nat) (m : M) | src | tm (m : M)
abbrev Rho := List C
def cel (ρ : Rho) (i : Nat) : C := (ρ[i]?).getD .no
def isOwn (ρ : Rho) (i : Nat) : Prop := ∃ m, cel ρ i = .own m

section
variable {S : Type}
def CellOk (T : Vol S) (H0 : Bs) (H : Hp) : C → Option (Option V) → List Addr → Prop
  | .no, _, f => f = []
  | .im d, x, f => f = [] ∧ ∃ v, x = some (some v) ∧ RI H d v
  | .own m, x, f => (∃ v, x = some (some v) ∧ RM H m v f ∧ Pln H m v) ∧ ∀ a ∈ f, H0 a = none ∧ ¬ T.own a
  | .frz loc m, x, f => (∃ v, x = some (some v) ∧ RM H m v f) ∧ ∀ a ∈ f, ¬ T.own a ∧ (loc = true → H0 a = none)
  | .src, x, f => f = [] ∧ x = some (some T.ref)
  | .lck n m, x, f => (∃ v, x = some (some v) ∧ RM (undo H0.lk n H) m v f) ∧ ∀ a ∈ f, ¬ T.own a ∧ H0 a = none
structure Env (T : Vol S) (H0 : Bs) (ρ : Rho) (σ : L2.St) (H : Hp) (fp : Nat → List Addr) (s : S) : Prop where
  len : σ.length = ρ.length
  rel : T.rel s H
  ex : ∀ a o, ¬ T.own a → H0 a = some o → H a = some o
  ok : ∀ i, CellOk T H0 H (cel ρ i) (σ[i]?) (fp i)
  sep : ∀ i j, i ≠ j → isOwn ρ i → ∀ a ∈ fp i, a ∉ fp j
  lkd : ∀ p ∈ H0.lk, (∃ o, H p.1 = some (.frz o p.2)) ∧ ¬ T.own p.1 ∧ IsDct p.2
/-- what an expression's value is, the heap ahead H, behind H' -/
def Wok (T : Vol S) (fp : Nat → List Addr) (H H' : Hp) : W → V → List Addr → Prop
  | .im d, v, g => g = [] ∧ RI H' d v
  | .new m, v, g => RM H' m v g ∧ (∀ a ∈ g, H a = none) ∧ Pln H' m v
  | .sl i m, v, g => RM H' m v g ∧ ∀ a ∈ g, a ∈ fp i
  | .src, v, g => g = [] ∧ v = T.ref
  | .tm m, v, g => RM H' m v g ∧ ∀ a ∈ g, H a = none

variable {T : Vol S} {H0 : Bs} {H H' H2 : Hp} {ρ : Rho} {σ : L2.St} {fp : Nat → List Addr} {s s' : S}
/-- the walked dicts stand locked -/
def Lkd (T : Vol S) (H0 : Bs) (H : Hp) : Prop := ∀ p ∈ H0.lk, (∃ o, H p.1 = some (.frz o p.2)) ∧ ¬ T.own p.1 ∧ IsDct p.2
theorem undo_cases (lk : List (Addr × HO)) (n : Nat) (H : Hp) (a : Addr) : (∃ p ∈ lk, p.1 = a ∧ undo lk n H a = some p.2 ∧ ∀ H', undo lk n H' a = some p.2) ∨ ∀ H', undo lk n H' a = H' a := by
  unfold undo
  cases q : (lk.take n).find? (fun p => decide (p.1 = a)) with
  | none => exact .inr fun _ => rfl
  | some p =>
    have h1 := List.find?_some q
    have h2 := List.mem_of_find?_eq_some q
    exact .inl ⟨p, List.mem_of_mem_take h2, of_decide_eq_true h1, rfl, fun _ => rfl⟩
theorem undo_mu {n : Nat} {a : Addr} (l : Lkd T H0 H) (h : Mu (undo H0.lk n H) a) : Mu H a := by
  rcases undo_cases H0.lk n H a with ⟨p, hp, rfl, e, _⟩ | e
  · obtain ⟨⟨o, q⟩, _, mu⟩ := l p hp
    rcases mu with ⟨kvs, mu⟩ | ⟨kvs, mu⟩
    · rw [mu] at q
      exact .inr (.inl ⟨kvs, .inr ⟨o, q⟩⟩)
    · rw [mu] at q
      exact .inr (.inr ⟨kvs, .inr ⟨o, q⟩⟩)
  · have e := e H
    unfold Mu Rd at h ⊢
    rw [e] at h
    exact h
theorem undo_tk {n : Nat} (l : Lkd T H0 H) (k : TK H H') : TK (undo H0.lk n H) (undo H0.lk n H') := fun a u t h => by
  rcases undo_cases H0.lk n H a with ⟨p, hp, rfl, e, e2⟩ | e
  · rw [e2]
    rw [e] at h
    exact h
  · rw [e H] at h
    rw [e H']
    exact k a u t h
theorem undo_eq {n : Nat} {a : Addr} {lk : List (Addr × HO)} (h : H' a = H a) : undo lk n H' a = undo lk n H a := by
  rcases undo_cases lk n H a with ⟨p, hp, rfl, e, e2⟩ | e
  · rw [e2, e2]
  · rw [e H, e H', h]
theorem CellOk.mu {c : C} {x : Option (Option V)} {f : List Addr} (l : Lkd T H0 H) (h : CellOk T H0 H c x f) : ∀ a ∈ f, Mu H a ∧ ¬ T.own a := fun a ha => by
  cases c with
  | no => have e : f = [] := h; rw [e] at ha; cases ha
  | im d => obtain ⟨e, _⟩ := h; rw [e] at ha; cases ha
  | own m => obtain ⟨⟨v, _, r, _⟩, q⟩ := h; exact ⟨r.mu a ha, (q a ha).2⟩
  | frz b m => obtain ⟨⟨v, _, r⟩, q⟩ := h; exact ⟨r.mu a ha, (q a ha).1⟩
  | src => obtain ⟨e, _⟩ := h; rw [e] at ha; cases ha
  | lck n m => obtain ⟨⟨v, _, r⟩, q⟩ := h; exact ⟨undo_mu l (r.mu a ha), (q a ha).1⟩
theorem CellOk.keep {c : C} {x : Option (Option V)} {f : List Addr} (l : Lkd T H0 H) (k : TK H H') (e : ∀ a ∈ f, H' a = H a) (h : CellOk T H0 H c x f) : CellOk T H0 H' c x f := by
  cases c with
  | no => exact h
  | im d => obtain ⟨e, v, e2, r⟩ := h; exact ⟨e, v, e2, r.keep k⟩
  | own m => obtain ⟨⟨v, e2, r, pl⟩, q⟩ := h; exact ⟨⟨v, e2, r.keep k e, pl.keep r e⟩, q⟩
  | frz b m => obtain ⟨⟨v, e2, r⟩, q⟩ := h; exact ⟨⟨v, e2, r.keep k e⟩, q⟩
  | src => exact h
  | lck n m => obtain ⟨⟨v, e2, r⟩, q⟩ := h; exact ⟨⟨v, e2, r.keep (undo_tk l k) fun a ha => undo_eq (e a ha)⟩, q⟩
theorem Lkd.step (l : Lkd T H0 H) (x : ExV T H H') : Lkd T H0 H' := fun p hp => by
  obtain ⟨⟨o, q⟩, n, mu⟩ := l p hp
  exact ⟨⟨o, x _ _ n q⟩, n, mu⟩
theorem Env.mu (E : Env T H0 ρ σ H fp s) (i : Nat) : ∀ a ∈ fp i, Mu H a ∧ ¬ T.own a := (E.ok i).mu E.lkd
theorem Env.kept (E : Env T H0 ρ σ H fp s) (x : ExV T H H') (i : Nat) : ∀ a ∈ fp i, H' a = H a := fun a ha => by
  obtain ⟨m, n⟩ := E.mu i a ha
  obtain ⟨o, e⟩ := m.some
  rw [e]
  exact x a o n e
/-- behind an expression -/
theorem Env.step (E : Env T H0 ρ σ H fp s) (x : ExV T H H') (r : T.rel s' H') : Env T H0 ρ σ H' fp s' :=
  ⟨E.len, r, fun a o n h => x a o n (E.ex a o n h), fun i => (E.ok i).keep E.lkd (x.tk E.rel) (E.kept x i), E.sep, Lkd.step E.lkd x⟩
theorem Wok.keep {w : W} {v : V} {g : List Addr} (E : Env T H0 ρ σ H fp s) (x : ExV T H H') (r : T.rel s' H') (y : ExV T H' H2) (h : Wok T fp H H' w v g) : Wok T fp H H2 w v g := by
  have tk := y.tk r
  have E' := E.step x r
  cases w with
  | im d => exact ⟨h.1, h.2.keep tk⟩
  | new m =>
    have e : ∀ a ∈ g, H2 a = H' a := fun a ha => by
      obtain ⟨o, q⟩ := (h.1.mu a ha).some
      rw [q]
      exact y a o (T.new E.rel (h.2.1 a ha)) q
    exact ⟨h.1.keep tk e, h.2.1, h.2.2.keep h.1 e⟩
  | sl i m => exact ⟨h.1.keep tk fun a ha => E'.kept y i a (h.2 a ha), h.2⟩
  | src => exact h
  | tm m =>
    have e : ∀ a ∈ g, H2 a = H' a := fun a ha => by
      obtain ⟨o, q⟩ := (h.1.mu a ha).some
      rw [q]
      exact y a o (T.new E.rel (h.2 a ha)) q
    exact ⟨h.1.keep tk e, h.2⟩
/-- a value of a later expression, seen from an earlier heap -/
theorem Wok.early {w : W} {v : V} {g : List Addr} (x : ExV T H H') (r : T.rel s H) (r' : T.rel s' H') (h : Wok T fp H' H2 w v g) : Wok T fp H H2 w v g := by
  cases w with
  | im d => exact h
  | new m => exact ⟨h.1, fun a ha => x.back r (h.2.1 a ha) r', h.2.2⟩
  | sl i m => exact h
  | src => exact h
  | tm m => exact ⟨h.1, fun a ha => x.back r (h.2 a ha) r'⟩
end
end Pl
end

section
set_option Elab.async false
set_option linter.all false
set_option maxRecDepth 100000
set_option maxHeartbeats 1000000
namespace Pl
open PySem PySem.Spec PyProof.Rows L2

abbrev Fn (S α : Type) := Rho → S → Option (α × S)
abbrev Fam (S : Type) := Vol S → Prop
def Fam.nil : Fam Unit := fun T => T = Vol.nil
def bnd {S α β : Type} (x : Option (α × S)) (k : α → S → Option (β × S)) : Option (β × S) := match x with
  | some (a, s) => k a s
  | none => none
@[simp] theorem bnd_some {S α β : Type} (a : α) (s : S) (k : α → S → Option (β × S)) : bnd (some (a, s)) k = k a s := rfl
@[simp] theorem bnd_none {S α β : Type} (k : α → S → Option (β × S)) : bnd none k = none := rfl
theorem bnd_of {S α β : Type} {x : Option (α × S)} {k : α → S → Option (β × S)} {r : β × S} (h : bnd x k = some r) : ∃ a s, x = some (a, s) ∧ k a s = some r := by
  cases x with
  | none => cases h
  | some p => exact ⟨p.1, p.2, rfl, h⟩
def lft {S α β : Type} (o : Option α) (s : S) (k : α → β) : Option (β × S) := o.map fun a => (k a, s)
@[simp] theorem lft_some {S α β : Type} (a : α) (s : S) (k : α → β) : lft (some a) s k = some (k a, s) := rfl
@[simp] theorem lft_none {S α β : Type} (s : S) (k : α → β) : lft (none : Option α) s k = none := rfl
theorem lft_of {S α β : Type} {o : Option α} {s s' : S} {k : α → β} {b : β} (h : lft o s k = some (b, s')) : ∃ a, o = some a ∧ b = k a ∧ s' = s := by
  cases o with
  | none => cases h
  | some a =>
    injection h with h
    injection h with h1 h2
    exact ⟨a, rfl, h1.symm, h2.symm⟩

section
variable {S : Type}
def isNew : W → Bool
  | .new _ => true
  | _ => false
def nwf (w : W) (g : List Addr) : List Addr := if isNew w = true then g else []
inductive Woks (T : Vol S) (fp : Nat → List Addr) (H H' : Hp) : List W → List V → List Addr → Prop
  | nil : Woks T fp H H' [] [] []
  | cons {w : W} {v : V} {g : List Addr} {ws : List W} {vs : List V} {G F : List Addr} : Wok T fp H H' w v g → Woks T fp H H' ws vs G → (∀ a ∈ nwf w g, a ∉ G) → F = nwf w g ++ G → Woks T fp H H' (w :: ws) (v :: vs) F

def DE (𝒯 : Fam S) (t : TE) (f : Fn S W) : Prop := ∀ T, 𝒯 T → ∀ H0 ρ σ H fp s Q w s', Env T H0 ρ σ H fp s → f ρ s = some (w, s') →
  (∀ v H' g, ExV T H H' → T.rel s' H' → Wok T fp H H' w v g → Q v H') → t σ H Q
def DA (𝒯 : Fam S) (t : TA) (f : Fn S (List W)) : Prop := ∀ T, 𝒯 T → ∀ H0 ρ σ H fp s Q ws s', Env T H0 ρ σ H fp s → f ρ s = some (ws, s') →
  (∀ vs H' G, ExV T H H' → T.rel s' H' → Woks T fp H H' ws vs G → Q vs H') → t σ H Q
def DT (𝒯 : Fam S) (t : TT) (f : Fn S Bool) : Prop := ∀ T, 𝒯 T → ∀ H0 ρ σ H fp s Q b s', Env T H0 ρ σ H fp s → f ρ s = some (b, s') →
  (∀ H', ExV T H H' → T.rel s' H' → Q b H') → t σ H Q
inductive Out where
  | nx (ρ : Rho) | rt (m : M) | bk (ρ : Rho) | ct (ρ : Rho)
structure Frm (T : Vol S) (ρ ρ' : Rho) (H H' : Hp) (fp fp' : Nat → List Addr) : Prop where
  keep : ∀ a o, H a = some o → ¬ T.own a → (∀ i, isOwn ρ i → a ∉ fp i) → H' a = some o
  anew : ∀ i, isOwn ρ' i → ∀ a ∈ fp' i, (∃ j, isOwn ρ j ∧ a ∈ fp j) ∨ H a = none
def OutP (T : Vol S) (H0 : Bs) (ρ : Rho) (H : Hp) (fp : Nat → List Addr) (D : Ends) (s' : S) : Out → Prop
  | .nx ρ' => ∀ σ' H' fp', Env T H0 ρ' σ' H' fp' s' → Frm T ρ ρ' H H' fp fp' → D.nx σ' H'
  | .bk ρ' => ∀ σ' H' fp', Env T H0 ρ' σ' H' fp' s' → Frm T ρ ρ' H H' fp fp' → D.bk σ' H'
  | .ct ρ' => ∀ σ' H' fp', Env T H0 ρ' σ' H' fp' s' → Frm T ρ ρ' H H' fp fp' → D.ct σ' H'
  | .rt m => ∀ v H' f, ExV T H0.h H' → Lkd T H0 H' → T.rel s' H' → RM H' m v f → Pln H' m v → (∀ a ∈ f, H0 a = none) → D.rt v H'
def DS (𝒯 : Fam S) (t : TS) (f : Fn S Out) : Prop := ∀ T, 𝒯 T → ∀ H0 ρ σ H fp s D o s', Env T H0 ρ σ H fp s → f ρ s = some (o, s') →
  OutP T H0 ρ H fp D s' o → t D σ H

/-- an expression of the text with what it computes -/
structure PD (X : Cx) (𝒯 : Fam S) (e : Expr) (t : TE) (f : Fn S W) : Prop where
  pe : PE X e t
  de : DE 𝒯 t f
structure PDA (X : Cx) (𝒯 : Fam S) (es : List Expr) (t : TA) (f : Fn S (List W)) : Prop where
  pe : PA X es t
  de : DA 𝒯 t f
structure PDT (X : Cx) (𝒯 : Fam S) (e : Expr) (t : TT) (f : Fn S Bool) : Prop where
  pe : PT X e t
  de : DT 𝒯 t f
structure PDW (X : Cx) (𝒯 : Fam S) (e : Expr) (t : TT) (f : Fn S Bool) : Prop where
  pe : PW X e t
  de : DT 𝒯 t f
structure PDS (X : Cx) (𝒯 : Fam S) (st : Stmt) (t : TS) (f : Fn S Out) : Prop where
  pe : PS X st t
  de : DS 𝒯 t f
structure PDB (X : Cx) (𝒯 : Fam S) (st : List Stmt) (t : TS) (f : Fn S Out) : Prop where
  pe : PSs X st t
  de : DS 𝒯 t f

variable {T : Vol S} {𝒯 : Fam S} {H0 : Bs} {H H' H2 : Hp} {ρ ρ' : Rho} {σ : L2.St} {fp fp' : Nat → List Addr} {s s' : S}

theorem Woks.early {ws : List W} {vs : List V} {G : List Addr} (x : ExV T H H') (r : T.rel s H) (r' : T.rel s' H') (h : Woks T fp H' H2 ws vs G) : Woks T fp H H2 ws vs G := by
  induction h with
  | nil => exact .nil
  | cons h1 _ d e ih => exact .cons (h1.early x r r') ih d e
theorem Woks.keep {ws : List W} {vs : List V} {G : List Addr} (E : Env T H0 ρ σ H fp s) (x : ExV T H H') (r : T.rel s' H') (y : ExV T H' H2) (h : Woks T fp H H' ws vs G) : Woks T fp H H2 ws vs G := by
  induction h with
  | nil => exact .nil
  | cons h1 _ d e ih => exact .cons (h1.keep E x r y) ih d e
theorem Woks.fresh {ws : List W} {vs : List V} {G : List Addr} (h : Woks T fp H H' ws vs G) : ∀ a ∈ G, H a = none := by
  induction h with
  | nil => intro a ha; cases ha
  | @cons w v g ws vs G F h1 _ d e ih =>
    intro a ha
    rw [e] at ha
    rcases List.mem_append.mp ha with ha | ha
    · cases w with
      | new m => exact h1.2.1 a ha
      | im d => cases ha
      | sl i m => cases ha
      | src => cases ha
      | tm m => cases ha
    · exact ih a ha
theorem Woks.length {ws : List W} {vs : List V} {G : List Addr} (h : Woks T fp H H' ws vs G) : vs.length = ws.length := by
  induction h with
  | nil => rfl
  | cons _ _ _ _ ih => rw [List.length_cons, List.length_cons, ih]
/-- a value that may be put into a list, a tuple, a dict -/
def sto : W → Option M
  | .im d => some (.im d)
  | .new m => some m
  | _ => none
def stos : List W → Option (List M)
  | [] => some []
  | w :: ws => match sto w, stos ws with
    | some m, some ms => some (m :: ms)
    | _, _ => none
@[simp] theorem stos_nil : stos [] = some [] := rfl
@[simp] theorem stos_im (d : D) (ws : List W) : stos (.im d :: ws) = (stos ws).map (M.im d :: ·) := by
  cases h : stos ws <;> simp [stos, sto, h]
@[simp] theorem stos_new (m : M) (ws : List W) : stos (.new m :: ws) = (stos ws).map (m :: ·) := by
  cases h : stos ws <;> simp [stos, sto, h]
theorem sto_ok {w : W} {v : V} {g : List Addr} {m : M} (h : Wok T fp H H' w v g) (e : sto w = some m) : RM H' m v (nwf w g) := by
  cases w with
  | im d =>
    injection e with e
    subst e
    exact .im h.2
  | new m' =>
    injection e with e
    subst e
    exact h.1
  | sl i m' => cases e
  | src => cases e
  | tm m' => cases e
theorem stos_ok {ws : List W} {vs : List V} {G : List Addr} (h : Woks T fp H H' ws vs G) : ∀ {ms : List M}, stos ws = some ms → RMs H' ms vs G := by
  induction h with
  | nil =>
    intro ms e
    injection e with e
    subst e
    exact .nil
  | @cons w v g ws vs G F h1 _ d e ih =>
    intro ms q
    unfold stos at q
    cases q1 : sto w with
    | none => rw [q1] at q; cases q
    | some m =>
      cases q2 : stos ws with
      | none => rw [q1, q2] at q; cases q
      | some ms' =>
        rw [q1, q2] at q
        injection q with q
        subst q
        exact .cons' (sto_ok h1 q1) (ih q2) d e
/-- a value as an argument -/
def arg : W → Option M
  | .im d => some (.im d)
  | .new m => some m
  | .sl _ m => some m
  | .src => none
  | .tm m => some m
def args : List W → Option (List M)
  | [] => some []
  | w :: ws => match arg w, args ws with
    | some m, some ms => some (m :: ms)
    | _, _ => none
@[simp] theorem args_nil : args [] = some [] := rfl
@[simp] theorem args_im (d : D) (ws : List W) : args (.im d :: ws) = (args ws).map (M.im d :: ·) := by
  cases h : args ws <;> simp [args, arg, h]
@[simp] theorem args_new (m : M) (ws : List W) : args (.new m :: ws) = (args ws).map (m :: ·) := by
  cases h : args ws <;> simp [args, arg, h]
@[simp] theorem args_sl (i : Nat) (m : M) (ws : List W) : args (.sl i m :: ws) = (args ws).map (m :: ·) := by
  cases h : args ws <;> simp [args, arg, h]
inductive AllRM (H : Hp) : List M → List V → Prop
  | nil : AllRM H [] []
  | cons {m : M} {v : V} {f : List Addr} {ms : List M} {vs : List V} : RM H m v f → AllRM H ms vs → AllRM H (m :: ms) (v :: vs)
theorem arg_ok {w : W} {v : V} {g : List Addr} {m : M} (h : Wok T fp H H' w v g) (e : arg w = some m) : RM H' m v g := by
  cases w with
  | im d =>
    injection e with e
    subst e
    obtain ⟨rfl, h⟩ := h
    exact .im h
  | new m' =>
    injection e with e
    subst e
    exact h.1
  | sl i m' =>
    injection e with e
    subst e
    exact h.1
  | src => cases e
  | tm m' =>
    injection e with e
    subst e
    exact h.1
theorem args_ok {ws : List W} {vs : List V} {G : List Addr} (h : Woks T fp H H' ws vs G) : ∀ {ms : List M}, args ws = some ms → AllRM H' ms vs := by
  induction h with
  | nil =>
    intro ms e
    injection e with e
    subst e
    exact .nil
  | @cons w v g ws vs G F h1 _ d e ih =>
    intro ms q
    unfold args at q
    cases q1 : arg w with
    | none => rw [q1] at q; cases q
    | some m =>
      cases q2 : args ws with
      | none => rw [q1, q2] at q; cases q
      | some ms' =>
        rw [q1, q2] at q
        injection q with q
        subst q
        exact .cons (arg_ok h1 q1) (ih q2)
theorem AllRM.length {ms : List M} {vs : List V} (h : AllRM H ms vs) : vs.length = ms.length := by
  induction h with
  | nil => rfl
  | cons _ _ ih => rw [List.length_cons, List.length_cons, ih]
/-- a made value as an expression's -/
def ofM : M → W
  | .im d => .im d
  | m => .new m
@[simp] theorem ofM_im (d : D) : ofM (.im d) = .im d := rfl
@[simp] theorem ofM_lst (x : List M) : ofM (.lst x) = .new (.lst x) := rfl
@[simp] theorem ofM_mtp (x : List M) : ofM (.mtp x) = .new (.mtp x) := rfl
@[simp] theorem ofM_dk (x : List (Key × M)) : ofM (.dk x) = .new (.dk x) := rfl
@[simp] theorem ofM_dt (x : List (List Key × M)) : ofM (.dt x) = .new (.dt x) := rfl
theorem RM.inv_im {d : D} {v : V} {f : List Addr} (h : RM H (.im d) v f) : f = [] ∧ RI H d v := by
  cases h with
  | im h => exact ⟨rfl, h⟩
theorem ofM_ok {m : M} {v : V} {f : List Addr} (h : RM H' m v f) (n : ∀ a ∈ f, H a = none) (pl : Pln H' m v) : Wok T fp H H' (ofM m) v f := by
  cases m with
  | im d => exact RM.inv_im h
  | lst x => exact ⟨h, n, pl⟩
  | mtp x => exact ⟨h, n, pl⟩
  | dk x => exact ⟨h, n, pl⟩
  | dt x => exact ⟨h, n, pl⟩

/-! ### the frame -/
theorem Frm.exp (E : Env T H0 ρ σ H fp s) (x : ExV T H H') : Frm T ρ ρ H H' fp fp :=
  ⟨fun a o e n _ => x a o n e, fun i hi a ha => .inl ⟨i, hi, ha⟩⟩
theorem Frm.trans {ρ1 ρ2 : Rho} {H1 : Hp} {fp1 fp2 : Nat → List Addr} {s s1 : S} (r : T.rel s H) (r1 : T.rel s1 H1) (a : Frm T ρ ρ1 H H1 fp fp1) (b : Frm T ρ1 ρ2 H1 H2 fp1 fp2) : Frm T ρ ρ2 H H2 fp fp2 where
  keep := fun c o e n h => b.keep c o (a.keep c o e n h) n fun i hi hc => by
    rcases a.anew i hi c hc with ⟨j, hj, q⟩ | q
    · exact h j hj q
    · rw [e] at q; cases q
  anew := fun i hi c hc => by
    rcases b.anew i hi c hc with ⟨j, hj, q⟩ | q
    · exact a.anew j hj c q
    · by_cases hx : ∃ j, isOwn ρ j ∧ c ∈ fp j
      · exact .inl hx
      · right
        cases e : H c with
        | none => rfl
        | some o =>
          by_cases n : T.own c
          · obtain ⟨o', e', _⟩ := T.at_ r1 n
            rw [q] at e'; cases e'
          · rw [a.keep c o e n fun j hj z => hx ⟨j, hj, z⟩] at q
            cases q
theorem OutP.mono {D : Ends} {o : Out} {ρ1 : Rho} {H1 : Hp} {fp1 : Nat → List Addr} {s1 : S} (r : T.rel s H) (r1 : T.rel s1 H1) (a : Frm T ρ ρ1 H H1 fp fp1) (h : OutP T H0 ρ H fp D s' o) : OutP T H0 ρ1 H1 fp1 D s' o := by
  cases o with
  | nx ρ' => exact fun σ' H' fp' E F => h σ' H' fp' E (Frm.trans r r1 a F)
  | bk ρ' => exact fun σ' H' fp' E F => h σ' H' fp' E (Frm.trans r r1 a F)
  | ct ρ' => exact fun σ' H' fp' E F => h σ' H' fp' E (Frm.trans r r1 a F)
  | rt m => exact h

/-! ### stores -/
/-- what a name holds behind a store of a value (a part of an object only where that stands still) -/
def cellOf (ρ : Rho) : W → Option C
  | .im d => some (.im d)
  | .new m => some (.own m)
  | .sl i m => match cel ρ i with
    | .frz l _ => some (.frz l m)
    | _ => none
  | .src => some .src
  | .tm m => some (.frz true m)
@[simp] theorem cellOf_im (ρ : Rho) (d : D) : cellOf ρ (.im d) = some (.im d) := rfl
@[simp] theorem cellOf_new (ρ : Rho) (m : M) : cellOf ρ (.new m) = some (.own m) := rfl
@[simp] theorem cellOf_src (ρ : Rho) : cellOf ρ .src = some .src := rfl
def fpu (fp : Nat → List Addr) (i : Nat) (g : List Addr) : Nat → List Addr := fun j => if j = i then g else fp j
theorem cel_set_self {i : Nat} {c : C} (h : i < ρ.length) : cel (ρ.set i c) i = c := by
  unfold cel
  rw [List.getElem?_set_self h]
  rfl
theorem cel_set_ne {i j : Nat} {c : C} (h : j ≠ i) : cel (ρ.set i c) j = cel ρ j := by
  unfold cel
  rw [List.getElem?_set_ne (Ne.symm h)]
theorem isOwn_frz {i : Nat} {l : Bool} {m : M} (h : cel ρ i = .frz l m) : ¬ isOwn ρ i := fun ⟨m', e⟩ => by
  rw [h] at e
  cases e
theorem env_store {w : W} {v : V} {g : List Addr} {i : Nat} {c : C} (E : Env T H0 ρ σ H fp s) (x : ExV T H H') (r : T.rel s' H') (h : Wok T fp H H' w v g) (hc : cellOf ρ w = some c) (hi : i < ρ.length) :
    ∃ fp', Env T H0 (ρ.set i c) (σ.set i (some v)) H' fp' s' ∧ Frm T ρ (ρ.set i c) H H' fp fp' := by
  have E' := E.step x r
  have hσ : i < σ.length := by rw [E.len]; exact hi
  have frH0 : ∀ a, H a = none → H0 a = none := fun a ha => by
    cases q : H0 a with
    | none => rfl
    | some o =>
      rw [E.ex a o (T.new E.rel ha) q] at ha
      cases ha
  -- the footprint of the stored value
  have key : ∃ g', CellOk T H0 H' c (some (some v)) g' ∧ (∀ j, j ≠ i → isOwn ρ j → ∀ a ∈ fp j, a ∉ g') ∧ ((∃ m, c = .own m) → ∀ a ∈ g', H a = none) := by
    cases w with
    | im d =>
      injection hc with hc
      subst hc
      exact ⟨[], ⟨rfl, v, rfl, h.2⟩, (fun _ _ _ _ _ z => by cases z), (fun ⟨_, e⟩ => by cases e)⟩
    | new m =>
      injection hc with hc
      subst hc
      refine ⟨g, ⟨⟨v, rfl, h.1, h.2.2⟩, fun a ha => ⟨frH0 a (h.2.1 a ha), T.new E.rel (h.2.1 a ha)⟩⟩, fun j _ _ a ha hg => ?_, fun _ a ha => h.2.1 a ha⟩
      obtain ⟨o, e⟩ := (E.mu j a ha).1.some
      rw [h.2.1 a hg] at e
      cases e
    | tm m =>
      injection hc with hc
      subst hc
      refine ⟨g, ⟨⟨v, rfl, h.1⟩, fun a ha => ⟨T.new E.rel (h.2 a ha), fun _ => frH0 a (h.2 a ha)⟩⟩, fun j _ _ a ha hg => ?_, fun ⟨_, e⟩ => by cases e⟩
      obtain ⟨o, e⟩ := (E.mu j a ha).1.some
      rw [h.2 a hg] at e
      cases e
    | sl k m =>
      have hc' : (match cel ρ k with
        | .frz l _ => some (C.frz l m)
        | _ => none) = some c := hc
      cases q : cel ρ k with
      | frz l m' =>
        rw [q] at hc'
        injection hc' with hc'
        subst hc'
        have ok := E'.ok k
        rw [q] at ok
        refine ⟨g, ⟨⟨v, rfl, h.1⟩, fun a ha => ok.2 a (h.2 a ha)⟩, fun j hj ho a ha hg => ?_, fun ⟨_, e⟩ => by cases e⟩
        by_cases e : j = k
        · subst e
          exact isOwn_frz q ho
        · exact E.sep j k e ho a ha (h.2 a hg)
      | no => rw [q] at hc'; cases hc'
      | im d => rw [q] at hc'; cases hc'
      | own m' => rw [q] at hc'; cases hc'
      | src => rw [q] at hc'; cases hc'
      | lck n m' => rw [q] at hc'; cases hc'
    | src =>
      injection hc with hc
      subst hc
      obtain ⟨_, e⟩ := h
      exact ⟨[], ⟨rfl, by rw [e]⟩, (fun _ _ _ _ _ z => by cases z), (fun ⟨_, e⟩ => by cases e)⟩
  obtain ⟨g', ok, sp, nw⟩ := key
  have own_i : isOwn (ρ.set i c) i → ∃ m, c = .own m := fun ⟨m, e⟩ => by
    rw [cel_set_self hi] at e
    exact ⟨m, e⟩
  have own_ne : ∀ j, j ≠ i → isOwn (ρ.set i c) j → isOwn ρ j := fun j hj ⟨m, e⟩ => by
    rw [cel_set_ne hj] at e
    exact ⟨m, e⟩
  refine ⟨fpu fp i g', ⟨by rw [List.length_set, List.length_set, E.len], r, E'.ex, fun j => ?_, fun j k hjk ho a ha hb => ?_, Lkd.step E.lkd x⟩, ⟨fun a o e n _ => x a o n e, fun j ho a ha => ?_⟩⟩
  · by_cases e : j = i
    · subst e
      rw [cel_set_self hi, List.getElem?_set_self hσ]
      unfold fpu
      rw [if_pos rfl]
      exact ok
    · rw [cel_set_ne e, List.getElem?_set_ne (Ne.symm e)]
      unfold fpu
      rw [if_neg e]
      exact E'.ok j
  · unfold fpu at ha hb
    by_cases e : j = i
    · subst e
      rw [if_pos rfl] at ha
      rw [if_neg (Ne.symm hjk)] at hb
      obtain ⟨o, e⟩ := (E.mu k a hb).1.some
      rw [nw (own_i ho) a ha] at e
      cases e
    · rw [if_neg e] at ha
      by_cases e2 : k = i
      · subst e2
        rw [if_pos rfl] at hb
        exact sp j e (own_ne j e ho) a ha hb
      · rw [if_neg e2] at hb
        exact E.sep j k hjk (own_ne j e ho) a ha hb
  · unfold fpu at ha
    by_cases e : j = i
    · subst e
      rw [if_pos rfl] at ha
      exact .inr (nw (own_i ho) a ha)
    · rw [if_neg e] at ha
      exact .inl ⟨j, own_ne j e ho, ha⟩
def keepF : C → List Addr → List Addr
  | .no, _ => []
  | _, f => f
theorem keepF_sub {c : C} {f : List Addr} {a : Addr} (h : a ∈ keepF c f) : a ∈ f := by
  cases c <;> first | exact h | cases h
/-- a name's cell is forgotten, or its object stands still from now on -/
def weaker : C → C → Prop
  | _, .no => True
  | .own m, .frz l m' => l = true ∧ m' = m
  | a, b => a = b
theorem env_weak {i : Nat} {c : C} (E : Env T H0 ρ σ H fp s) (h : weaker (cel ρ i) c) : ∃ fp', Env T H0 (ρ.set i c) σ H fp' s ∧ Frm T ρ (ρ.set i c) H H fp fp' ∧ ∀ j, j ≠ i → fp' j = fp j := by
  by_cases hi : i < ρ.length
  · have own_ne : ∀ j, isOwn (ρ.set i c) j → isOwn ρ j := fun j ⟨m, e⟩ => by
      by_cases hj : j = i
      · subst hj
        rw [cel_set_self hi] at e
        subst e
        cases q : cel ρ j with
        | own m' => exact ⟨m', q⟩
        | no => rw [q] at h; cases h
        | im d => rw [q] at h; cases h
        | frz l m' => rw [q] at h; cases h
        | src => rw [q] at h; cases h
        | lck n m' => rw [q] at h; cases h
      · rw [cel_set_ne hj] at e
        exact ⟨m, e⟩
    refine ⟨fpu fp i (keepF c (fp i)), ⟨by rw [List.length_set, E.len], E.rel, E.ex, fun j => ?_, fun j k hjk ho a ha hb => ?_, E.lkd⟩, ⟨fun a o e n _ => e, fun j ho a ha => ?_⟩, fun j hj => by unfold fpu; rw [if_neg hj]⟩
    · by_cases e : j = i
      · subst e
        rw [cel_set_self hi]
        unfold fpu
        rw [if_pos rfl]
        have ok := E.ok j
        cases c with
        | no => exact rfl
        | im d =>
          cases q : cel ρ j with
          | im d' => rw [q] at h ok; cases h; exact ok
          | no => rw [q] at h; cases h
          | own m' => rw [q] at h; cases h
          | frz l m' => rw [q] at h; cases h
          | src => rw [q] at h; cases h
          | lck n m' => rw [q] at h; cases h
        | own m =>
          cases q : cel ρ j with
          | own m' => rw [q] at h ok; cases h; exact ok
          | no => rw [q] at h; cases h
          | im d' => rw [q] at h; cases h
          | frz l m' => rw [q] at h; cases h
          | src => rw [q] at h; cases h
          | lck n m' => rw [q] at h; cases h
        | frz l m =>
          cases q : cel ρ j with
          | own m' =>
            rw [q] at h ok
            obtain ⟨rfl, rfl⟩ := h
            exact ⟨let ⟨v, h1, h2, _⟩ := ok.1; ⟨v, h1, h2⟩, fun a ha => ⟨(ok.2 a ha).2, fun _ => (ok.2 a ha).1⟩⟩
          | frz l' m' => rw [q] at h ok; cases h; exact ok
          | no => rw [q] at h; cases h
          | im d' => rw [q] at h; cases h
          | src => rw [q] at h; cases h
          | lck n m' => rw [q] at h; cases h
        | src =>
          cases q : cel ρ j with
          | src => rw [q] at ok; exact ok
          | no => rw [q] at h; cases h
          | im d' => rw [q] at h; cases h
          | own m' => rw [q] at h; cases h
          | frz l m' => rw [q] at h; cases h
          | lck n m' => rw [q] at h; cases h
        | lck n m =>
          cases q : cel ρ j with
          | lck n' m' => rw [q] at h ok; cases h; exact ok
          | no => rw [q] at h; cases h
          | im d' => rw [q] at h; cases h
          | own m' => rw [q] at h; cases h
          | frz l m' => rw [q] at h; cases h
          | src => rw [q] at h; cases h
      · rw [cel_set_ne e]
        unfold fpu
        rw [if_neg e]
        exact E.ok j
    · have sub : ∀ n a, a ∈ fpu fp i (keepF c (fp i)) n → a ∈ fp n := fun n a h => by
        unfold fpu at h
        by_cases e : n = i
        · subst e
          rw [if_pos rfl] at h
          exact keepF_sub h
        · rw [if_neg e] at h
          exact h
      exact E.sep j k hjk (own_ne j ho) a (sub j a ha) (sub k a hb)
    · have sub : ∀ n a, a ∈ fpu fp i (keepF c (fp i)) n → a ∈ fp n := fun n a h => by
        unfold fpu at h
        by_cases e : n = i
        · subst e
          rw [if_pos rfl] at h
          exact keepF_sub h
        · rw [if_neg e] at h
          exact h
      exact .inl ⟨j, own_ne j ho, sub j a ha⟩
  · rw [List.set_eq_of_length_le (by omega)]
    exact ⟨fp, E, ⟨fun a o e n _ => e, fun j ho a ha => .inl ⟨j, ho, ha⟩⟩, fun _ _ => rfl⟩
end
end Pl
end

section
set_option Elab.async false
set_option linter.all false
set_option maxRecDepth 100000
set_option maxHeartbeats 1000000
namespace Pl
open PySem PySem.Spec PyProof.Rows L2

section
variable {S : Type} {X : Cx} {𝒯 : Fam S} {pos : Pos}

/-! ### names, constants -/
def ofCel (i : Nat) : C → Option W
  | .im d => some (.im d)
  | .own m => some (.sl i m)
  | .frz _ m => some (.sl i m)
  | .src => some .src
  | _ => none
@[simp] theorem ofCel_im (i : Nat) (d : D) : ofCel i (.im d) = some (.im d) := rfl
@[simp] theorem ofCel_own (i : Nat) (m : M) : ofCel i (.own m) = some (.sl i m) := rfl
@[simp] theorem ofCel_frz (i : Nat) (l : Bool) (m : M) : ofCel i (.frz l m) = some (.sl i m) := rfl
@[simp] theorem ofCel_src (i : Nat) : ofCel i .src = some .src := rfl
def fVar (i : Nat) : Fn S W := fun ρ s => lft (ofCel i (cel ρ i)) s id
theorem de_var {i : Nat} : DE 𝒯 (tVar i) (fVar i : Fn S W) := by
  intro T hT H0 ρ σ H fp s Q w s' E e h
  obtain ⟨w', e1, e2, rfl⟩ := lft_of e
  have e2 : w = w' := e2
  subst e2
  have ok := E.ok i
  have fin : ∀ v g, Wok T fp H H w v g → Q v H := fun v g x => h v H g (ExV.refl T H) E.rel x
  cases q : cel ρ i with
  | no => rw [q] at e1; cases e1
  | lck n m => rw [q] at e1; cases e1
  | im d =>
    rw [q] at e1 ok
    obtain ⟨_, v, ev, r⟩ := ok
    injection e1 with e1
    subst e1
    exact ⟨v, ev, fin v [] ⟨rfl, r⟩⟩
  | own m =>
    rw [q] at e1 ok
    obtain ⟨⟨v, ev, r, _⟩, _⟩ := ok
    injection e1 with e1
    subst e1
    exact ⟨v, ev, fin v (fp i) ⟨r, fun _ z => z⟩⟩
  | frz l m =>
    rw [q] at e1 ok
    obtain ⟨⟨v, ev, r⟩, _⟩ := ok
    injection e1 with e1
    subst e1
    exact ⟨v, ev, fin v (fp i) ⟨r, fun _ z => z⟩⟩
  | src =>
    rw [q] at e1 ok
    obtain ⟨_, ev⟩ := ok
    injection e1 with e1
    subst e1
    exact ⟨T.ref, ev, fin _ [] ⟨rfl, rfl⟩⟩
theorem d_name (i : Nat) {x : Str} {pos : Pos} (h : PE X (.Name x pos) (tVar i)) : PD X 𝒯 (.Name x pos) (tVar i) (fVar i : Fn S W) := ⟨h, de_var⟩
def fC (d : D) : Fn S W := fun _ s => some (.im d, s)
theorem de_c {v : V} {d : D} (h : ∀ H, RI H d v) : DE 𝒯 (tC v) (fC d : Fn S W) := by
  intro T hT H0 ρ σ H fp s Q w s' E e k
  injection e with e
  injection e with e1 e2
  subst e1
  subst e2
  exact k v H [] (ExV.refl T H) E.rel ⟨rfl, h H⟩
theorem d_int {i : Int} {j} : PD X 𝒯 (.Constant (.int i) j pos) (tC (.int i)) (fC (.int i) : Fn S W) := ⟨pe_int, de_c fun _ => .int i⟩
theorem d_bl {b : Bool} {j} : PD X 𝒯 (.Constant (.bool b) j pos) (tC (.bl b)) (fC (.bl b) : Fn S W) := ⟨pe_bl, de_c fun _ => .bl b⟩
theorem d_non {j} : PD X 𝒯 (.Constant .none j pos) (tC .non) (fC .non : Fn S W) := ⟨pe_non, de_c fun _ => .non⟩
theorem d_str {x : Str} {j} : PD X 𝒯 (.Constant (.str x) j pos) (tC (.str x)) (fC (.str x) : Fn S W) := ⟨pe_str, de_c fun _ => .str x⟩
theorem d_glob {x : Str} {v : V} {d : D} (h : PE X (.Name x pos) (tC v)) (r : ∀ H, RI H d v) : PD X 𝒯 (.Name x pos) (tC v) (fC d : Fn S W) := ⟨h, de_c r⟩

/-! ### rows of expressions -/
variable {e : Expr} {es : List Expr} {te : TE} {ts : TA} {f : Fn S W} {fs : Fn S (List W)}
def fNil : Fn S (List W) := fun _ s => some ([], s)
def fCons (f : Fn S W) (fs : Fn S (List W)) : Fn S (List W) := fun ρ s => bnd (f ρ s) fun w s1 => bnd (fs ρ s1) fun ws s2 => some (w :: ws, s2)
theorem da_nil : DA 𝒯 tNil (fNil : Fn S (List W)) := by
  intro T hT H0 ρ σ H fp s Q w s' E e k
  injection e with e
  injection e with e1 e2
  subst e1
  subst e2
  exact k [] H [] (ExV.refl T H) E.rel .nil
theorem Woks.push {T : Vol S} {fp : Nat → List Addr} {H0 : Bs} {H H1 H2 : Hp} {ρ : Rho} {σ : L2.St} {s s1 s2 : S} {w : W} {v : V} {g : List Addr} {ws : List W} {vs : List V} {G : List Addr} (E : Env T H0 ρ σ H fp s) (x : ExV T H H1) (r : T.rel s1 H1) (y : ExV T H1 H2) (r2 : T.rel s2 H2)
    (h : Wok T fp H H1 w v g) (hs : Woks T fp H1 H2 ws vs G) : Woks T fp H H2 (w :: ws) (v :: vs) (nwf w g ++ G) := by
  refine .cons (h.keep E x r y) (hs.early x E.rel r) (fun a ha hG => ?_) rfl
  cases w with
  | new m =>
    obtain ⟨o, q⟩ := (h.1.mu a ha).some
    rw [hs.fresh a hG] at q
    cases q
  | im d => cases ha
  | sl i m => cases ha
  | src => cases ha
  | tm m => cases ha
theorem da_cons (h : DE 𝒯 te f) (hs : DA 𝒯 ts fs) : DA 𝒯 (tCons te ts) (fCons f fs) := by
  intro T hT H0 ρ σ H fp s Q ws' s' E e k
  obtain ⟨w, s1, e1, e⟩ := bnd_of e
  obtain ⟨ws, s2, e2, e⟩ := bnd_of e
  injection e with e
  injection e with e3 e4
  subst e3
  subst e4
  refine h T hT H0 ρ σ H fp s _ w s1 E e1 fun v H1 g x r ok => ?_
  refine hs T hT H0 ρ σ H1 fp s1 _ ws s2 (E.step x r) e2 fun vs H2 G y r2 oks => ?_
  exact k _ H2 _ (x.trans y) r2 (Woks.push E x r y r2 ok oks)
theorem a_nil : PDA X 𝒯 [] tNil (fNil : Fn S (List W)) := ⟨pa_nil, da_nil⟩
theorem a_cons (h : PD X 𝒯 e te f) (hs : PDA X 𝒯 es ts fs) (he : starEach (e :: es) X.env = (false, eval e X.env) :: starEach es X.env := by rfl) : PDA X 𝒯 (e :: es) (tCons te ts) (fCons f fs) := ⟨pa_cons h.pe hs.pe he, da_cons h.de hs.de⟩

/-! ### displays -/
def allIm : List M → Option (List D)
  | [] => some []
  | .im d :: ms => (allIm ms).map (d :: ·)
  | _ :: _ => none
@[simp] theorem allIm_nil : allIm [] = some [] := rfl
@[simp] theorem allIm_cons (d : D) (ms : List M) : allIm (.im d :: ms) = (allIm ms).map (d :: ·) := rfl
@[simp] theorem allIm_ims (ds : List D) : allIm (ds.map M.im) = some ds := by
  induction ds with
  | nil => rfl
  | cons d ds ih =>
    rw [List.map_cons, allIm_cons, ih]
    rfl
theorem allIm_eq : ∀ {ms : List M} {ds : List D}, allIm ms = some ds → ms = ds.map M.im
  | [], ds, h => by
    injection h with h
    subst h
    rfl
  | m :: ms, ds, h => by
    cases m with
    | im d =>
      have h : (allIm ms).map (d :: ·) = some ds := h
      cases q : allIm ms with
      | none => rw [q] at h; cases h
      | some es =>
        rw [q] at h
        injection h with h
        subst h
        rw [allIm_eq q]
        rfl
    | lst x => cases h
    | mtp x => cases h
    | dk x => cases h
    | dt x => cases h
def tupM (ms : List M) : M := match allIm ms with
  | some ds => .im (.tup ds)
  | none => .mtp ms
@[simp] theorem tupM_ims (ds : List D) : tupM (ds.map M.im) = .im (.tup ds) := by
  unfold tupM
  rw [allIm_ims]
theorem tupM_ok {H : Hp} {ms : List M} {vs : List V} {f : List Addr} {p : Addr} (h : H p = some (.tup vs)) (r : RMs H ms vs f) : RM H (tupM ms) (.ref p) f := by
  unfold tupM
  cases q : allIm ms with
  | none => exact .mtp h r
  | some ds =>
    have e := allIm_eq q
    subst e
    obtain ⟨r2, e2⟩ := RMs.of_ims r
    subst e2
    exact .im (.tup h r2)
theorem pln_tupM {H : Hp} {v : V} (ms : List M) : Pln H (tupM ms) v := by
  unfold tupM
  cases allIm ms with
  | none => exact True.intro
  | some ds => exact True.intro
def cap : Nat := 1000000
def szOk (n : Nat) : Bool := decide (n ≤ cap)
theorem szOk_le {n : Nat} (h : szOk n = true) : n ≤ sizeLine := Nat.le_trans (of_decide_eq_true h) (by decide)
theorem szOk_lt {n : Nat} (h : szOk n = true) : n < sizeLine := Nat.lt_of_le_of_lt (of_decide_eq_true h) (by decide)
def fTup (fs : Fn S (List W)) : Fn S W := fun ρ s => bnd (fs ρ s) fun ws s1 => if szOk ws.length then lft (stos ws) s1 fun ms => ofM (tupM ms) else none
def fLst (fs : Fn S (List W)) : Fn S W := fun ρ s => bnd (fs ρ s) fun ws s1 => if szOk ws.length then lft (stos ws) s1 fun ms => .new (.lst ms) else none
theorem new_tk {H : Hp} {p : Addr} {o : HO} (h : H p = none) : TK H (upd H p o) := tk_upd (none_ntup h)
theorem keep_new {H : Hp} {p : Addr} {o : HO} {m : M} {v : V} {f : List Addr} (h : H p = none) (r : RM H m v f) : RM (upd H p o) m v f := r.keep (new_tk h) fun a ha => upd_ne (by
  intro e
  subst e
  obtain ⟨u, q⟩ := (r.mu a ha).some
  rw [h] at q
  cases q)
theorem keeps_new {H : Hp} {p : Addr} {o : HO} {m : List M} {v : List V} {f : List Addr} (h : H p = none) (r : RMs H m v f) : RMs (upd H p o) m v f := r.keep (new_tk h) fun a ha => upd_ne (by
  intro e
  subst e
  obtain ⟨u, q⟩ := (r.mu a ha).some
  rw [h] at q
  cases q)
theorem notmem_new {H : Hp} {p : Addr} {m : List M} {v : List V} {f : List Addr} (h : H p = none) (r : RMs H m v f) : p ∉ f := fun ha => by
  obtain ⟨u, q⟩ := (r.mu p ha).some
  rw [h] at q
  cases q
/-- a new list of stored things -/
theorem new_lst {H H1 : Hp} {p : Addr} {ms : List M} {vs : List V} {f : List Addr} (h : H1 p = none) (hp : H p = none) (r : RMs H1 ms vs f) (n : ∀ a ∈ f, H a = none) :
    RM (upd H1 p (.lst vs)) (.lst ms) (.ref p) (p :: f) ∧ (∀ a ∈ p :: f, H a = none) ∧ Pln (upd H1 p (.lst vs)) (.lst ms) (.ref p) := by
  refine ⟨.lst upd_same (keeps_new h r) (notmem_new h r), fun a ha => ?_, True.intro⟩
  rcases List.mem_cons.mp ha with e | ha
  · subst e
    exact hp
  · exact n a ha
theorem de_tup (hs : DA 𝒯 ts fs) : DE 𝒯 (tTup ts) (fTup fs) := by
  intro T hT H0 ρ σ H fp s Q w s' E e k
  obtain ⟨ws, s1, e1, e⟩ := bnd_of e
  by_cases hz : szOk ws.length = true
  · rw [if_pos hz] at e
    obtain ⟨ms, e2, rfl, rfl⟩ := lft_of e
    refine hs T hT H0 ρ σ H fp s _ ws _ E e1 fun vs H1 G x r oks => ⟨by rw [oks.length]; exact szOk_le hz, fun p hp => ?_⟩
    have rm := tupM_ok upd_same (keeps_new (o := .tup vs) hp (stos_ok oks e2))
    refine k _ _ G (x.trans (ExV.new hp)) (T.upd r (T.new r hp)) (ofM_ok rm oks.fresh (pln_tupM _))
  · rw [if_neg hz] at e
    cases e
theorem de_lst (hs : DA 𝒯 ts fs) : DE 𝒯 (tLst ts) (fLst fs) := by
  intro T hT H0 ρ σ H fp s Q w s' E e k
  obtain ⟨ws, s1, e1, e⟩ := bnd_of e
  by_cases hz : szOk ws.length = true
  · rw [if_pos hz] at e
    obtain ⟨ms, e2, rfl, rfl⟩ := lft_of e
    refine hs T hT H0 ρ σ H fp s _ ws _ E e1 fun vs H1 G x r oks => ⟨by rw [oks.length]; exact szOk_le hz, fun p hp => ?_⟩
    exact k _ _ (p :: G) (x.trans (ExV.new hp)) (T.upd r (T.new r hp)) (new_lst hp (x.back E.rel hp r) (stos_ok oks e2) oks.fresh)
  · rw [if_neg hz] at e
    cases e
theorem d_tup {x1} (h : PDA X 𝒯 es ts fs) : PD X 𝒯 (.Tuple es x1 pos) (tTup ts) (fTup fs) := ⟨pe_tup h.pe, de_tup h.de⟩
theorem d_lst (h : PDA X 𝒯 es ts fs) : PD X 𝒯 (.List es pos) (tLst ts) (fLst fs) := ⟨pe_lst h.pe, de_lst h.de⟩

/-! ### operators on fixed data -/
variable {a b : Expr} {ta tb : TE} {fa fb : Fn S W} {r : R2}
/-- a two-place operation whose answer is fixed data and that leaves the heap -/
def OpD (r : R2) (o : W → W → Option D) : Prop := ∀ (S : Type) (T : Vol S) (H0 : Bs) (ρ : Rho) (σ : L2.St) (H Ha : Hp) (fp : Nat → List Addr) (s : S) (x y : W) (u v : V) (g g' : List Addr) (d : D) (Q : VK),
  Env T H0 ρ σ H fp s → Wok T fp Ha H x u g → Wok T fp Ha H y v g' → o x y = some d → (∀ z, RI H d z → Q z H) → r u v H Q
def fOp (o : W → W → Option D) (fa fb : Fn S W) : Fn S W := fun ρ s => bnd (fa ρ s) fun x s1 => bnd (fb ρ s1) fun y s2 => lft (o x y) s2 W.im
theorem de_op {o : W → W → Option D} (hr : OpD r o) (ha : DE 𝒯 ta fa) (hb : DE 𝒯 tb fb) : DE 𝒯 (tOp r ta tb) (fOp o fa fb) := by
  intro T hT H0 ρ σ H fp s Q w s' E e k
  obtain ⟨x, s1, e1, e⟩ := bnd_of e
  obtain ⟨y, s2, e2, e⟩ := bnd_of e
  obtain ⟨d, e3, rfl, rfl⟩ := lft_of e
  refine ha T hT H0 ρ σ H fp s _ x s1 E e1 fun u H1 g xx r1 ok1 => ?_
  have E1 := E.step xx r1
  refine hb T hT H0 ρ σ H1 fp s1 _ y _ E1 e2 fun v H2 g' yy r2 ok2 => ?_
  refine hr S T H0 ρ σ H2 H fp _ x y u v g g' d _ (E1.step yy r2) (ok1.keep E xx r1 yy) (ok2.early xx E.rel r1) e3 fun z rz => ?_
  exact k z H2 [] (xx.trans yy) r2 ⟨rfl, rz⟩
theorem d_op {o : W → W → Option D} {op : Operator} (ho : OpR X (binaryOp op) r) (hr : OpD r o) (ha : PD X 𝒯 a ta fa) (hb : PD X 𝒯 b tb fb) : PD X 𝒯 (.BinOp a op b pos) (tOp r ta tb) (fOp o fa fb) := ⟨pe_op ho ha.pe hb.pe, de_op hr ha.de hb.de⟩
theorem d_cmp {o : W → W → Option D} {op : CmpOp} (ho : OpR X (compareOp op) r) (hr : OpD r o) (ha : PD X 𝒯 a ta fa) (hb : PD X 𝒯 b tb fb) (hm : behindInMarks op b = false) : PD X 𝒯 (.Compare a [op] [b] pos) (tOp r ta tb) (fOp o fa fb) :=
  ⟨pe_cmpR ho ha.pe hb.pe hm, de_op hr ha.de hb.de⟩
/-- a test by such an expression -/
def asB : W → Option Bool
  | .im (.bl b) => some b
  | _ => none
@[simp] theorem asB_bl (b : Bool) : asB (.im (.bl b)) = some b := rfl
def fTest (f : Fn S W) : Fn S Bool := fun ρ s => bnd (f ρ s) fun w s1 => lft (asB w) s1 id
theorem RI.inv_bl {H : Hp} {b : Bool} {v : V} (h : RI H (.bl b) v) : v = .bl b := by
  cases h
  rfl
theorem RI.inv_int {H : Hp} {i : Int} {v : V} (h : RI H (.int i) v) : v = .int i := by
  cases h
  rfl
theorem RI.inv_str {H : Hp} {i : Str} {v : V} (h : RI H (.str i) v) : v = .str i := by
  cases h
  rfl
theorem RI.inv_non {H : Hp} {v : V} (h : RI H .non v) : v = .non := by
  cases h
  rfl
theorem RI.inv_tup {H : Hp} {ds : List D} {v : V} (h : RI H (.tup ds) v) : ∃ a xs, v = .ref a ∧ H a = some (.tup xs) ∧ RIs H ds xs := by
  cases h with
  | tup h r => exact ⟨_, _, rfl, h, r⟩
theorem RI.inv_ptp {H : Hp} {ds : List D} {v : V} (h : RI H (.ptp ds) v) : ∃ a o xs, v = .ref a ∧ H a = some (.frz o (.tup xs)) ∧ o.dict = none ∧ RIs H ds xs := by
  cases h with
  | ptp h n r => exact ⟨_, _, _, rfl, h, n, r⟩
theorem dt_test (h : DE 𝒯 te f) : DT 𝒯 (tTest te) (fTest f) := by
  intro T hT H0 ρ σ H fp s Q b s' E e k
  obtain ⟨w, s1, e1, e⟩ := bnd_of e
  obtain ⟨b', e2, rfl, rfl⟩ := lft_of e
  refine h T hT H0 ρ σ H fp s _ w _ E e1 fun v H1 g x r ok => ?_
  cases w with
  | im d =>
    cases d with
    | bl c =>
      injection e2 with e2
      subst e2
      exact ⟨c, ok.2.inv_bl, k H1 x r⟩
    | _ => cases e2
  | _ => cases e2
theorem t_cmp {o : W → W → Option D} {op : CmpOp} (ho : OpR X (compareOp op) r) (hr : OpD r o) (ha : PD X 𝒯 a ta fa) (hb : PD X 𝒯 b tb fb) (hm : behindInMarks op b = false) : PDT X 𝒯 (.Compare a [op] [b] pos) (tTest (tOp r ta tb)) (fTest (fOp o fa fb)) :=
  ⟨pt_cmpR ho ha.pe hb.pe hm, dt_test (de_op hr ha.de hb.de)⟩
theorem t_val (h : PD X 𝒯 e te f) (he : ∀ whole, isTrue e X.env whole = (do let v ← whole; standAt e.pos; holding [v] (truthy v)) := by intro _; rfl) : PDT X 𝒯 e (tTest te) (fTest f) := ⟨pt_val h.pe he, dt_test h.de⟩

/-! ### and, or, not, if-expressions -/
variable {rest : List Expr} {t u : TT} {ft fu : Fn S Bool}
def fAnd (ft fu : Fn S Bool) : Fn S Bool := fun ρ s => bnd (ft ρ s) fun b s1 => if b then fu ρ s1 else some (false, s1)
def fOr (ft fu : Fn S Bool) : Fn S Bool := fun ρ s => bnd (ft ρ s) fun b s1 => if b then some (true, s1) else fu ρ s1
def fNot (ft : Fn S Bool) : Fn S Bool := fun ρ s => bnd (ft ρ s) fun b s1 => some (!b, s1)
theorem dt_and (h : DT 𝒯 t ft) (h2 : DT 𝒯 u fu) : DT 𝒯 (tAnd t u) (fAnd ft fu) := by
  intro T hT H0 ρ σ H fp s Q b s' E e k
  obtain ⟨c, s1, e1, e⟩ := bnd_of e
  refine h T hT H0 ρ σ H fp s _ c s1 E e1 fun H1 x r => ?_
  cases c with
  | true =>
    rw [if_pos rfl] at e ⊢
    exact h2 T hT H0 ρ σ H1 fp s1 Q b s' (E.step x r) e fun H2 y r2 => k H2 (x.trans y) r2
  | false =>
    rw [if_neg Bool.false_ne_true] at e ⊢
    injection e with e
    injection e with e1 e2
    subst e1
    subst e2
    exact k H1 x r
theorem dt_or (h : DT 𝒯 t ft) (h2 : DT 𝒯 u fu) : DT 𝒯 (tOr t u) (fOr ft fu) := by
  intro T hT H0 ρ σ H fp s Q b s' E e k
  obtain ⟨c, s1, e1, e⟩ := bnd_of e
  refine h T hT H0 ρ σ H fp s _ c s1 E e1 fun H1 x r => ?_
  cases c with
  | true =>
    rw [if_pos rfl] at e ⊢
    injection e with e
    injection e with e1 e2
    subst e1
    subst e2
    exact k H1 x r
  | false =>
    rw [if_neg Bool.false_ne_true] at e ⊢
    exact h2 T hT H0 ρ σ H1 fp s1 Q b s' (E.step x r) e fun H2 y r2 => k H2 (x.trans y) r2
theorem dt_not (h : DT 𝒯 t ft) : DT 𝒯 (tNot t) (fNot ft) := by
  intro T hT H0 ρ σ H fp s Q b s' E e k
  obtain ⟨c, s1, e1, e⟩ := bnd_of e
  injection e with e
  injection e with e2 e3
  subst e2
  subst e3
  exact h T hT H0 ρ σ H fp s _ c s1 E e1 fun H1 x r => k H1 x r
theorem w_and1 (h : PDT X 𝒯 a t ft) : PDW X 𝒯 (.BoolOp .And [a] pos) t ft := ⟨pw_and1 h.pe, h.de⟩
theorem w_or1 (h : PDT X 𝒯 a t ft) : PDW X 𝒯 (.BoolOp .Or [a] pos) t ft := ⟨pw_or1 h.pe, h.de⟩
theorem w_and (h : PDT X 𝒯 a t ft) (h2 : PDW X 𝒯 (.BoolOp .And (b :: rest) pos) u fu) : PDW X 𝒯 (.BoolOp .And (a :: b :: rest) pos) (tAnd t u) (fAnd ft fu) := ⟨pw_and h.pe h2.pe, dt_and h.de h2.de⟩
theorem w_or (h : PDT X 𝒯 a t ft) (h2 : PDW X 𝒯 (.BoolOp .Or (b :: rest) pos) u fu) : PDW X 𝒯 (.BoolOp .Or (a :: b :: rest) pos) (tOr t u) (fOr ft fu) := ⟨pw_or h.pe h2.pe, dt_or h.de h2.de⟩
theorem PDW.pt (h : PDW X 𝒯 e t ft) : PDT X 𝒯 e t ft := ⟨h.pe.pt, h.de⟩
theorem t_not (h : PDT X 𝒯 a t ft) : PDT X 𝒯 (.UnaryOp .Not a pos) (tNot t) (fNot ft) := ⟨pt_not h.pe, dt_not h.de⟩
def fIf (ft : Fn S Bool) (fa fb : Fn S W) : Fn S W := fun ρ s => bnd (ft ρ s) fun b s1 => if b then fa ρ s1 else fb ρ s1
theorem de_if (h : DT 𝒯 t ft) (ha : DE 𝒯 ta fa) (hb : DE 𝒯 tb fb) : DE 𝒯 (tIf t ta tb) (fIf ft fa fb) := by
  intro T hT H0 ρ σ H fp s Q w s' E e k
  obtain ⟨c, s1, e1, e⟩ := bnd_of e
  refine h T hT H0 ρ σ H fp s _ c s1 E e1 fun H1 x r => ?_
  cases c with
  | true =>
    rw [if_pos rfl] at e ⊢
    exact ha T hT H0 ρ σ H1 fp s1 Q w s' (E.step x r) e fun v H2 g y r2 ok => k v H2 g (x.trans y) r2 (ok.early x E.rel r)
  | false =>
    rw [if_neg Bool.false_ne_true] at e ⊢
    exact hb T hT H0 ρ σ H1 fp s1 Q w s' (E.step x r) e fun v H2 g y r2 ok => k v H2 g (x.trans y) r2 (ok.early x E.rel r)
theorem d_ifExp {c : Expr} (h : PDT X 𝒯 c t ft) (ha : PD X 𝒯 a ta fa) (hb : PD X 𝒯 b tb fb) : PD X 𝒯 (.IfExp c a b pos) (tIf t ta tb) (fIf ft fa fb) := ⟨pe_ifExp h.pe ha.pe hb.pe, de_if h.de ha.de hb.de⟩
/-- and, or, not as values (True, False) -/
def fAndV (fa fb : Fn S W) : Fn S W := fun ρ s => bnd (fa ρ s) fun x s1 => match asB x with
  | some true => fb ρ s1
  | some false => some (.im (.bl false), s1)
  | none => none
def fOrV (fa fb : Fn S W) : Fn S W := fun ρ s => bnd (fa ρ s) fun x s1 => match asB x with
  | some true => some (.im (.bl true), s1)
  | some false => fb ρ s1
  | none => none
def fNotV (fa : Fn S W) : Fn S W := fun ρ s => bnd (fa ρ s) fun x s1 => lft (asB x) s1 fun b => .im (.bl (!b))
theorem asB_of {T : Vol S} {fp : Nat → List Addr} {H H' : Hp} {w : W} {v : V} {g : List Addr} {b : Bool} (h : Wok T fp H H' w v g) (e : asB w = some b) : v = .bl b := by
  cases w with
  | im d =>
    cases d with
    | bl c =>
      injection e with e
      subst e
      exact h.2.inv_bl
    | _ => cases e
  | _ => cases e
theorem de_andV (ha : DE 𝒯 ta fa) (hb : DE 𝒯 tb fb) : DE 𝒯 (tAndV ta tb) (fAndV fa fb) := by
  intro T hT H0 ρ σ H fp s Q w s' E e k
  obtain ⟨x, s1, e1, e⟩ := bnd_of e
  refine ha T hT H0 ρ σ H fp s _ x s1 E e1 fun v H1 g xx r ok => ?_
  cases q : asB x with
  | none => simp only [q] at e; cases e
  | some c =>
    simp only [q] at e
    refine ⟨c, asB_of ok q, ?_⟩
    cases c with
    | true =>
      rw [if_pos rfl]
      exact hb T hT H0 ρ σ H1 fp s1 Q w s' (E.step xx r) e fun v H2 g y r2 ok => k v H2 g (xx.trans y) r2 (ok.early xx E.rel r)
    | false =>
      rw [if_neg Bool.false_ne_true]
      injection e with e
      injection e with e1 e2
      subst e1
      subst e2
      exact k _ H1 [] xx r ⟨rfl, .bl false⟩
theorem de_orV (ha : DE 𝒯 ta fa) (hb : DE 𝒯 tb fb) : DE 𝒯 (tOrV ta tb) (fOrV fa fb) := by
  intro T hT H0 ρ σ H fp s Q w s' E e k
  obtain ⟨x, s1, e1, e⟩ := bnd_of e
  refine ha T hT H0 ρ σ H fp s _ x s1 E e1 fun v H1 g xx r ok => ?_
  cases q : asB x with
  | none => simp only [q] at e; cases e
  | some c =>
    simp only [q] at e
    refine ⟨c, asB_of ok q, ?_⟩
    cases c with
    | false =>
      rw [if_neg Bool.false_ne_true]
      exact hb T hT H0 ρ σ H1 fp s1 Q w s' (E.step xx r) e fun v H2 g y r2 ok => k v H2 g (xx.trans y) r2 (ok.early xx E.rel r)
    | true =>
      rw [if_pos rfl]
      injection e with e
      injection e with e1 e2
      subst e1
      subst e2
      exact k _ H1 [] xx r ⟨rfl, .bl true⟩
theorem de_notV (ha : DE 𝒯 ta fa) : DE 𝒯 (tNotV ta) (fNotV fa) := by
  intro T hT H0 ρ σ H fp s Q w s' E e k
  obtain ⟨x, s1, e1, e⟩ := bnd_of e
  obtain ⟨c, q, rfl, rfl⟩ := lft_of e
  refine ha T hT H0 ρ σ H fp s _ x _ E e1 fun v H1 g xx r ok => ?_
  exact ⟨c, asB_of ok q, k _ H1 [] xx r ⟨rfl, .bl _⟩⟩
theorem d_one {op} (h : PD X 𝒯 a ta fa) : PD X 𝒯 (.BoolOp op [a] pos) ta fa := ⟨pe_one h.pe, h.de⟩
theorem d_and (ha : PD X 𝒯 a ta fa) (hb : PD X 𝒯 (.BoolOp .And (b :: rest) pos) tb fb) : PD X 𝒯 (.BoolOp .And (a :: b :: rest) pos) (tAndV ta tb) (fAndV fa fb) := ⟨pe_and ha.pe hb.pe, de_andV ha.de hb.de⟩
theorem d_or (ha : PD X 𝒯 a ta fa) (hb : PD X 𝒯 (.BoolOp .Or (b :: rest) pos) tb fb) : PD X 𝒯 (.BoolOp .Or (a :: b :: rest) pos) (tOrV ta tb) (fOrV fa fb) := ⟨pe_or ha.pe hb.pe, de_orV ha.de hb.de⟩
theorem d_not (ha : PD X 𝒯 a ta fa) : PD X 𝒯 (.UnaryOp .Not a pos) (tNotV ta) (fNotV fa) := ⟨pe_not ha.pe, de_notV ha.de⟩
end
end Pl
end

section
set_option Elab.async false
set_option linter.all false
set_option maxRecDepth 100000
set_option maxHeartbeats 1000000
namespace Pl
open PySem PySem.Spec PyProof.Rows L2

/-! ### data of the library -/
mutual
def D.py : D → PyData
  | .non => .none
  | .bl b => .bool b
  | .int i => .int i
  | .str s => .str s
  | .tup ds => .tuple (D.pys ds)
  | .ptp ds => .tuple (D.pys ds)
def D.pys : List D → List PyData
  | [] => []
  | d :: ds => D.py d :: D.pys ds
end
mutual
def M.py : M → Option PyData
  | .im d => some d.py
  | .lst ms => (M.pys ms).map PyData.list
  | .mtp ms => (M.pys ms).map PyData.tuple
  | .dk _ => none
  | .dt _ => none
def M.pys : List M → Option (List PyData)
  | [] => some []
  | m :: ms => match M.py m, M.pys ms with
    | some p, some ps => some (p :: ps)
    | _, _ => none
end
mutual
theorem RI.dp {K : PySem.W.Frag} {H : Hp} : ∀ {d : D} {v : V}, RI H d v → Dp K H v d.py
  | _, _, .non => .non
  | _, _, .bl b => .bl b
  | _, _, .int i => .int i
  | _, _, .str s => .str s
  | _, _, .tup h r => .tup (.of h) (RIs.dp r)
  | _, _, .ptp h _ r => .tup (.inl (.inr ⟨_, h⟩)) (RIs.dp r)
theorem RIs.dp {K : PySem.W.Frag} {H : Hp} : ∀ {ds : List D} {vs : List V}, RIs H ds vs → DpAll K H vs (D.pys ds)
  | _, _, .nil => .nil
  | _, _, .cons h r => .cons (RI.dp h) (RIs.dp r)
end
mutual
theorem RM.dp {K : PySem.W.Frag} {H : Hp} : ∀ {m : M} {v : V} {f : List Addr} {p : PyData}, RM H m v f → M.py m = some p → Dp K H v p
  | _, _, _, _, .im h, e => by
    rw [M.py] at e
    injection e with e
    subst e
    exact h.dp
  | _, _, _, _, .lst (ms := ms) h r _, e => by
    rw [M.py] at e
    cases q : M.pys ms with
    | none => rw [q] at e; cases e
    | some ps =>
      rw [q] at e
      injection e with e
      subst e
      exact .lst (.of h) (RMs.dp r q)
  | _, _, _, _, .mtp (ms := ms) h r, e => by
    rw [M.py] at e
    cases q : M.pys ms with
    | none => rw [q] at e; cases e
    | some ps =>
      rw [q] at e
      injection e with e
      subst e
      exact .tup (.of h) (RMs.dp r q)
  | _, _, _, _, .dk _ _ _ _, e => by
    rw [M.py] at e
    cases e
  | _, _, _, _, .dt _ _ _ _, e => by
    rw [M.py] at e
    cases e
theorem RMs.dp {K : PySem.W.Frag} {H : Hp} : ∀ {ms : List M} {vs : List V} {f : List Addr} {ps : List PyData}, RMs H ms vs f → M.pys ms = some ps → DpAll K H vs ps
  | _, _, _, _, .nil, e => by
    rw [M.pys] at e
    injection e with e
    subst e
    exact .nil
  | _, _, _, _, .cons' (m := m) (ms := ms) h r _ _, e => by
    rw [M.pys] at e
    cases q : M.py m with
    | none => rw [q] at e; cases e
    | some p =>
      cases q2 : M.pys ms with
      | none => rw [q, q2] at e; cases e
      | some ps =>
        rw [q, q2] at e
        injection e with e
        subst e
        exact .cons (RM.dp h q) (RMs.dp r q2)
end
/-- as the library's data; what == and in may look at -/
def pyW : W → Option PyData
  | .im d => some d.py
  | .new m => m.py
  | .sl _ m => m.py
  | .src => none
  | .tm m => m.py
def okPy (d : PyData) : Bool := SeqAt.shaped d
theorem pyW_ok {S : Type} {K : PySem.W.Frag} {T : Vol S} {fp : Nat → List Addr} {H H' : Hp} {w : W} {v : V} {g : List Addr} {p : PyData} (h : Wok T fp H H' w v g) (e : pyW w = some p) : Dp K H' v p := by
  cases w with
  | im d =>
    injection e with e
    subst e
    exact h.2.dp
  | new m => exact h.1.dp e
  | sl i m => exact h.1.dp e
  | src => cases e
  | tm m => exact h.1.dp e

section
variable {S : Type} {X : Cx} {𝒯 : Fam S} {pos : Pos} {K : PySem.W.Frag}
/-! ### ==, !=, in -/
def oEq (x y : W) : Option D := match pyW x, pyW y with
  | some d, some e => if okPy d && okPy e then some (.bl (PyData.eqv d e)) else none
  | _, _ => none
def oNe (x y : W) : Option D := match pyW x, pyW y with
  | some d, some e => if okPy d && okPy e then some (.bl (!PyData.eqv d e)) else none
  | _, _ => none
theorem py2 {x y : W} {k : PyData → PyData → D} {z : D} (h : (match pyW x, pyW y with
  | some d, some e => if okPy d && okPy e then some (k d e) else none
  | _, _ => none) = some z) : ∃ d e, pyW x = some d ∧ pyW y = some e ∧ SeqAt.shaped d = true ∧ SeqAt.shaped e = true ∧ k d e = z := by
  cases q : pyW x with
  | none => rw [q] at h; cases h
  | some d =>
    cases q2 : pyW y with
    | none => rw [q, q2] at h; cases h
    | some e =>
      rw [q, q2] at h
      have h : (if okPy d && okPy e then some (k d e) else none) = some z := h
      by_cases c : (okPy d && okPy e) = true
      · rw [if_pos c] at h
        rw [Bool.and_eq_true] at c
        injection h with h
        exact ⟨d, e, rfl, rfl, c.1, c.2, h⟩
      · rw [if_neg c] at h
        cases h
theorem opd_eq : OpD (rEqD K) oEq := by
  intro S T H0 ρ σ H Ha fp s x y u v g g' d Q E hx hy e k
  obtain ⟨p, q, e1, e2, s1, s2, rfl⟩ := py2 (k := fun d e => D.bl (PyData.eqv d e)) e
  exact ⟨p, q, pyW_ok hx e1, pyW_ok hy e2, s1, s2, k _ (.bl _)⟩
theorem opd_ne : OpD (rNeD K) oNe := by
  intro S T H0 ρ σ H Ha fp s x y u v g g' d Q E hx hy e k
  obtain ⟨p, q, e1, e2, s1, s2, rfl⟩ := py2 (k := fun d e => D.bl (!PyData.eqv d e)) e
  exact ⟨p, q, pyW_ok hx e1, pyW_ok hy e2, s1, s2, k _ (.bl _)⟩
/-- in a list or a tuple of data -/
def rInA (K : PySem.W.Frag) (neg : Bool) : R2 := fun x y H Q => ∃ d ds, Dp K H x d ∧ (Dp K H y (.list ds) ∨ Dp K H y (.tuple ds)) ∧ SeqAt.shaped d = true ∧ SeqAt.shaped (.tuple ds) = true ∧
  Q (.bl (if neg then !(ds.any fun z => PyData.eqv z d) else ds.any fun z => PyData.eqv z d)) H
theorem shaped_lt {ds : List PyData} (h : SeqAt.shaped (.tuple ds) = true) : SeqAt.shaped (.list ds) = true := h
theorem op_inA (hu : X.A.units + 65 < cLine) : OpR X (compareOp .In) (rInA X.K false) := by
  intro pins s σ H x y v u Q I rx ry h
  obtain ⟨d, ds, hd, he, sd, se, q⟩ := h
  rcases he with he | he
  · exact op_inD hu pins s σ H x y v u Q I rx ry ⟨d, ds, hd, he, sd, shaped_lt se, q⟩
  · obtain ⟨as, r1⟩ := Dp.reads I d x v hd rx
    obtain ⟨bs, r2⟩ := Dp.reads I (.tuple ds) y u he ry
    exact SeqAt.in_tuple_reads r2 r1 (SeqAt.canLay_of_shaped se) (SeqAt.canLay_of_shaped sd) (room_in_shaped sd hu) ⟨.bl _, H, I, rfl, q⟩
theorem op_notInA (hu : X.A.units + 65 < cLine) : OpR X (compareOp .NotIn) (rInA X.K true) := by
  intro pins s σ H x y v u Q I rx ry h
  obtain ⟨d, ds, hd, he, sd, se, q⟩ := h
  rcases he with he | he
  · exact op_notInD hu pins s σ H x y v u Q I rx ry ⟨d, ds, hd, he, sd, shaped_lt se, q⟩
  · obtain ⟨as, r1⟩ := Dp.reads I d x v hd rx
    obtain ⟨bs, r2⟩ := Dp.reads I (.tuple ds) y u he ry
    exact SeqAt.notIn_tuple_reads r2 r1 (SeqAt.canLay_of_shaped se) (SeqAt.canLay_of_shaped sd) (room_in_shaped sd hu) ⟨.bl _, H, I, rfl, q⟩
def seqPy : PyData → Option (List PyData)
  | .list ds => some ds
  | .tuple ds => some ds
  | _ => none
def oIn (neg : Bool) (x y : W) : Option D := match pyW x, (pyW y).bind seqPy with
  | some d, some ds => if okPy d && okPy (.tuple ds) then some (.bl (if neg then !(ds.any fun z => PyData.eqv z d) else ds.any fun z => PyData.eqv z d)) else none
  | _, _ => none
theorem opd_in {neg : Bool} : OpD (rInA K neg) (oIn neg) := by
  intro S T H0 ρ σ H Ha fp s x y u v g g' d Q E hx hy e k
  unfold oIn at e
  cases q : pyW x with
  | none => rw [q] at e; cases e
  | some p =>
    cases q2 : (pyW y).bind seqPy with
    | none => rw [q, q2] at e; cases e
    | some ds =>
      rw [q, q2] at e
      have e : (if okPy p && okPy (.tuple ds) then some (D.bl (if neg then !(ds.any fun z => PyData.eqv z p) else ds.any fun z => PyData.eqv z p)) else none) = some d := e
      by_cases c : (okPy p && okPy (.tuple ds)) = true
      · rw [if_pos c] at e
        rw [Bool.and_eq_true] at c
        injection e with e
        subst e
        have hy2 : Dp K H v (.list ds) ∨ Dp K H v (.tuple ds) := by
          cases q3 : pyW y with
          | none => rw [q3] at q2; cases q2
          | some r =>
            rw [q3] at q2
            have q2 : seqPy r = some ds := q2
            have dp := pyW_ok (K := K) hy q3
            cases r with
            | list l =>
              injection q2 with q2
              subst q2
              exact .inl dp
            | tuple l =>
              injection q2 with q2
              subst q2
              exact .inr dp
            | none => cases q2
            | bool _ => cases q2
            | int _ => cases q2
            | str _ => cases q2
            | dict _ => cases q2
        exact ⟨p, ds, pyW_ok hx q, hy2, c.1, c.2, k _ (.bl _)⟩
      · rw [if_neg c] at e
        cases e

/-! ### whole numbers -/
def oI (C : Int → Int → Bool) (k : Int → Int → D) (x y : W) : Option D := match x, y with
  | .im (.int i), .im (.int j) => if C i j then some (k i j) else none
  | _, _ => none
theorem oI_of {C : Int → Int → Bool} {k : Int → Int → D} {x y : W} {d : D} (h : oI C k x y = some d) : ∃ i j, x = .im (.int i) ∧ y = .im (.int j) ∧ C i j = true ∧ d = k i j := by
  unfold oI at h
  split at h
  · rename_i i j
    by_cases c : C i j = true
    · rw [if_pos c] at h
      injection h with h
      exact ⟨i, j, rfl, rfl, c, h.symm⟩
    · rw [if_neg c] at h
      cases h
  · cases h
def cT (_ _ : Int) : Bool := true
def oAdd : W → W → Option D := oI cT fun i j => .int (i + j)
def oSub : W → W → Option D := oI cT fun i j => .int (i - j)
def cMul (i j : Int) : Bool := (decide (-(2 ^ 64) < i) && decide (i < 2 ^ 64)) || (decide (-(2 ^ 64) < j) && decide (j < 2 ^ 64))
def oMul : W → W → Option D := oI cMul fun i j => .int (i * j)
def cPos (_ j : Int) : Bool := decide (0 < j)
def oMod : W → W → Option D := oI cPos fun i j => .int (i % j)
def cDiv (_ j : Int) : Bool := decide (0 < j) && decide (j < 1073741824)
def oDiv : W → W → Option D := oI cDiv fun i j => .int (i / j)
def oLt : W → W → Option D := oI cT fun i j => .bl (decide (i < j))
def oLe : W → W → Option D := oI cT fun i j => .bl (decide (i ≤ j))
def oGt : W → W → Option D := oI cT fun i j => .bl (decide (j < i))
def oGe : W → W → Option D := oI cT fun i j => .bl (decide (j ≤ i))
theorem opd_I0 {k : Int → Int → D} {g : Int → Int → V} (h : ∀ H i j, RI H (k i j) (g i j)) : OpD (rI0 g) (oI cT k) := by
  intro S T H0 ρ σ H Ha fp s x y u v gx gy d Q E hx hy e q
  obtain ⟨i, j, rfl, rfl, _, rfl⟩ := oI_of e
  exact ⟨i, j, hx.2.inv_int, hy.2.inv_int, q _ (h H i j)⟩
theorem opd_I {C : Int → Int → Prop} {c : Int → Int → Bool} {k : Int → Int → D} {g : Int → Int → V} (hc : ∀ i j, c i j = true → C i j) (h : ∀ H i j, RI H (k i j) (g i j)) : OpD (rI C g) (oI c k) := by
  intro S T H0 ρ σ H Ha fp s x y u v gx gy d Q E hx hy e q
  obtain ⟨i, j, rfl, rfl, cc, rfl⟩ := oI_of e
  exact ⟨i, j, hx.2.inv_int, hy.2.inv_int, hc i j cc, q _ (h H i j)⟩
theorem opd_add : OpD (rI0 fun i j => .int (i + j)) oAdd := opd_I0 fun _ _ _ => .int _
theorem opd_sub : OpD (rI0 fun i j => .int (i - j)) oSub := opd_I0 fun _ _ _ => .int _
theorem opd_mul : OpD (rI CMul fun i j => .int (i * j)) oMul := opd_I (fun i j h => by
  unfold cMul at h
  simp only [Bool.or_eq_true, Bool.and_eq_true, decide_eq_true_eq] at h
  exact h) fun _ _ _ => .int _
theorem opd_mod : OpD (rI (fun _ j => 0 < j) fun i j => .int (i % j)) oMod := opd_I (fun i j h => of_decide_eq_true h) fun _ _ _ => .int _
theorem opd_div : OpD (rI CDiv fun i j => .int (i / j)) oDiv := opd_I (fun i j h => by
  unfold cDiv at h
  simp only [Bool.and_eq_true, decide_eq_true_eq] at h
  exact h) fun _ _ _ => .int _
theorem opd_lt : OpD (rI0 fun i j => .bl (decide (i < j))) oLt := opd_I0 fun _ _ _ => .bl _
theorem opd_le : OpD (rI0 fun i j => .bl (decide (i ≤ j))) oLe := opd_I0 fun _ _ _ => .bl _
theorem opd_gt : OpD (rI0 fun i j => .bl (decide (j < i))) oGt := opd_I0 fun _ _ _ => .bl _
theorem opd_ge : OpD (rI0 fun i j => .bl (decide (j ≤ i))) oGe := opd_I0 fun _ _ _ => .bl _

variable {a b c : Expr} {ta tb tc : TE} {fa fb fc : Fn S W} {r r' : R2}
def fChain (o o' : W → W → Option D) (fa fb fc : Fn S W) : Fn S W := fun ρ s => bnd (fa ρ s) fun x s1 => bnd (fb ρ s1) fun y s2 => match o x y with
  | some (.bl true) => bnd (fc ρ s2) fun z s3 => lft (o' y z) s3 W.im
  | some (.bl false) => some (.im (.bl false), s2)
  | _ => none
theorem de_chain {o o' : W → W → Option D} (hr : OpD r o) (hr' : OpD r' o') (ha : DE 𝒯 ta fa) (hb : DE 𝒯 tb fb) (hc : DE 𝒯 tc fc) : DE 𝒯 (tChain r r' ta tb tc) (fChain o o' fa fb fc) := by
  intro T hT H0 ρ σ H fp s Q w s' E e k
  obtain ⟨x, s1, e1, e⟩ := bnd_of e
  obtain ⟨y, s2, e2, e⟩ := bnd_of e
  refine ha T hT H0 ρ σ H fp s _ x s1 E e1 fun u H1 g xx r1 ok1 => ?_
  have E1 := E.step xx r1
  refine hb T hT H0 ρ σ H1 fp s1 _ y s2 E1 e2 fun v H2 g' yy r2 ok2 => ?_
  have E2 := E1.step yy r2
  have ok1' := ok1.keep E xx r1 yy
  have ok2' := ok2.early xx E.rel r1
  cases q : o x y with
  | none => rw [q] at e; cases e
  | some d =>
    rw [q] at e
    refine hr S T H0 ρ σ H2 H fp _ x y u v g g' d _ E2 ok1' ok2' q fun z rz => ?_
    cases d with
    | bl kk =>
      refine ⟨kk, rz.inv_bl, ?_⟩
      cases kk with
      | true =>
        rw [if_pos rfl]
        obtain ⟨z, s3, e3, e⟩ := bnd_of e
        obtain ⟨d', e4, rfl, rfl⟩ := lft_of e
        refine hc T hT H0 ρ σ H2 fp s2 _ z _ E2 e3 fun w3 H3 g3 zz r3 ok3 => ?_
        have E3 := E2.step zz r3
        refine hr' S T H0 ρ σ H3 H fp _ y z v w3 g' g3 d' _ E3 (ok2'.keep E (xx.trans yy) r2 zz) (ok3.early (xx.trans yy) E.rel r2) e4 fun z' rz' => ?_
        exact k z' H3 [] ((xx.trans yy).trans zz) r3 ⟨rfl, rz'⟩
      | false =>
        rw [if_neg Bool.false_ne_true]
        injection e with e
        injection e with e1 e2
        subst e1
        subst e2
        exact k _ H2 [] (xx.trans yy) r2 ⟨rfl, .bl false⟩
    | non => cases e
    | int i => cases e
    | str s => cases e
    | tup ds => cases e
    | ptp ds => cases e
theorem d_chain {op op' : CmpOp} {o o' : W → W → Option D} (ho : OpR X (compareOp op) r) (ho' : OpR X (compareOp op') r') (hr : OpD r o) (hr' : OpD r' o') (ha : PD X 𝒯 a ta fa) (hb : PD X 𝒯 b tb fb) (hc : PD X 𝒯 c tc fc)
    (h : PE X a ta → PE X b tb → PE X c tc → PE X (.Compare a [op, op'] [b, c] pos) (tChain r r' ta tb tc)) : PD X 𝒯 (.Compare a [op, op'] [b, c] pos) (tChain r r' ta tb tc) (fChain o o' fa fb fc) := ⟨h ha.pe hb.pe hc.pe, de_chain hr hr' ha.de hb.de hc.de⟩
theorem t_chain {op op' : CmpOp} {o o' : W → W → Option D} (ho : OpR X (compareOp op) r) (ho' : OpR X (compareOp op') r') (hr : OpD r o) (hr' : OpD r' o') (ha : PD X 𝒯 a ta fa) (hb : PD X 𝒯 b tb fb) (hc : PD X 𝒯 c tc fc)
    (h : PE X a ta → PE X b tb → PE X c tc → PT X (.Compare a [op, op'] [b, c] pos) (tTest (tChain r r' ta tb tc))) : PDT X 𝒯 (.Compare a [op, op'] [b, c] pos) (tTest (tChain r r' ta tb tc)) (fTest (fChain o o' fa fb fc)) := ⟨h ha.pe hb.pe hc.pe, dt_test (de_chain hr hr' ha.de hb.de hc.de)⟩
/-- is None -/
def isNon : W → Option Bool
  | .im .non => some true
  | .im _ => some false
  | .new m => match m with
    | .im _ => none
    | _ => some false
  | .sl _ m => match m with
    | .im _ => none
    | _ => some false
  | _ => none
theorem isNon_ok {T : Vol S} {fp : Nat → List Addr} {H H' : Hp} {w : W} {v : V} {g : List Addr} {b : Bool} (h : Wok T fp H H' w v g) (e : isNon w = some b) : decide (v = V.non) = b := by
  have ref : ∀ {m : M} {v : V} {f : List Addr}, RM H' m v f → (∀ d, m ≠ .im d) → v ≠ .non := by
    intro m v f r n
    cases r with
    | im _ => exact absurd rfl (n _)
    | lst _ _ _ => exact fun z => nomatch z
    | mtp _ _ => exact fun z => nomatch z
    | dk _ _ _ _ => exact fun z => nomatch z
    | dt _ _ _ _ => exact fun z => nomatch z
  cases w with
  | im d =>
    have r := h.2
    cases d with
    | non =>
      injection e with e
      subst e
      rw [r.inv_non]
      rfl
    | bl x => injection e with e; subst e; rw [r.inv_bl]; rfl
    | int x => injection e with e; subst e; rw [r.inv_int]; rfl
    | str x => injection e with e; subst e; rw [r.inv_str]; rfl
    | tup x =>
      injection e with e
      subst e
      obtain ⟨a, xs, rfl, _⟩ := r.inv_tup
      rfl
    | ptp x =>
      injection e with e
      subst e
      obtain ⟨a, o, xs, rfl, _⟩ := r.inv_ptp
      rfl
  | new m =>
    cases m with
    | im d => cases e
    | lst x => injection e with e; subst e; exact decide_eq_false (ref h.1 fun _ z => nomatch z)
    | mtp x => injection e with e; subst e; exact decide_eq_false (ref h.1 fun _ z => nomatch z)
    | dk x => injection e with e; subst e; exact decide_eq_false (ref h.1 fun _ z => nomatch z)
    | dt x => injection e with e; subst e; exact decide_eq_false (ref h.1 fun _ z => nomatch z)
  | sl i m =>
    cases m with
    | im d => cases e
    | lst x => injection e with e; subst e; exact decide_eq_false (ref h.1 fun _ z => nomatch z)
    | mtp x => injection e with e; subst e; exact decide_eq_false (ref h.1 fun _ z => nomatch z)
    | dk x => injection e with e; subst e; exact decide_eq_false (ref h.1 fun _ z => nomatch z)
    | dt x => injection e with e; subst e; exact decide_eq_false (ref h.1 fun _ z => nomatch z)
  | src => cases e
  | tm m => cases e
def oIsN (neg : Bool) (x y : W) : Option D := match y with
  | .im .non => (isNon x).map fun b => .bl (if neg then !b else b)
  | _ => none
theorem opd_isN : OpD (fun x y H Q => y = .non ∧ Q (.bl (decide (x = .non))) H) (oIsN false) := by
  intro S T H0 ρ σ H Ha fp s x y u v gx gy d Q E hx hy e q
  unfold oIsN at e
  split at e
  · cases q2 : isNon x with
    | none => rw [q2] at e; cases e
    | some b =>
      rw [q2] at e
      injection e with e
      subst e
      refine ⟨hy.2.inv_non, q _ ?_⟩
      rw [isNon_ok hx q2]
      exact .bl b
  · cases e
theorem opd_notN : OpD (fun x y H Q => y = .non ∧ Q (.bl (!decide (x = .non))) H) (oIsN true) := by
  intro S T H0 ρ σ H Ha fp s x y u v gx gy d Q E hx hy e q
  unfold oIsN at e
  split at e
  · cases q2 : isNon x with
    | none => rw [q2] at e; cases e
    | some b =>
      rw [q2] at e
      injection e with e
      subst e
      refine ⟨hy.2.inv_non, q _ ?_⟩
      rw [isNon_ok hx q2]
      exact .bl (!b)
  · cases e
end
end Pl
end

section
set_option Elab.async false
set_option linter.all false
set_option maxRecDepth 100000
set_option maxHeartbeats 1000000
namespace Pl
open PySem PySem.Spec PyProof.Rows L2

section
variable {S : Type} {X : Cx} {𝒯 : Fam S} {pos : Pos} {K : PySem.W.Frag}
variable {a b c e : Expr} {es : List Expr} {ta tb te : TE} {ts : TA} {fa fb f : Fn S W} {fs : Fn S (List W)} {r : R2}

/-! ### items of tuples and lists -/
def ofIx (k : M → W) : M → W
  | .im d => .im d
  | m => k m
def ofNew : M → W
  | .im d => .im d
  | .dk l => .tm (.dk l)
  | .dt l => .tm (.dt l)
  | m => .new m
def itemW (x : W) (i : Int) : Option W := match x with
  | .im (.tup ds) => (atI ds i).map W.im
  | .im (.ptp ds) => (atI ds i).map W.im
  | .new (.lst ms) => (atI ms i).map ofNew
  | .sl j (.lst ms) => (atI ms i).map (ofIx (W.sl j))
  | .new (.mtp ms) => (atI ms i).map ofNew
  | .sl j (.mtp ms) => (atI ms i).map (ofIx (W.sl j))
  | _ => none
def intW : W → Option Int
  | .im (.int i) => some i
  | _ => none
@[simp] theorem intW_int (i : Int) : intW (.im (.int i)) = some i := rfl
theorem intW_of {x : W} {i : Int} (h : intW x = some i) : x = .im (.int i) := by
  cases x with
  | im d =>
    cases d with
    | int j =>
      injection h with h
      rw [h]
    | _ => cases h
  | _ => cases h
def fIx (fa fb : Fn S W) : Fn S W := fun ρ s => bnd (fa ρ s) fun x s1 => bnd (fb ρ s1) fun y s2 => match intW y with
  | some i => lft (itemW x i) s2 id
  | none => none
theorem atI_some {α : Type} {xs : List α} {i : Int} {v : α} (h : atI xs i = some v) : ∃ j, ixN xs.length i = some j ∧ xs[j]? = some v := by
  unfold atI at h
  cases q : ixN xs.length i with
  | none => rw [q] at h; cases h
  | some j =>
    rw [q] at h
    exact ⟨j, rfl, h⟩
theorem atI_mk {α : Type} {xs : List α} {i : Int} {j : Nat} {v : α} (h : ixN xs.length i = some j) (hv : xs[j]? = some v) : atI xs i = some v := by
  unfold atI
  rw [h]
  exact hv
theorem atI_RIs {H : Hp} {ds : List D} {vs : List V} {i : Int} {d : D} (r : RIs H ds vs) (h : atI ds i = some d) : ∃ v, atI vs i = some v ∧ RI H d v := by
  obtain ⟨j, e1, e2⟩ := atI_some h
  obtain ⟨v, e3, q⟩ := r.get e2
  exact ⟨v, atI_mk (by rw [r.length]; exact e1) e3, q⟩
theorem atI_RMs {H : Hp} {ms : List M} {vs : List V} {f : List Addr} {i : Int} {m : M} (r : RMs H ms vs f) (h : atI ms i = some m) : ∃ v g, atI vs i = some v ∧ RM H m v g ∧ ∀ a ∈ g, a ∈ f := by
  obtain ⟨j, e1, e2⟩ := atI_some h
  obtain ⟨v, g, e3, q, s⟩ := r.get e2
  exact ⟨v, g, atI_mk (by rw [r.length]; exact e1) e3, q, s⟩
/-- a part of a value -/
theorem part_new {T : Vol S} {fp : Nat → List Addr} {H H' : Hp} {m : M} {v : V} {g f : List Addr} (r : RM H' m v g) (s : ∀ a ∈ g, a ∈ f) (n : ∀ a ∈ f, H a = none) : ∃ g', Wok T fp H H' (ofNew m) v g' := by
  cases m with
  | im d =>
    obtain ⟨_, q⟩ := r.inv_im
    exact ⟨[], rfl, q⟩
  | lst x => exact ⟨g, r, fun a ha => n a (s a ha), True.intro⟩
  | mtp x => exact ⟨g, r, fun a ha => n a (s a ha), True.intro⟩
  | dk x => exact ⟨g, r, fun a ha => n a (s a ha)⟩
  | dt x => exact ⟨g, r, fun a ha => n a (s a ha)⟩
theorem part_sl {T : Vol S} {fp : Nat → List Addr} {H H' : Hp} {m : M} {v : V} {g f : List Addr} {j : Nat} (r : RM H' m v g) (s : ∀ a ∈ g, a ∈ f) (n : ∀ a ∈ f, a ∈ fp j) : ∃ g', Wok T fp H H' (ofIx (W.sl j) m) v g' := by
  cases m with
  | im d =>
    obtain ⟨_, q⟩ := r.inv_im
    exact ⟨[], rfl, q⟩
  | lst x => exact ⟨g, r, fun a ha => n a (s a ha)⟩
  | mtp x => exact ⟨g, r, fun a ha => n a (s a ha)⟩
  | dk x => exact ⟨g, r, fun a ha => n a (s a ha)⟩
  | dt x => exact ⟨g, r, fun a ha => n a (s a ha)⟩
theorem RM.inv_lst {H : Hp} {ms : List M} {v : V} {f : List Addr} (h : RM H (.lst ms) v f) : ∃ a vs g, v = .ref a ∧ H a = some (.lst vs) ∧ RMs H ms vs g ∧ a ∉ g ∧ f = a :: g := by
  cases h with
  | lst h r n => exact ⟨_, _, _, rfl, h, r, n, rfl⟩
theorem RM.inv_mtp {H : Hp} {ms : List M} {v : V} {f : List Addr} (h : RM H (.mtp ms) v f) : ∃ a vs, v = .ref a ∧ H a = some (.tup vs) ∧ RMs H ms vs f := by
  cases h with
  | mtp h r => exact ⟨_, _, rfl, h, r⟩
theorem RM.inv_dk {H : Hp} {kms : List (Key × M)} {v : V} {f : List Addr} (h : RM H (.dk kms) v f) : ∃ a kvs g, v = .ref a ∧ H a = some (.dK kvs) ∧ kvs.map (·.1) = kms.map (·.1) ∧ RMs H (kms.map (·.2)) (kvs.map (·.2)) g ∧ a ∉ g ∧ f = a :: g := by
  cases h with
  | dk h e r n => exact ⟨_, _, _, rfl, h, e, r, n, rfl⟩
theorem RM.inv_dt {H : Hp} {kms : List (List Key × M)} {v : V} {f : List Addr} (h : RM H (.dt kms) v f) : ∃ a kvs g, v = .ref a ∧ H a = some (.dT kvs) ∧ kvs.map (·.1) = kms.map (·.1) ∧ RMs H (kms.map (·.2)) (kvs.map (·.2)) g ∧ a ∉ g ∧ f = a :: g := by
  cases h with
  | dt h e r n => exact ⟨_, _, _, rfl, h, e, r, n, rfl⟩
theorem map_some {α β : Type} {o : Option α} {k : α → β} {b : β} (h : o.map k = some b) : ∃ a, o = some a ∧ k a = b := by
  cases o with
  | none => cases h
  | some a =>
    injection h with h
    exact ⟨a, rfl, h⟩
theorem de_ix (ha : DE 𝒯 ta fa) (hb : DE 𝒯 tb fb) : DE 𝒯 (tOp (rIx K) ta tb) (fIx fa fb) := by
  intro T hT H0 ρ σ H fp s Q w s' E e k
  obtain ⟨x, s1, e1, e⟩ := bnd_of e
  obtain ⟨y, s2, e2, e⟩ := bnd_of e
  cases q : intW y with
  | none => simp only [q] at e; cases e
  | some i =>
    simp only [q] at e
    obtain rfl := intW_of q
    obtain ⟨w', e3, e4, rfl⟩ := lft_of e
    have e4 : w = w' := e4
    subst e4
    refine ha T hT H0 ρ σ H fp s _ x s1 E e1 fun u H1 g xx r1 ok1 => ?_
    have E1 := E.step xx r1
    refine hb T hT H0 ρ σ H1 fp s1 _ _ _ E1 e2 fun v H2 g' yy r2 ok2 => ?_
    have ok := ok1.keep E xx r1 yy
    have ev := ok2.2.inv_int
    subst ev
    have fin : ∀ z g', Wok T fp H H2 w z g' → Q z H2 := fun z g' o => k z H2 g' (xx.trans yy) r2 o
    cases x with
    | im d =>
      cases d with
      | tup ds =>
        obtain ⟨d, e5, rfl⟩ := map_some e3
        obtain ⟨a, xs, rfl, ht, rr⟩ := ok.2.inv_tup
        obtain ⟨z, e6, rz⟩ := atI_RIs rr e5
        exact .inr (.inl ⟨a, xs, i, z, rfl, rfl, .of ht, e6, fin z [] ⟨rfl, rz⟩⟩)
      | ptp ds =>
        obtain ⟨d, e5, rfl⟩ := map_some e3
        obtain ⟨a, o, xs, rfl, ht, _, rr⟩ := ok.2.inv_ptp
        obtain ⟨z, e6, rz⟩ := atI_RIs rr e5
        exact .inr (.inl ⟨a, xs, i, z, rfl, rfl, .inl (.inr ⟨_, ht⟩), e6, fin z [] ⟨rfl, rz⟩⟩)
      | _ => cases e3
    | new m =>
      cases m with
      | lst ms =>
        obtain ⟨m, e5, rfl⟩ := map_some e3
        obtain ⟨a, xs, f, rfl, ht, rr, _, rfl⟩ := ok.1.inv_lst
        obtain ⟨z, g2, e6, rz, sb⟩ := atI_RMs rr e5
        obtain ⟨g3, o3⟩ := part_new (T := T) (fp := fp) (H := H) rz (fun a ha => List.mem_cons_of_mem _ (sb a ha)) ok.2.1
        exact .inl ⟨a, xs, i, z, rfl, rfl, .of ht, e6, fin z g3 o3⟩
      | mtp ms =>
        obtain ⟨m, e5, rfl⟩ := map_some e3
        obtain ⟨a, xs, rfl, ht, rr⟩ := ok.1.inv_mtp
        obtain ⟨z, g2, e6, rz, sb⟩ := atI_RMs rr e5
        obtain ⟨g3, o3⟩ := part_new (T := T) (fp := fp) (H := H) rz sb ok.2.1
        exact .inr (.inl ⟨a, xs, i, z, rfl, rfl, .of ht, e6, fin z g3 o3⟩)
      | _ => cases e3
    | sl j m =>
      cases m with
      | lst ms =>
        obtain ⟨m, e5, rfl⟩ := map_some e3
        obtain ⟨a, xs, f, rfl, ht, rr, _, rfl⟩ := ok.1.inv_lst
        obtain ⟨z, g2, e6, rz, sb⟩ := atI_RMs rr e5
        obtain ⟨g3, o3⟩ := part_sl (T := T) (fp := fp) (H := H) rz (fun a ha => List.mem_cons_of_mem _ (sb a ha)) ok.2
        exact .inl ⟨a, xs, i, z, rfl, rfl, .of ht, e6, fin z g3 o3⟩
      | mtp ms =>
        obtain ⟨m, e5, rfl⟩ := map_some e3
        obtain ⟨a, xs, rfl, ht, rr⟩ := ok.1.inv_mtp
        obtain ⟨z, g2, e6, rz, sb⟩ := atI_RMs rr e5
        obtain ⟨g3, o3⟩ := part_sl (T := T) (fp := fp) (H := H) rz sb ok.2
        exact .inr (.inl ⟨a, xs, i, z, rfl, rfl, .of ht, e6, fin z g3 o3⟩)
      | _ => cases e3
    | src => cases e3
    | tm m => cases e3
theorem d_ix (ha : PD X 𝒯 a ta fa) (hb : PD X 𝒯 b tb fb) (hs : PlainIx b) : PD X 𝒯 (.Subscript a b pos) (tOp (rIx X.K) ta tb) (fIx fa fb) := ⟨pe_ix ix_seq ha.pe hb.pe hs, de_ix ha.de hb.de⟩

/-! ### calls of built-in functions and types -/
/-- what such a call gives, by its arguments -/
def CalW (r : List V → Hp → VK → Prop) (o : List W → Option W) : Prop := ∀ (S : Type) (T : Vol S) (H0 : Bs) (ρ : Rho) (σ : L2.St) (H Ha : Hp) (fp : Nat → List Addr) (s : S) (ws : List W) (vs : List V) (G : List Addr) (w : W) (Q : VK),
  Env T H0 ρ σ H fp s → (∀ a, H a = none → Ha a = none) → Woks T fp Ha H ws vs G → o ws = some w → (∀ z H' g, ExV T H H' → T.rel s H' → Wok T fp Ha H' w z g → Q z H') → r vs H Q
def fCal (o : List W → Option W) (fs : Fn S (List W)) : Fn S W := fun ρ s => bnd (fs ρ s) fun ws s1 => lft (o ws) s1 id
theorem de_cal {r : List V → Hp → VK → Prop} {o : List W → Option W} (hr : CalW r o) (hs : DA 𝒯 ts fs) : DE 𝒯 (tCB r ts) (fCal o fs) := by
  intro T hT H0 ρ σ H fp s Q w s' E e k
  obtain ⟨ws, s1, e1, e⟩ := bnd_of e
  obtain ⟨w', e3, e4, rfl⟩ := lft_of e
  have e4 : w = w' := e4
  subst e4
  refine hs T hT H0 ρ σ H fp s _ ws _ E e1 fun vs H1 G xx r1 oks => ?_
  exact hr S T H0 ρ σ H1 H fp _ ws vs G w _ (E.step xx r1) (fun a ha => xx.back E.rel ha r1) oks e3 fun z H2 g yy r2 ok => k z H2 g (xx.trans yy) r2 ok
theorem d_callB {r : List V → Hp → VK → Prop} {o : List W → Option W} {id : String} {x : Str} {p : Pos} (hr : CalW r o) (h : PDA X 𝒯 (e :: es) ts fs) (hp : PA X (e :: es) ts → PE X (.Call (.Name x p) (e :: es) [] pos) (tCB r ts)) : PD X 𝒯 (.Call (.Name x p) (e :: es) [] pos) (tCB r ts) (fCal o fs) :=
  ⟨hp h.pe, de_cal hr h.de⟩
theorem CallR.or {g : Value} {r r' : List V → Hp → VK → Prop} (h : CallR X g r) (h' : CallR X g r') : CallR X g (fun xs H Q => r xs H Q ∨ r' xs H Q) := by
  intro pins s σ H xs us Q I rx q
  rcases q with q | q
  · exact h pins s σ H xs us Q I rx q
  · exact h' pins s σ H xs us Q I rx q
/-- a row of fixed data, of a list or a tuple -/
def seqD : W → Option (List D)
  | .im (.tup ds) => some ds
  | .im (.ptp ds) => some ds
  | .new (.lst ms) => allIm ms
  | .sl _ (.lst ms) => allIm ms
  | _ => none
@[simp] theorem seqD_tup (ds : List D) : seqD (.im (.tup ds)) = some ds := rfl
@[simp] theorem seqD_ptp (ds : List D) : seqD (.im (.ptp ds)) = some ds := rfl
@[simp] theorem seqD_new (ms : List M) : seqD (.new (.lst ms)) = allIm ms := rfl
@[simp] theorem seqD_sl (i : Nat) (ms : List M) : seqD (.sl i (.lst ms)) = allIm ms := rfl
theorem seqD_ok {T : Vol S} {fp : Nat → List Addr} {H H' : Hp} {w : W} {v : V} {g : List Addr} {ds : List D} (h : Wok T fp H H' w v g) (e : seqD w = some ds) : ∃ a xs, v = .ref a ∧ RIs H' ds xs ∧ ((Rd H' a (.tup xs) ∧ (w = .im (.tup ds) ∨ w = .im (.ptp ds))) ∨ H' a = some (.lst xs)) := by
  cases w with
  | im d =>
    cases d with
    | tup es =>
      injection e with e
      subst e
      obtain ⟨a, xs, rfl, ht, rr⟩ := h.2.inv_tup
      exact ⟨a, xs, rfl, rr, .inl ⟨.inl ht, .inl rfl⟩⟩
    | ptp es =>
      injection e with e
      subst e
      obtain ⟨a, o, xs, rfl, ht, _, rr⟩ := h.2.inv_ptp
      exact ⟨a, xs, rfl, rr, .inl ⟨.inr ⟨_, ht⟩, .inr rfl⟩⟩
    | _ => cases e
  | new m =>
    cases m with
    | lst ms =>
      have e2 := allIm_eq e
      subst e2
      obtain ⟨a, xs, f, rfl, ht, rr, _, _⟩ := h.1.inv_lst
      exact ⟨a, xs, rfl, (RMs.of_ims rr).1, .inr ht⟩
    | _ => cases e
  | sl i m =>
    cases m with
    | lst ms =>
      have e2 := allIm_eq e
      subst e2
      obtain ⟨a, xs, f, rfl, ht, rr, _, _⟩ := h.1.inv_lst
      exact ⟨a, xs, rfl, (RMs.of_ims rr).1, .inr ht⟩
    | _ => cases e
  | src => cases e
  | tm m => cases e
def intsD : List D → Option (List Int)
  | [] => some []
  | .int i :: ds => (intsD ds).map (i :: ·)
  | _ :: _ => none
@[simp] theorem intsD_nil : intsD [] = some [] := rfl
@[simp] theorem intsD_cons (i : Int) (ds : List D) : intsD (.int i :: ds) = (intsD ds).map (i :: ·) := rfl
@[simp] theorem intsD_map (is : List Int) : intsD (is.map D.int) = some is := by
  induction is with
  | nil => rfl
  | cons i is ih => rw [List.map_cons, intsD_cons, ih]; rfl
theorem intsD_eq : ∀ {ds : List D} {is : List Int}, intsD ds = some is → ds = is.map D.int
  | [], is, h => by
    injection h with h
    subst h
    rfl
  | d :: ds, is, h => by
    cases d with
    | int i =>
      obtain ⟨js, q, rfl⟩ := map_some (show (intsD ds).map (i :: ·) = some is from h)
      rw [intsD_eq q]
      rfl
    | _ => cases h
theorem RIs.ints {H : Hp} : ∀ {is : List Int} {vs : List V}, RIs H (is.map D.int) vs → vs = is.map V.int
  | [], _, h => by
    cases h
    rfl
  | i :: is, _, h => by
    rw [List.map_cons] at h
    match h with
    | .cons h r => rw [h.inv_int, RIs.ints r]; rfl
theorem ris_ints {H : Hp} : ∀ (is : List Int), RIs H (is.map D.int) (is.map V.int)
  | [] => .nil
  | i :: is => .cons (.int i) (ris_ints is)
def seqI (w : W) : Option (List Int) := (seqD w).bind intsD
theorem seqI_ok {T : Vol S} {fp : Nat → List Addr} {H H' : Hp} {w : W} {v : V} {g : List Addr} {is : List Int} (h : Wok T fp H H' w v g) (e : seqI w = some is) : ∃ a, v = .ref a ∧ ((Rd H' a (.tup (is.map V.int)) ∧ (w = .im (.tup (is.map D.int)) ∨ w = .im (.ptp (is.map D.int)))) ∨ H' a = some (.lst (is.map V.int))) := by
  unfold seqI at e
  cases q : seqD w with
  | none => rw [q] at e; cases e
  | some ds =>
    rw [q] at e
    have e2 := intsD_eq e
    subst e2
    obtain ⟨a, xs, rfl, rr, h⟩ := seqD_ok h q
    rw [rr.ints] at h
    exact ⟨a, rfl, h⟩
theorem wok_im {T : Vol S} {fp : Nat → List Addr} {H H' : Hp} {d : D} {v : V} (h : RI H' d v) : Wok T fp H H' (.im d) v [] := ⟨rfl, h⟩
/-- len -/
def lenW : W → Option Nat
  | .im (.tup ds) => some ds.length
  | .im (.ptp ds) => some ds.length
  | .new (.lst ms) => some ms.length
  | .sl _ (.lst ms) => some ms.length
  | .new (.dk ms) => some ms.length
  | .sl _ (.dk ms) => some ms.length
  | .new (.dt ms) => some ms.length
  | .sl _ (.dt ms) => some ms.length
  | _ => none
def o1 (k : W → Option W) : List W → Option W
  | [w] => k w
  | _ => none
theorem o1_of {k : W → Option W} {ws : List W} {w : W} (h : o1 k ws = some w) : ∃ x, ws = [x] ∧ k x = some w := by
  unfold o1 at h
  split at h
  · exact ⟨_, rfl, h⟩
  · cases h
theorem woks1 {T : Vol S} {fp : Nat → List Addr} {H H' : Hp} {x : W} {vs : List V} {G : List Addr} (h : Woks T fp H H' [x] vs G) : ∃ v g, vs = [v] ∧ Wok T fp H H' x v g := by
  cases h with
  | cons h r _ _ =>
    cases r
    exact ⟨_, _, rfl, h⟩
theorem woks2 {T : Vol S} {fp : Nat → List Addr} {H H' : Hp} {x y : W} {vs : List V} {G : List Addr} (h : Woks T fp H H' [x, y] vs G) : ∃ v g v' g', vs = [v, v'] ∧ Wok T fp H H' x v g ∧ Wok T fp H H' y v' g' := by
  cases h with
  | cons h r _ _ =>
    cases r with
    | cons h2 r2 _ _ =>
      cases r2
      exact ⟨_, _, _, _, rfl, h, h2⟩
def oLen : List W → Option W := o1 fun w => (lenW w).map fun (n : Nat) => W.im (D.int (n : Int))
def rLen (K : PySem.W.Frag) : List V → Hp → VK → Prop := fun xs H Q => (∃ p ys, xs = [.ref p] ∧ (SqL K H p ys ∨ SqT K H p ys) ∧ Q (.int ys.length) H) ∨
  (∃ a kvs, xs = [V.ref a] ∧ Rd H a (.dK kvs) ∧ Q (.int kvs.length) H) ∨ ∃ a kvs, xs = [V.ref a] ∧ Rd H a (.dT kvs) ∧ Q (.int kvs.length) H
theorem cl_lenK : CallR X (.builtin "len") (fun xs H Q => ∃ a kvs, xs = [V.ref a] ∧ Rd H a (.dK kvs) ∧ Q (.int kvs.length) H) := fun pins s σ H xs us Q I r ⟨a, kvs, e, ha, q⟩ => by
  subst e
  obtain ⟨u, rfl, ru⟩ := vals1 r
  cases ru
  exact d_len I ha fun t s' I' => ⟨.int kvs.length, H, I', ⟨t, rfl⟩, q⟩
theorem cl_lenT : CallR X (.builtin "len") (fun xs H Q => ∃ a kvs, xs = [V.ref a] ∧ Rd H a (.dT kvs) ∧ Q (.int kvs.length) H) := fun pins s σ H xs us Q I r ⟨a, kvs, e, ha, q⟩ => by
  subst e
  obtain ⟨u, rfl, ru⟩ := vals1 r
  cases ru
  obtain ⟨z, nd, ys, pr, dd⟩ := dt_rd I.hok ha
  have el := Paired.length pr
  rw [el] at z q
  rw [sizeLine_eq] at z
  exact call_len_dictH nd dd (by omega) ⟨.int (ys.length : Nat), H, I.tok _, ⟨_, rfl⟩, q⟩
theorem call_lenA : CallR X (.builtin "len") (rLen X.K) := CallR.or call_len_seq (CallR.or cl_lenK cl_lenT)
theorem cal_len : CalW (rLen K) oLen := by
  intro S T H0 ρ σ H Ha fp s ws vs G w Q E hb oks e0 k
  obtain ⟨x, rfl, e1⟩ := o1_of e0
  obtain ⟨n, en, rfl⟩ := map_some e1
  obtain ⟨v, g, rfl, ok⟩ := woks1 oks
  have fin : Q (.int n) H := k _ H [] (ExV.refl T H) E.rel (wok_im (.int _))
  have lstc : ∀ {ms : List M}, RM H (.lst ms) v g → ms.length = n → rLen K [v] H Q := fun {ms} h e => by
    obtain ⟨a, xs, f, rfl, ht, rr, _, _⟩ := h.inv_lst
    refine .inl ⟨a, xs, rfl, .inl (.of ht), ?_⟩
    rw [rr.length, e]
    exact fin
  have dkc : ∀ {ms : List (Key × M)}, RM H (.dk ms) v g → ms.length = n → rLen K [v] H Q := fun {ms} h e => by
    obtain ⟨a, xs, f, rfl, ht, eq, _, _, _⟩ := h.inv_dk
    have hl := congrArg List.length eq
    rw [List.length_map, List.length_map] at hl
    refine .inr (.inl ⟨a, xs, rfl, .inl ht, ?_⟩)
    rw [hl, e]
    exact fin
  have dtc : ∀ {ms : List (List Key × M)}, RM H (.dt ms) v g → ms.length = n → rLen K [v] H Q := fun {ms} h e => by
    obtain ⟨a, xs, f, rfl, ht, eq, _, _, _⟩ := h.inv_dt
    have hl := congrArg List.length eq
    rw [List.length_map, List.length_map] at hl
    refine .inr (.inr ⟨a, xs, rfl, .inl ht, ?_⟩)
    rw [hl, e]
    exact fin
  cases x with
  | im d =>
    cases d with
    | tup ds =>
      injection en with en
      obtain ⟨a, xs, rfl, ht, rr⟩ := ok.2.inv_tup
      refine .inl ⟨a, xs, rfl, .inr (.of ht), ?_⟩
      rw [rr.length, en]
      exact fin
    | ptp ds =>
      injection en with en
      obtain ⟨a, o, xs, rfl, ht, _, rr⟩ := ok.2.inv_ptp
      refine .inl ⟨a, xs, rfl, .inr (.inl (.inr ⟨_, ht⟩)), ?_⟩
      rw [rr.length, en]
      exact fin
    | _ => cases en
  | new m =>
    cases m with
    | lst ms => injection en with e; exact lstc ok.1 e
    | dk ms => injection en with e; exact dkc ok.1 e
    | dt ms => injection en with e; exact dtc ok.1 e
    | _ => cases en
  | sl i m =>
    cases m with
    | lst ms => injection en with e; exact lstc ok.1 e
    | dk ms => injection en with e; exact dkc ok.1 e
    | dt ms => injection en with e; exact dtc ok.1 e
    | _ => cases en
  | src => cases en
  | tm m => cases en
/-- a value as a row of storable things -/
def seqM : W → Option (List M)
  | .im (.tup ds) => some (ds.map M.im)
  | .im (.ptp ds) => some (ds.map M.im)
  | .new (.lst ms) => some ms
  | .sl _ (.lst ms) => (allIm ms).map fun ds => ds.map M.im
  | _ => none
@[simp] theorem seqM_tup (ds : List D) : seqM (.im (.tup ds)) = some (ds.map M.im) := rfl
@[simp] theorem seqM_new (ms : List M) : seqM (.new (.lst ms)) = some ms := rfl
@[simp] theorem seqM_sl (i : Nat) (ds : List D) : seqM (.sl i (.lst (ds.map M.im))) = some (ds.map M.im) := by
  show (allIm (ds.map M.im)).map (fun ds => ds.map M.im) = _
  rw [allIm_ims]
  rfl
theorem seqM_ok {T : Vol S} {fp : Nat → List Addr} {H H' : Hp} {w : W} {v : V} {g : List Addr} {ms : List M} (h : Wok T fp H H' w v g) (e : seqM w = some ms) :
    ∃ a xs f, v = .ref a ∧ RMs H' ms xs f ∧ (∀ x ∈ f, H x = none) ∧ (H' a = some (.tup xs) ∨ (∃ ds, w = .im (.ptp ds) ∧ Rd H' a (.tup xs)) ∨ H' a = some (.lst xs)) := by
  cases w with
  | im d =>
    cases d with
    | tup es =>
      injection e with e
      subst e
      obtain ⟨a, xs, rfl, ht, rr⟩ := h.2.inv_tup
      exact ⟨a, xs, [], rfl, RMs.ims rr, (fun _ z => by cases z), .inl ht⟩
    | ptp es =>
      injection e with e
      subst e
      obtain ⟨a, o, xs, rfl, ht, _, rr⟩ := h.2.inv_ptp
      exact ⟨a, xs, [], rfl, RMs.ims rr, (fun _ z => by cases z), .inr (.inl ⟨_, rfl, .inr ⟨_, ht⟩⟩)⟩
    | _ => cases e
  | new m =>
    cases m with
    | lst ms =>
      injection e with e
      subst e
      obtain ⟨a, xs, f, rfl, ht, rr, _, rfl⟩ := h.1.inv_lst
      exact ⟨a, xs, f, rfl, rr, fun x hx => h.2.1 x (List.mem_cons_of_mem _ hx), .inr (.inr ht)⟩
    | _ => cases e
  | sl i m =>
    cases m with
    | lst ms =>
      obtain ⟨ds, q, rfl⟩ := map_some e
      have e2 := allIm_eq q
      subst e2
      obtain ⟨a, xs, f, rfl, ht, rr, _, _⟩ := h.1.inv_lst
      obtain ⟨rr, _⟩ := RMs.of_ims rr
      exact ⟨a, xs, [], rfl, RMs.ims rr, (fun _ z => by cases z), .inr (.inr ht)⟩
    | _ => cases e
  | src => cases e
  | tm m => cases e
/-- tuple(xs), list(xs) -/
def isPtp : W → Bool
  | .im (.ptp _) => true
  | _ => false
def oTuple : List W → Option W := o1 fun w => if isPtp w = true then some w else (seqM w).map fun ms => ofM (tupM ms)
def oList : List W → Option W := o1 fun w => (seqM w).map fun ms => .new (.lst ms)
theorem newly {T : Vol S} {H0 : Bs} {H : Hp} {ρ : Rho} {σ : L2.St} {fp : Nat → List Addr} {s : S} {p : Addr} {o : HO} (E : Env T H0 ρ σ H fp s) (hp : H p = none) : ExV T H (upd H p o) ∧ T.rel s (upd H p o) := ⟨ExV.new hp, T.upd E.rel (T.new E.rel hp)⟩
theorem cal_tuple : CalW (fun xs H Q => ∃ p ys, xs = [.ref p] ∧ ((SqL K H p ys ∧ ∀ l, H l = none → Q (.ref l) (upd H l (.tup ys))) ∨ (SqT K H p ys ∧ Q (.ref p) H))) oTuple := by
  intro S T H0 ρ σ H Ha fp s ws vs G w Q E hb oks e0 k
  obtain ⟨x, rfl, e1⟩ := o1_of e0
  obtain ⟨v, g, rfl, ok⟩ := woks1 oks
  by_cases c : isPtp x = true
  · rw [if_pos c] at e1
    injection e1 with e1
    subst e1
    cases x with
    | im d =>
      cases d with
      | ptp ds =>
        obtain ⟨a, o, xs, rfl, ht, n, rr⟩ := ok.2.inv_ptp
        exact ⟨a, xs, rfl, .inr ⟨.inl (.inr ⟨_, ht⟩), k _ H [] (ExV.refl T H) E.rel (wok_im (.ptp ht n rr))⟩⟩
      | _ => cases c
    | _ => cases c
  · rw [if_neg c] at e1
    obtain ⟨ms, en, rfl⟩ := map_some e1
    obtain ⟨a, xs, f, rfl, rr, nw, h⟩ := seqM_ok ok en
    refine ⟨a, xs, rfl, ?_⟩
    rcases h with h | ⟨ds, q, _⟩ | h
    · exact .inr ⟨.of h, k _ H f (ExV.refl T H) E.rel (ofM_ok (tupM_ok h rr) nw (pln_tupM _))⟩
    · subst q
      exact absurd rfl c
    · refine .inl ⟨.of h, fun l hl => ?_⟩
      obtain ⟨n1, n2⟩ := newly (o := .tup xs) E hl
      exact k _ _ f n1 n2 (ofM_ok (tupM_ok upd_same (keeps_new hl rr)) nw (pln_tupM _))
theorem cal_list : CalW (fun xs H Q => ∃ p ys, xs = [.ref p] ∧ (SqL K H p ys ∨ SqT K H p ys) ∧ ∀ l, H l = none → Q (.ref l) (upd H l (.lst ys))) oList := by
  intro S T H0 ρ σ H Ha fp s ws vs G w Q E hb oks e0 k
  obtain ⟨x, rfl, e1⟩ := o1_of e0
  obtain ⟨ms, en, rfl⟩ := map_some e1
  obtain ⟨v, g, rfl, ok⟩ := woks1 oks
  obtain ⟨a, xs, f, rfl, rr, nw, h⟩ := seqM_ok ok en
  refine ⟨a, xs, rfl, ?_, fun l hl => ?_⟩
  · rcases h with h | ⟨_, _, h⟩ | h
    · exact .inr (.of h)
    · exact .inr (.inl h)
    · exact .inl (.of h)
  · obtain ⟨n1, n2⟩ := newly (o := .lst xs) E hl
    exact k _ _ _ n1 n2 (new_lst hl (hb l hl) rr nw)
end
end Pl
end

section
set_option Elab.async false
set_option linter.all false
set_option maxRecDepth 100000
set_option maxHeartbeats 1000000
namespace Pl
open PySem PySem.Spec PyProof.Rows L2

section
variable {S : Type} {X : Cx} {𝒯 : Fam S} {pos : Pos} {K : PySem.W.Frag}

/-! ### sorted -/
def sortD (ds : List D) : List D := ds.mergeSort (PySem.W.dataLe false D.py)
def SortOk (ds : List D) : Prop := PySem.W.AllAlike (ds.map D.py) ∧ PySem.W.Sortable (ds.map D.py) ∧ (∀ d ∈ ds, d.py.depth ≤ 60) ∧ ds.length ≤ cap
def rSortD : List V → Hp → VK → Prop := fun vs H Q => ∃ (a : Addr) (xs : List V) (ds : List D), vs = [.ref a] ∧ H a = some (.lst xs) ∧ RIs H ds xs ∧ SortOk ds ∧
  ∀ (p : Addr) (ys : List V), H p = none → RIs H (sortD ds) ys → Q (.ref p) (upd H p (.lst ys))
theorem each_ris {H : Hp} : ∀ {ds : List D} {vs : List V} {us : List Value}, RIs H ds vs → Vals vs us → PySem.W.EachIs (fun (u : Value) (b : D × V) => RelV b.2 u ∧ RI H b.1 b.2) us (ds.zip vs)
  | _, _, _, .nil, .nil => .nil
  | _, _, _, .cons h r, .cons q t => .cons ⟨q, h⟩ (each_ris r t)
theorem ris_each {H : Hp} : ∀ {us : List Value} {bs : List (D × V)}, PySem.W.EachIs (fun (u : Value) (b : D × V) => RelV b.2 u ∧ RI H b.1 b.2) us bs → RIs H (bs.map (·.1)) (bs.map (·.2)) ∧ Vals (bs.map (·.2)) us
  | _, _, .nil => ⟨.nil, .nil⟩
  | _, _, .cons h r => ⟨.cons h.2 (ris_each r).1, .cons h.1 (ris_each r).2⟩
theorem cr_sortD (hu : X.A.units + 64 < cLine) : CallR X (.builtin "sorted") rSortD := by
  intro pins s σ H vs us Q I r h
  obtain ⟨a, xs, ds, rfl, ha, rr, ⟨h1, h2, h3, h4⟩, q⟩ := h
  obtain ⟨u, rfl, ru⟩ := vals1 r
  cases ru
  obtain ⟨hz, its, n, rv, ho⟩ := I.hok a _ ha
  have hl : s.heap.IsList a its.toArray := ⟨_, ho, rfl, n, rfl⟩
  have e := each_ris rr rv
  have zl : (ds.zip xs).length = ds.length := by rw [List.length_zip, rr.length, Nat.min_self]
  have zf : (ds.zip xs).map (·.1) = ds := List.map_fst_zip (by rw [rr.length]; exact Nat.le_refl _)
  have zm : (ds.zip xs).map (fun b => D.py b.1) = ds.map D.py := by
    have q : (ds.zip xs).map (fun b => D.py b.1) = ((ds.zip xs).map (·.1)).map D.py := by
      rw [List.map_map]
      rfl
    rw [q, zf]
  refine PySem.W.sorted_data (enc := fun b : D × V => D.py b.1) hl e (e.mono fun u b ⟨p1, p2⟩ => Dp.reads I _ _ _ (p2.dp (K := X.K)) p1) (by rw [zm]; exact h1) (by rw [zm]; exact h2) (by rw [zl]; exact Nat.le_trans h4 (by decide)) (fun b hb => ?_) fun out ho' eo => ?_
  · have := h3 b.1 (by rw [← zf]; exact List.mem_map.mpr ⟨b, hb, rfl⟩)
    show X.A.units + 2 + (D.py b.1).depth < cLine
    omega
  · obtain ⟨ro, vo⟩ := ris_each eo
    have es : ((ds.zip xs).mergeSort (PySem.W.dataLe false fun b => D.py b.1)).map (·.1) = sortD ds := by
      have q := PySem.W.sort_maps (r := PySem.W.dataLe false fun b : D × V => D.py b.1) (s := PySem.W.dataLe false D.py) (fun b : D × V => b.1) (l := ds.zip xs) (fun _ _ _ _ => rfl)
      rw [zf] at q
      exact q
    rw [es] at ro
    have hf : H (s.heap.objs.size + 1) = none := I.hok.fresh (Nat.le_succ _)
    obtain ⟨c, hc⟩ := PyProof.Rows.sortedAll_at s.heap its out.toArray
    refine ⟨.ref (s.heap.objs.size + 1), _, ?_, rfl, q _ _ hf ro⟩
    refine I.laid (t' := s.toks) (fun b u e => PyProof.Rows.sortedAll_old e) (Nat.le_succ _) ⟨?_, out, c, vo, hc⟩
    rw [ro.length]
    unfold sortD
    rw [List.length_mergeSort]
    exact Nat.le_trans h4 (by decide)
def isLst : W → Bool
  | .new (.lst _) => true
  | .sl _ (.lst _) => true
  | _ => false
open Classical in
noncomputable def oSortD : List W → Option W := o1 fun w => if isLst w = true then (seqD w).bind fun ds => if SortOk ds then some (.new (.lst ((sortD ds).map M.im))) else none else none
theorem ims_ris {H : Hp} {ds : List D} {vs : List V} (h : RIs H ds vs) : RMs H (ds.map M.im) vs [] := RMs.ims h
theorem new_ims {S : Type} {T : Vol S} {fp : Nat → List Addr} {Ha H : Hp} {p : Addr} {ds : List D} {ys : List V} (hp : H p = none) (ha : Ha p = none) (h : RIs H ds ys) : Wok T fp Ha (upd H p (.lst ys)) (.new (.lst (ds.map M.im))) (.ref p) [p] :=
  new_lst hp ha (RMs.ims h) (fun _ z => by cases z)
open Classical in
theorem cal_sortD : CalW rSortD oSortD := by
  intro S T H0 ρ σ H Ha fp s ws vs G w Q E hb oks e0 k
  obtain ⟨x, rfl, e1⟩ := o1_of e0
  by_cases hl : isLst x = true
  · rw [if_pos hl] at e1
    cases q : seqD x with
    | none => rw [q] at e1; cases e1
    | some ds =>
      rw [q] at e1
      have e1 : (if SortOk ds then some (W.new (.lst ((sortD ds).map M.im))) else none) = some w := e1
      by_cases hs : SortOk ds
      · rw [if_pos hs] at e1
        injection e1 with e1
        subst e1
        obtain ⟨v, g, rfl, ok⟩ := woks1 oks
        obtain ⟨a, xs, rfl, rr, h⟩ := seqD_ok ok q
        rcases h with ⟨_, h | h⟩ | h
        · subst h
          cases hl
        · subst h
          cases hl
        · refine ⟨a, xs, ds, rfl, h, rr, hs, fun p ys hp ry => ?_⟩
          obtain ⟨n1, n2⟩ := newly (o := .lst ys) E hp
          exact k _ _ [p] n1 n2 (new_ims hp (hb p hp) ry)
      · rw [if_neg hs] at e1
        cases e1
  · rw [if_neg hl] at e1
    cases e1
/-- sorted of a dict with whole numbers as keys -/
def keysI : List (Key × M) → Option (List Int)
  | [] => some []
  | (.inl i, _) :: r => (keysI r).map (i :: ·)
  | _ :: _ => none
@[simp] theorem keysI_nil : keysI [] = some [] := rfl
@[simp] theorem keysI_cons (i : Int) (m : M) (r : List (Key × M)) : keysI ((.inl i, m) :: r) = (keysI r).map (i :: ·) := rfl
theorem keysI_eq : ∀ {l : List (Key × M)} {is : List Int}, keysI l = some is → l.map (·.1) = is.map Sum.inl
  | [], is, h => by
    injection h with h
    subst h
    rfl
  | (.inl i, m) :: r, is, h => by
    obtain ⟨js, q, rfl⟩ := map_some (show (keysI r).map (i :: ·) = some is from h)
    rw [List.map_cons, keysI_eq q]
    rfl
  | (.inr z, m) :: r, is, h => by cases h
def sortI (is : List Int) : List Int := is.mergeSort (fun a b => decide (a ≤ b))
theorem sortI_pw (is : List Int) : (sortI is).Pairwise (· ≤ ·) := by
  have h := List.pairwise_mergeSort (le := fun a b : Int => decide (a ≤ b)) (fun a b c h1 h2 => by simp at *; omega) (fun a b => by simp; omega) is
  exact h.imp fun q => of_decide_eq_true q
theorem sortI_perm (is : List Int) : (sortI is).Perm is := List.mergeSort_perm _ _
theorem sortI_one {is ys : List Int} (h1 : ys.Perm is) (h2 : ys.Pairwise (· ≤ ·)) : ys = sortI is :=
  List.Perm.eq_of_pairwise (fun a b _ _ h1 h2 => Int.le_antisymm h1 h2) h2 (sortI_pw is) (h1.trans (sortI_perm is).symm)
def rSortK : List V → Hp → VK → Prop := fun xs H Q => ∃ (a : Addr) (kvs : List (Key × V)) (ks : List Int), xs = [.ref a] ∧ Rd H a (.dK kvs) ∧ kvs.map (·.1) = ks.map Sum.inl ∧ ks.length < 64 ∧
    ∀ (ys : List Int) (p : Addr), ys.Perm ks → ys.Pairwise (· ≤ ·) → H p = none → Q (.ref p) (upd H p (.lst (ys.map V.int)))
def dkW : W → Option (List (Key × M))
  | .new (.dk l) => some l
  | .sl _ (.dk l) => some l
  | .tm (.dk l) => some l
  | _ => none
@[simp] theorem dkW_new (l : List (Key × M)) : dkW (.new (.dk l)) = some l := rfl
@[simp] theorem dkW_sl (i : Nat) (l : List (Key × M)) : dkW (.sl i (.dk l)) = some l := rfl
theorem dkW_ok {S : Type} {T : Vol S} {fp : Nat → List Addr} {H H' : Hp} {w : W} {v : V} {g : List Addr} {l : List (Key × M)} (h : Wok T fp H H' w v g) (e : dkW w = some l) :
    ∃ a kvs f, v = .ref a ∧ H' a = some (.dK kvs) ∧ kvs.map (·.1) = l.map (·.1) ∧ RMs H' (l.map (·.2)) (kvs.map (·.2)) f ∧ a ∉ f ∧ g = a :: f := by
  cases w with
  | new m =>
    cases m with
    | dk l' =>
      injection e with e
      subst e
      exact h.1.inv_dk
    | _ => cases e
  | sl i m =>
    cases m with
    | dk l' =>
      injection e with e
      subst e
      exact h.1.inv_dk
    | _ => cases e
  | im d => cases e
  | src => cases e
  | tm m =>
    cases m with
    | dk l' =>
      injection e with e
      subst e
      exact h.1.inv_dk
    | _ => cases e
def oSortK : List W → Option W := o1 fun w => ((dkW w).bind keysI).bind fun is => if is.length < 64 then some (.new (.lst ((sortI is).map fun i => M.im (.int i)))) else none
theorem cal_sortK : CalW rSortK oSortK := by
  intro S T H0 ρ σ H Ha fp s ws vs G w Q E hb oks e0 k
  obtain ⟨x, rfl, e1⟩ := o1_of e0
  cases q : dkW x with
  | none => rw [q] at e1; cases e1
  | some l =>
    rw [q] at e1
    cases q2 : keysI l with
    | none => simp only [Option.bind_some, q2] at e1; cases e1
    | some is =>
      simp only [Option.bind_some, q2] at e1
      by_cases h64 : is.length < 64
      · rw [if_pos h64] at e1
        injection e1 with e1
        subst e1
        obtain ⟨v, g, rfl, ok⟩ := woks1 oks
        obtain ⟨a, kvs, f, rfl, ha, ek, _, _, _⟩ := dkW_ok ok q
        refine ⟨a, kvs, is, rfl, .of ha, ek.trans (keysI_eq q2), h64, fun ys p pm pw hp => ?_⟩
        have e := sortI_one pm pw
        subst e
        obtain ⟨n1, n2⟩ := newly (o := .lst ((sortI is).map V.int)) E hp
        have z := new_ims (T := T) (fp := fp) (ds := (sortI is).map D.int) hp (hb p hp) (ris_ints (sortI is))
        rw [List.map_map] at z
        exact k _ _ [p] n1 n2 z
      · rw [if_neg h64] at e1
        cases e1
end
end Pl
end

section
set_option Elab.async false
set_option linter.all false
set_option maxRecDepth 100000
set_option maxHeartbeats 1000000
namespace Pl
open PySem PySem.Spec PyProof.Rows L2

section
variable {S : Type} {X : Cx} {𝒯 : Fam S} {pos : Pos} {K : PySem.W.Frag}
/-! ### a tuple of whole numbers walked by a built-in -/
theorem tup_walk {H : Hp} {s : Shared} {σ : L2.St} {pins : List (Addr × Obj)} {a : Addr} {ns : List Int} {A : Around} {E : Value → Shared → Prop} {Q : Value → Shared → Prop} (I : Inv X pins σ H s) (ha : Rd H a (.tup (ns.map V.int)))
    (h : ∀ (its : List Value) (I2 : Addr), IntsAre its ns → (A.handled = none → Walks X.prog X.w A I2 [I2, a] [I2] its.length (fun i v => its[i]? = some v) (fun i h => h.IsTupleIter I2 a i ∧ h.IsTuple a its.toArray)) →
      I2 = s.heap.objs.size → a < s.heap.objs.size → (s.heap.push { cls := .type "tuple_iterator", data := .fields #[.ref a, .int 0 0] }).IsTupleIter I2 a 0 → (s.heap.push { cls := .type "tuple_iterator", data := .fields #[.ref a, .int 0 0] }).IsTuple a its.toArray →
      Q (.ref I2) { s with heap := s.heap.push { cls := .type "tuple_iterator", data := .fields #[.ref a, .int 0 0] } }) : wpAny (model X.prog X.w) A (pyIter (.ref a)) Q E s := by
  obtain ⟨_, its, rv, o, ho, hc, n, hd⟩ := ha.ok I.hok
  have hlt : a < s.heap.objs.size := Heap.lt_size ho
  have ht : s.heap.IsTuple a its.toArray := ⟨o, ho, hc, n, hd⟩
  refine wpAny_pyIter_tuple ht ?_
  refine h its _ rv.ints (fun hh => ?_) rfl hlt ⟨_, Heap.get?_push_size _ rfl, rfl, rfl⟩ ⟨o, Heap.get?_push_of_some _ ho, hc, n, hd⟩
  have w := Walks.tuple (prog := X.prog) (w := X.w) (A := A) hh s.heap.objs.size a (Nat.ne_of_lt hlt) its.toArray
  simpa using w
theorem ints_at {its : List Value} {ns : List Int} (h : IntsAre its ns) {i : Nat} {v : Value} (e : its[i]? = some v) : ∃ t, v = .int (ns.getD i 0) t := by
  obtain ⟨n, t, e1, e2⟩ := IntsAre.at h i v e
  refine ⟨t, ?_⟩
  rw [e1, List.getD_eq_getElem?_getD, e2]
  rfl
theorem preSum_take (ns : List Int) : ∀ j, preSum (fun i => ns.getD i 0) j = (ns.take j).sum
  | 0 => by simp [preSum]
  | j + 1 => by
    rw [preSum, preSum_take ns j]
    by_cases h : j < ns.length
    · rw [List.take_succ_eq_append_getElem h, List.sum_append, List.getD_eq_getElem?_getD, List.getElem?_eq_getElem h]
      simp
    · rw [List.take_of_length_le (by omega), List.take_of_length_le (by omega), List.getD_eq_getElem?_getD, List.getElem?_eq_none (by omega)]
      simp
theorem sum_small : ∀ (ns : List Int), (∀ n ∈ ns, n.natAbs ≤ 1000000) → ns.sum.natAbs ≤ ns.length * 1000000
  | [], _ => by simp
  | n :: ns, h => by
    have h1 := h n List.mem_cons_self
    have h2 := sum_small ns fun m hm => h m (List.mem_cons_of_mem _ hm)
    rw [List.sum_cons, List.length_cons]
    have := Int.natAbs_add_le n ns.sum
    omega
theorem old_push {s : Shared} {I2 : Addr} {ob : Obj} {h' : Heap} (e : I2 = s.heap.objs.size) (hk : ∀ b o, b ∉ [I2] → (s.heap.push ob).get? b = some o → h'.get? b = some o) : ∀ b o, s.heap.get? b = some o → h'.get? b = some o := fun b o q => by
  refine hk b o (fun hm => ?_) (Heap.get?_push_of_some _ q)
  have := List.mem_singleton.mp hm
  subst this
  subst e
  exact absurd (Heap.lt_size q) (Nat.lt_irrefl _)
theorem cr_sumT (hc : X.calm = true) : CallR X (.builtin "sum") (fun vs H Q => ∃ (a : Addr) (ns : List Int), vs = [V.ref a] ∧ Rd H a (.tup (ns.map V.int)) ∧ (∀ n ∈ ns, n.natAbs ≤ 1000000) ∧ ns.length ≤ 1000000 ∧ Q (.int ns.sum) H) := by
  intro pins s σ H vs us Q I r h
  obtain ⟨a, ns, rfl, ha, hb, hl, q⟩ := h
  obtain ⟨u, rfl, ru⟩ := vals1 r
  cases ru
  refine call_sum_walk (tup_walk I ha fun its I2 hi W e hlt h1 h2 => ?_)
  have hlen := hi.length
  refine ⟨I2, _, _, _, _, _, fun i => ns.getD i 0, rfl, W (I.ok.hd hc), ⟨h1, h2⟩, fun b hb => ?_, fun i v e => ints_at hi e, fun j hj => ?_, fun h' tk t' hk => ?_⟩
  · rw [Heap.size_push]
    rcases List.mem_cons.mp hb with q | hb
    · rw [q, e]; exact Nat.lt_succ_self _
    · rw [List.mem_singleton.mp hb]; exact Nat.lt_succ_of_lt hlt
  · have hj' : j < ns.length := by omega
    constructor
    · have := hb (ns.getD j 0) (by rw [List.getD_eq_getElem?_getD, List.getElem?_eq_getElem hj']; exact List.getElem_mem _)
      show InLong (ns.getD j 0)
      unfold InLong
      omega
    · rw [preSum_take]
      have := sum_small (ns.take (j + 1)) fun n hn => hb n (List.mem_of_mem_take hn)
      have h3 := List.length_take_le (j + 1) ns
      have h4 : (ns.take (j + 1)).length ≤ 1000000 := by
        rw [List.length_take]
        omega
      have h5 := Nat.mul_le_mul_right 1000000 h4
      unfold InLong
      omega
  · rw [preSum_take, hlen, List.take_length]
    exact ⟨.int ns.sum, H, I.kept (old_push e hk), ⟨_, rfl⟩, q⟩
theorem cr_minT (hc : X.calm = true) : CallR X (.builtin "min") (fun vs H Q => ∃ (a : Addr) (ns : List Int), vs = [V.ref a] ∧ Rd H a (.tup (ns.map V.int)) ∧ 0 < ns.length ∧ ∀ m, m ∈ ns → (∀ y ∈ ns, m ≤ y) → Q (.int m) H) := by
  intro pins s σ H vs us Q I r h
  obtain ⟨a, ns, rfl, ha, hl, q⟩ := h
  obtain ⟨u, rfl, ru⟩ := vals1 r
  cases ru
  refine call_min_walk (tup_walk I ha fun its I2 hi W e hlt h1 h2 => ?_)
  have hlen := hi.length
  refine ⟨I2, _, _, _, _, _, _, rfl, W (I.ok.hd hc), ⟨h1, h2⟩, fun b hb => ?_, by omega, CmpOf.ints_lt (fun i => ns.getD i 0) (fun i v e => ints_at hi e), fun v h' tk hP hk => ?_⟩
  · rw [Heap.size_push]
    rcases List.mem_cons.mp hb with q | hb
    · rw [q, e]; exact Nat.lt_succ_self _
    · rw [List.mem_singleton.mp hb]; exact Nat.lt_succ_of_lt hlt
  · obtain ⟨t, rfl⟩ := ints_at hi hP
    obtain ⟨b1, b2⟩ := argBest_lt (fun i => ns.getD i 0) (its.length - 1)
    refine ⟨.int _, H, I.kept (old_push e hk), ⟨_, rfl⟩, q _ ?_ fun y hy => ?_⟩
    · rw [List.getD_eq_getElem?_getD, List.getElem?_eq_getElem (by omega)]
      exact List.getElem_mem _
    · obtain ⟨j, hj, e⟩ := List.mem_iff_getElem.mp hy
      have := b2 j (by omega)
      rw [← e]
      have g : ns.getD j 0 = ns[j] := by
        rw [List.getD_eq_getElem?_getD, List.getElem?_eq_getElem hj]
        rfl
      rw [← g]
      exact this
theorem cr_maxT (hc : X.calm = true) : CallR X (.builtin "max") (fun vs H Q => ∃ (a : Addr) (ns : List Int), vs = [V.ref a] ∧ Rd H a (.tup (ns.map V.int)) ∧ 0 < ns.length ∧ ∀ m, m ∈ ns → (∀ y ∈ ns, y ≤ m) → Q (.int m) H) := by
  intro pins s σ H vs us Q I r h
  obtain ⟨a, ns, rfl, ha, hl, q⟩ := h
  obtain ⟨u, rfl, ru⟩ := vals1 r
  cases ru
  refine call_max_walk (tup_walk I ha fun its I2 hi W e hlt h1 h2 => ?_)
  have hlen := hi.length
  refine ⟨I2, _, _, _, _, _, _, rfl, W (I.ok.hd hc), ⟨h1, h2⟩, fun b hb => ?_, by omega, CmpOf.ints_gt (fun i => ns.getD i 0) (fun i v e => ints_at hi e), fun v h' tk hP hk => ?_⟩
  · rw [Heap.size_push]
    rcases List.mem_cons.mp hb with q | hb
    · rw [q, e]; exact Nat.lt_succ_self _
    · rw [List.mem_singleton.mp hb]; exact Nat.lt_succ_of_lt hlt
  · obtain ⟨t, rfl⟩ := ints_at hi hP
    obtain ⟨b1, b2⟩ := argBest_gt (fun i => ns.getD i 0) (its.length - 1)
    refine ⟨.int _, H, I.kept (old_push e hk), ⟨_, rfl⟩, q _ ?_ fun y hy => ?_⟩
    · rw [List.getD_eq_getElem?_getD, List.getElem?_eq_getElem (by omega)]
      exact List.getElem_mem _
    · obtain ⟨j, hj, e⟩ := List.mem_iff_getElem.mp hy
      have := b2 j (by omega)
      rw [← e]
      have g : ns.getD j 0 = ns[j] := by
        rw [List.getD_eq_getElem?_getD, List.getElem?_eq_getElem hj]
        rfl
      rw [← g]
      exact this
/-! ### sum, min, max of a list or a tuple -/
def rSumA (K : PySem.W.Frag) : List V → Hp → VK → Prop := fun vs H Q => rSum K vs H Q ∨ ∃ (a : Addr) (ns : List Int), vs = [V.ref a] ∧ Rd H a (.tup (ns.map V.int)) ∧ (∀ n ∈ ns, n.natAbs ≤ 1000000) ∧ ns.length ≤ 1000000 ∧ Q (.int ns.sum) H
theorem cr_sumA (hc : X.calm = true) : CallR X (.builtin "sum") (rSumA X.K) := CallR.or (cr_sum hc) (cr_sumT hc)
def smallI (ns : List Int) : Bool := ns.all (fun n => decide (n.natAbs ≤ 1000000)) && decide (ns.length ≤ 1000000)
def oSum : List W → Option W := o1 fun w => (seqI w).bind fun ns => if smallI ns then some (.im (.int ns.sum)) else none
theorem smallI_of {ns : List Int} (h : smallI ns = true) : (∀ n ∈ ns, n.natAbs ≤ 1000000) ∧ ns.length ≤ 1000000 := by
  unfold smallI at h
  rw [Bool.and_eq_true, List.all_eq_true] at h
  exact ⟨fun n hn => of_decide_eq_true (h.1 n hn), of_decide_eq_true h.2⟩
theorem cal_sum : CalW (rSumA K) oSum := by
  intro S T H0 ρ σ H Ha fp s ws vs G w Q E hb oks e0 k
  obtain ⟨x, rfl, e1⟩ := o1_of e0
  cases q : seqI x with
  | none => rw [q] at e1; cases e1
  | some ns =>
    rw [q] at e1
    have e1 : (if smallI ns then some (W.im (.int ns.sum)) else none) = some w := e1
    by_cases c : smallI ns = true
    · rw [if_pos c] at e1
      injection e1 with e1
      subst e1
      obtain ⟨v, g, rfl, ok⟩ := woks1 oks
      obtain ⟨a, rfl, h⟩ := seqI_ok ok q
      have fin := k (.int ns.sum) H [] (ExV.refl T H) E.rel (wok_im (.int _))
      rcases h with ⟨h, _⟩ | h
      · exact .inr ⟨a, ns, rfl, h, (smallI_of c).1, (smallI_of c).2, fin⟩
      · exact .inl ⟨a, ns, rfl, .of h, fin⟩
    · rw [if_neg c] at e1
      cases e1
def minI : List Int → Option Int
  | [] => none
  | x :: xs => some (xs.foldl min x)
def maxI : List Int → Option Int
  | [] => none
  | x :: xs => some (xs.foldl max x)
theorem foldl_min : ∀ (xs : List Int) (x : Int), xs.foldl min x ∈ x :: xs ∧ ∀ y ∈ x :: xs, xs.foldl min x ≤ y
  | [], x => ⟨List.mem_cons_self, fun y hy => by
    rw [List.mem_singleton.mp hy]
    exact Int.le_refl _⟩
  | z :: xs, x => by
    obtain ⟨h1, h2⟩ := foldl_min xs (min x z)
    rw [List.foldl_cons]
    refine ⟨?_, fun y hy => ?_⟩
    · rcases List.mem_cons.mp h1 with e | h1
      · rw [e]
        rcases Int.le_total x z with h | h
        · rw [Int.min_eq_left h]; exact List.mem_cons_self
        · rw [Int.min_eq_right h]; exact List.mem_cons_of_mem _ List.mem_cons_self
      · exact List.mem_cons_of_mem _ (List.mem_cons_of_mem _ h1)
    · have h0 := h2 (min x z) List.mem_cons_self
      rcases List.mem_cons.mp hy with e | hy
      · subst e; omega
      · rcases List.mem_cons.mp hy with e | hy
        · subst e; omega
        · exact h2 y (List.mem_cons_of_mem _ hy)
theorem foldl_max : ∀ (xs : List Int) (x : Int), xs.foldl max x ∈ x :: xs ∧ ∀ y ∈ x :: xs, y ≤ xs.foldl max x
  | [], x => ⟨List.mem_cons_self, fun y hy => by
    rw [List.mem_singleton.mp hy]
    exact Int.le_refl _⟩
  | z :: xs, x => by
    obtain ⟨h1, h2⟩ := foldl_max xs (max x z)
    rw [List.foldl_cons]
    refine ⟨?_, fun y hy => ?_⟩
    · rcases List.mem_cons.mp h1 with e | h1
      · rw [e]
        rcases Int.le_total x z with h | h
        · rw [Int.max_eq_right h]; exact List.mem_cons_of_mem _ List.mem_cons_self
        · rw [Int.max_eq_left h]; exact List.mem_cons_self
      · exact List.mem_cons_of_mem _ (List.mem_cons_of_mem _ h1)
    · have h0 := h2 (max x z) List.mem_cons_self
      rcases List.mem_cons.mp hy with e | hy
      · subst e; omega
      · rcases List.mem_cons.mp hy with e | hy
        · subst e; omega
        · exact h2 y (List.mem_cons_of_mem _ hy)
theorem minI_one {ns : List Int} {m v : Int} (h : minI ns = some m) (h1 : v ∈ ns) (h2 : ∀ y ∈ ns, v ≤ y) : v = m := by
  cases ns with
  | nil => cases h
  | cons x xs =>
    injection h with h
    obtain ⟨a, b⟩ := foldl_min xs x
    rw [h] at a b
    exact Int.le_antisymm (h2 m a) (b v h1)
theorem maxI_one {ns : List Int} {m v : Int} (h : maxI ns = some m) (h1 : v ∈ ns) (h2 : ∀ y ∈ ns, y ≤ v) : v = m := by
  cases ns with
  | nil => cases h
  | cons x xs =>
    injection h with h
    obtain ⟨a, b⟩ := foldl_max xs x
    rw [h] at a b
    exact Int.le_antisymm (b v h1) (h2 m a)
def rMinA (K : PySem.W.Frag) : List V → Hp → VK → Prop := fun vs H Q => rMin K vs H Q ∨ ∃ (a : Addr) (ns : List Int), vs = [V.ref a] ∧ Rd H a (.tup (ns.map V.int)) ∧ 0 < ns.length ∧ ∀ m, m ∈ ns → (∀ y ∈ ns, m ≤ y) → Q (.int m) H
theorem cr_minA (hc : X.calm = true) : CallR X (.builtin "min") (rMinA X.K) := CallR.or (cr_min hc) (cr_minT hc)
def rMaxA (K : PySem.W.Frag) : List V → Hp → VK → Prop := fun vs H Q => rMax K vs H Q ∨ ∃ (a : Addr) (ns : List Int), vs = [V.ref a] ∧ Rd H a (.tup (ns.map V.int)) ∧ 0 < ns.length ∧ ∀ m, m ∈ ns → (∀ y ∈ ns, y ≤ m) → Q (.int m) H
theorem cr_maxA (hc : X.calm = true) : CallR X (.builtin "max") (rMaxA X.K) := CallR.or (cr_max hc) (cr_maxT hc)
def oMin : List W → Option W := o1 fun w => ((seqI w).bind minI).map fun m => W.im (.int m)
def oMax : List W → Option W := o1 fun w => ((seqI w).bind maxI).map fun m => W.im (.int m)
theorem cal_min : CalW (rMinA K) oMin := by
  intro S T H0 ρ σ H Ha fp s ws vs G w Q E hb oks e0 k
  obtain ⟨x, rfl, e1⟩ := o1_of e0
  obtain ⟨m, em, rfl⟩ := map_some e1
  cases q : seqI x with
  | none => rw [q] at em; cases em
  | some ns =>
    rw [q] at em
    have em : minI ns = some m := em
    obtain ⟨v, g, rfl, ok⟩ := woks1 oks
    obtain ⟨a, rfl, h⟩ := seqI_ok ok q
    have fin := k (.int m) H [] (ExV.refl T H) E.rel (wok_im (.int _))
    have pl : 0 < ns.length := by
      cases ns with
      | nil => cases em
      | cons _ _ => exact Nat.succ_pos _
    rcases h with ⟨h, _⟩ | h
    · exact .inr ⟨a, ns, rfl, h, pl, fun v h1 h2 => by rw [minI_one em h1 h2]; exact fin⟩
    · exact .inl ⟨a, ns, rfl, .of h, pl, fun v h1 h2 => by rw [minI_one em h1 h2]; exact fin⟩
theorem cal_max : CalW (rMaxA K) oMax := by
  intro S T H0 ρ σ H Ha fp s ws vs G w Q E hb oks e0 k
  obtain ⟨x, rfl, e1⟩ := o1_of e0
  obtain ⟨m, em, rfl⟩ := map_some e1
  cases q : seqI x with
  | none => rw [q] at em; cases em
  | some ns =>
    rw [q] at em
    have em : maxI ns = some m := em
    obtain ⟨v, g, rfl, ok⟩ := woks1 oks
    obtain ⟨a, rfl, h⟩ := seqI_ok ok q
    have fin := k (.int m) H [] (ExV.refl T H) E.rel (wok_im (.int _))
    have pl : 0 < ns.length := by
      cases ns with
      | nil => cases em
      | cons _ _ => exact Nat.succ_pos _
    rcases h with ⟨h, _⟩ | h
    · exact .inr ⟨a, ns, rfl, h, pl, fun v h1 h2 => by rw [maxI_one em h1 h2]; exact fin⟩
    · exact .inl ⟨a, ns, rfl, .of h, pl, fun v h1 h2 => by rw [maxI_one em h1 h2]; exact fin⟩
end
end Pl
end

section
set_option Elab.async false
set_option linter.all false
set_option maxRecDepth 100000
set_option maxHeartbeats 1000000
namespace Pl
open PySem PySem.Spec PyProof.Rows L2

section
variable {S : Type} {X : Cx} {𝒯 : Fam S} {pos : Pos} {K : PySem.W.Frag}
variable {a b c e : Expr} {es : List Expr} {ta tb te : TE} {ts : TA} {fa fb f : Fn S W} {fs : Fn S (List W)} {r : R2}

/-! ### calls with fixed data alone -/
def CalD (r : List V → Hp → VK → Prop) (o : List W → Option D) : Prop := ∀ (S : Type) (T : Vol S) (H Ha : Hp) (fp : Nat → List Addr) (ws : List W) (vs : List V) (G : List Addr) (d : D) (Q : VK),
  Woks T fp Ha H ws vs G → o ws = some d → (∀ z, RI H d z → Q z H) → r vs H Q
def oD (o : List W → Option D) : List W → Option W := fun ws => (o ws).map W.im
theorem CalD.w {r : List V → Hp → VK → Prop} {o : List W → Option D} (h : CalD r o) : CalW r (oD o) := by
  intro S T H0 ρ σ H Ha fp s ws vs G w Q E hb oks e0 k
  obtain ⟨d, ed, rfl⟩ := map_some e0
  exact h S T H Ha fp ws vs G d Q oks ed fun z rz => k z H [] (ExV.refl T H) E.rel (wok_im rz)
def oMax2 : List W → Option D
  | [.im (.int i), .im (.int j)] => some (.int (if j > i then j else i))
  | _ => none
theorem cal_max2 : CalD (fun xs H Q => ∃ i j, xs = [.int i, .int j] ∧ Q (.int (if j > i then j else i)) H) oMax2 := by
  intro S T H Ha fp ws vs G d Q oks e k
  unfold oMax2 at e
  split at e
  · rename_i i j
    injection e with e
    subst e
    obtain ⟨u, g, v, g', rfl, o1, o2⟩ := woks2 oks
    exact ⟨i, j, by rw [o1.2.inv_int, o2.2.inv_int], k _ (.int _)⟩
  · cases e
def oMin2 : List W → Option D
  | [.im (.int i), .im (.int j)] => some (.int (if j < i then j else i))
  | _ => none
theorem cal_min2 : CalD (fun xs H Q => ∃ i j, xs = [.int i, .int j] ∧ Q (.int (if j < i then j else i)) H) oMin2 := by
  intro S T H Ha fp ws vs G d Q oks e k
  unfold oMin2 at e
  split at e
  · rename_i i j
    injection e with e
    subst e
    obtain ⟨u, g, v, g', rfl, o1, o2⟩ := woks2 oks
    exact ⟨i, j, by rw [o1.2.inv_int, o2.2.inv_int], k _ (.int _)⟩
  · cases e
def oInt : List W → Option D
  | [.im (.int i)] => some (.int i)
  | [.im (.bl k)] => some (.int (if k then 1 else 0))
  | _ => none
theorem cal_int : CalD (fun xs H Q => (∃ i, xs = [.int i] ∧ Q (.int i) H) ∨ ∃ k, xs = [.bl k] ∧ Q (.int (if k then 1 else 0)) H) oInt := by
  intro S T H Ha fp ws vs G d Q oks e k
  unfold oInt at e
  split at e
  · rename_i i
    injection e with e
    subst e
    obtain ⟨u, g, rfl, o1⟩ := woks1 oks
    exact .inl ⟨i, by rw [o1.2.inv_int], k _ (.int _)⟩
  · rename_i i
    injection e with e
    subst e
    obtain ⟨u, g, rfl, o1⟩ := woks1 oks
    exact .inr ⟨i, by rw [o1.2.inv_bl], k _ (.int _)⟩
  · cases e
def oAbs : List W → Option D
  | [.im (.int i)] => some (.int (if i < 0 then -i else i))
  | _ => none
theorem cal_abs : CalD (fun xs H Q => ∃ i, xs = [.int i] ∧ Q (.int (if i < 0 then -i else i)) H) oAbs := by
  intro S T H Ha fp ws vs G d Q oks e k
  unfold oAbs at e
  split at e
  · rename_i i
    injection e with e
    subst e
    obtain ⟨u, g, rfl, o1⟩ := woks1 oks
    exact ⟨i, by rw [o1.2.inv_int], k _ (.int _)⟩
  · cases e
/-- all, any of a list of True, False -/
def bolsD : List D → Option (List Bool)
  | [] => some []
  | .bl b :: ds => (bolsD ds).map (b :: ·)
  | _ :: _ => none
@[simp] theorem bolsD_nil : bolsD [] = some [] := rfl
@[simp] theorem bolsD_cons (b : Bool) (ds : List D) : bolsD (.bl b :: ds) = (bolsD ds).map (b :: ·) := rfl
@[simp] theorem bolsD_map (bs : List Bool) : bolsD (bs.map D.bl) = some bs := by
  induction bs with
  | nil => rfl
  | cons b bs ih => rw [List.map_cons, bolsD_cons, ih]; rfl
theorem bolsD_eq : ∀ {ds : List D} {bs : List Bool}, bolsD ds = some bs → ds = bs.map D.bl
  | [], bs, h => by
    injection h with h
    subst h
    rfl
  | d :: ds, bs, h => by
    cases d with
    | bl b =>
      obtain ⟨cs, q, rfl⟩ := map_some (show (bolsD ds).map (b :: ·) = some bs from h)
      rw [bolsD_eq q]
      rfl
    | _ => cases h
theorem RIs.bols {H : Hp} : ∀ {bs : List Bool} {vs : List V}, RIs H (bs.map D.bl) vs → vs = bs.map V.bl
  | [], _, h => by
    cases h
    rfl
  | b :: bs, _, h => by
    rw [List.map_cons] at h
    match h with
    | .cons h r => rw [h.inv_bl, RIs.bols r]; rfl
def oBol (k : List Bool → Bool) : List W → Option D
  | [w] => if isLst w = true then ((seqD w).bind bolsD).map fun bs => .bl (k bs) else none
  | _ => none
theorem oBol_of {T : Vol S} {fp : Nat → List Addr} {H Ha : Hp} {ws : List W} {vs : List V} {G : List Addr} {k : List Bool → Bool} {d : D} (oks : Woks T fp Ha H ws vs G) (e : oBol k ws = some d) : ∃ a bs, vs = [.ref a] ∧ H a = some (.lst (bs.map V.bl)) ∧ d = .bl (k bs) := by
  unfold oBol at e
  split at e
  · rename_i w
    by_cases hl : isLst w = true
    · rw [if_pos hl] at e
      obtain ⟨bs, q, rfl⟩ := map_some e
      cases q2 : seqD w with
      | none => rw [q2] at q; cases q
      | some ds =>
        rw [q2] at q
        have e2 := bolsD_eq (show bolsD ds = some bs from q)
        subst e2
        obtain ⟨v, g, rfl, ok⟩ := woks1 oks
        obtain ⟨a, xs, rfl, rr, h⟩ := seqD_ok ok q2
        have e3 := rr.bols
        subst e3
        rcases h with ⟨_, h | h⟩ | h
        · subst h; cases hl
        · subst h; cases hl
        · exact ⟨a, bs, rfl, h, rfl⟩
    · rw [if_neg hl] at e
      cases e
  · cases e
theorem cal_all : CalD (rAll K) (oBol fun bs => bs.all id) := by
  intro S T H Ha fp ws vs G d Q oks e k
  obtain ⟨a, bs, rfl, h, rfl⟩ := oBol_of oks e
  exact ⟨a, bs, rfl, .of h, k _ (.bl _)⟩
theorem cal_any : CalD (rAny K) (oBol fun bs => bs.any id) := by
  intro S T H Ha fp ws vs G d Q oks e k
  obtain ⟨a, bs, rfl, h, rfl⟩ := oBol_of oks e
  exact ⟨a, bs, rfl, .of h, k _ (.bl _)⟩

/-! ### isinstance(x, T), T a built-in class -/
def tyD : D → String
  | .non => "NoneType"
  | .bl _ => "bool"
  | .int _ => "int"
  | .str _ => "str"
  | .tup _ => "tuple"
  | .ptp _ => "tuple"
def tyM : M → Option String
  | .im d => some (tyD d)
  | .lst _ => some "list"
  | .mtp _ => some "tuple"
  | .dk _ => none
  | .dt _ => none
theorem ty_ri {H : Hp} {d : D} {v : V} (h : RI H d v) : TyX K H v (.type (tyD d)) := by
  cases h with
  | non => exact .base .non
  | bl b => exact .base (.bl b)
  | int i => exact .base (.int i)
  | str s => exact .base (.str s)
  | tup h _ => exact .base (.tup h)
  | ptp h _ _ => exact .fTuple h
theorem ty_rm {H : Hp} {m : M} {v : V} {f : List Addr} {t : String} (h : RM H m v f) (e : tyM m = some t) : TyX K H v (.type t) := by
  cases h with
  | im h => injection e with e; subst e; exact ty_ri h
  | lst h _ _ => injection e with e; subst e; exact .base (.lst h)
  | mtp h _ => injection e with e; subst e; exact .base (.tup h)
  | dk h _ _ _ => cases e
  | dt h _ _ _ => cases e
def tyW : W → Option String
  | .im d => some (tyD d)
  | .new m => tyM m
  | .sl _ m => tyM m
  | _ => none
def fIsi (T : String) (f : Fn S W) : Fn S W := fun ρ s => bnd (f ρ s) fun x s1 => lft ((tyW x).bind fun t => kitB t T) s1 fun b => W.im (.bl b)
theorem de_isi {T : String} (h : DE 𝒯 te f) : DE 𝒯 (tCB (rIsi K) (tCons te (tCons (tC (.ty T)) tNil))) (fIsi T f) := by
  intro TT hT H0 ρ σ H fp s Q w s' E e0 k
  obtain ⟨x, s1, e1, e2⟩ := bnd_of e0
  obtain ⟨bb, e3, rfl, rfl⟩ := lft_of e2
  refine h TT hT H0 ρ σ H fp s _ x _ E e1 fun v H1 g xx r1 ok => ?_
  cases q : tyW x with
  | none => rw [q] at e3; cases e3
  | some t =>
    rw [q] at e3
    have e3 : kitB t T = some bb := e3
    have ty : TyX K H1 v (.type t) := by
      cases x with
      | im d => injection q with q; subst q; exact ty_ri ok.2
      | new m => exact ty_rm ok.1 q
      | sl i m => exact ty_rm ok.1 q
      | src => cases q
      | tm m => cases q
    exact ⟨v, .ty T, .type t, .type T, bb, rfl, .ty T, ty, kit_ty e3, k _ H1 [] xx r1 (wok_im (.bl _))⟩
theorem d_isi {T x : String} {p p2 p3 : Pos} (h : PD X 𝒯 e te f) (hp : PE X e te → PE X (.Call (.Name "isinstance" p) [e, .Name x p2] [] p3) (tCB (rIsi X.K) (tCons te (tCons (tC (.ty T)) tNil)))) :
    PD X 𝒯 (.Call (.Name "isinstance" p) [e, .Name x p2] [] p3) (tCB (rIsi X.K) (tCons te (tCons (tC (.ty T)) tNil))) (fIsi T f) := ⟨hp h.pe, de_isi h.de⟩

/-! ### methods: index, count -/
def rIdxL (K : PySem.W.Frag) : V → List V → Hp → VK → Prop := fun x xs H Q => ∃ (a : Addr) (ns : List Int) (k : Int), x = V.ref a ∧ xs = [.int k] ∧ SqL K H a (ns.map V.int) ∧ k ∈ ns ∧ Q (.int (ns.idxOf k : Nat)) H
theorem mt_idxL : MtR X "list.index" (rIdxL X.K) := by
  intro pins s σ H x xs v us Q I rx rxs h
  obtain ⟨a, ns, k, rfl, rfl, hl, hk, q⟩ := h
  cases rx
  obtain ⟨u, rfl, t, rfl⟩ := vals1 rxs
  obtain ⟨its, rv, hl, hz⟩ := I.list hl
  exact SeqAt.list_index_ints hl.isList rv.ints (by rw [List.length_map] at hz; exact hz) hk ⟨.int _, H, I.tok _, ⟨_, rfl⟩, q⟩
/-- a method of a list with one argument, fixed data handed back -/
def MetD (r : V → List V → Hp → VK → Prop) (o : W → W → Option D) : Prop := ∀ (S : Type) (TT : Vol S) (H Ha : Hp) (fp : Nat → List Addr) (x y : W) (u v : V) (g g' : List Addr) (d : D) (Q : VK),
  Wok TT fp Ha H x u g → Wok TT fp Ha H y v g' → o x y = some d → (∀ z, RI H d z → Q z H) → r u [v] H Q
def fMet (o : W → W → Option D) (fa fb : Fn S W) : Fn S W := fun ρ s => bnd (fa ρ s) fun x s1 => if isLst x = true then bnd (fb ρ s1) fun y s2 => lft (o x y) s2 W.im else none
theorem isLst_ty {TT : Vol S} {fp : Nat → List Addr} {H H' : Hp} {w : W} {v : V} {g : List Addr} (h : Wok TT fp H H' w v g) (e : isLst w = true) : tyV K "list" v H' := by
  cases w with
  | im d => cases e
  | new m =>
    cases m with
    | lst ms =>
      obtain ⟨a, xs, f, rfl, ht, _⟩ := h.1.inv_lst
      exact .inl ⟨rfl, xs, .of ht⟩
    | _ => cases e
  | sl i m =>
    cases m with
    | lst ms =>
      obtain ⟨a, xs, f, rfl, ht, _⟩ := h.1.inv_lst
      exact .inl ⟨rfl, xs, .of ht⟩
    | _ => cases e
  | src => cases e
  | tm m => cases e
theorem de_met {r : V → List V → Hp → VK → Prop} {o : W → W → Option D} (hm : MetD r o) (ha : DE 𝒯 ta fa) (hb : DE 𝒯 tb fb) : DE 𝒯 (tBM K "list" r ta (tCons tb tNil)) (fMet o fa fb) := by
  intro TT hT H0 ρ σ H fp s Q w s' E e0 k
  obtain ⟨x, s1, e1, e2⟩ := bnd_of e0
  refine ha TT hT H0 ρ σ H fp s _ x s1 E e1 fun u H1 g xx r1 ok1 => ?_
  by_cases c : isLst x = true
  · rw [if_pos c] at e2
    obtain ⟨y, s2, e3, e4⟩ := bnd_of e2
    obtain ⟨d, e5, rfl, rfl⟩ := lft_of e4
    refine ⟨isLst_ty ok1 c, ?_⟩
    refine hb TT hT H0 ρ σ H1 fp s1 _ y _ (E.step xx r1) e3 fun v H2 g' yy r2 ok2 => ?_
    exact hm S TT H2 H fp x y u v g g' d _ (ok1.keep E xx r1 yy) (ok2.early xx E.rel r1) e5 fun z rz => k z H2 [] (xx.trans yy) r2 (wok_im rz)
  · rw [if_neg c] at e2
    cases e2
def oIdx (x y : W) : Option D := match seqI x, intW y with
  | some ns, some k => if k ∈ ns then some (.int (ns.idxOf k : Nat)) else none
  | _, _ => none
def oCnt (x y : W) : Option D := match seqI x, intW y with
  | some ns, some k => some (.int (ns.count k : Nat))
  | _, _ => none
theorem met_idxL : MetD (rIdxL K) (fun x y => if isLst x = true then oIdx x y else none) := by
  intro S TT H Ha fp x y u v g g' d Q ok1 ok2 e k
  by_cases hl : isLst x = true
  · simp only [hl, if_true] at e
    unfold oIdx at e
    cases q : seqI x with
    | none => rw [q] at e; cases e
    | some ns =>
      cases q2 : intW y with
      | none => rw [q, q2] at e; cases e
      | some i =>
        rw [q, q2] at e
        have e : (if i ∈ ns then some (D.int (ns.idxOf i : Nat)) else none) = some d := e
        by_cases hm : i ∈ ns
        · rw [if_pos hm] at e
          injection e with e
          subst e
          obtain ⟨a, rfl, h⟩ := seqI_ok ok1 q
          obtain rfl := intW_of q2
          have ev := ok2.2.inv_int
          subst ev
          rcases h with ⟨_, h | h⟩ | h
          · subst h; cases hl
          · subst h; cases hl
          · exact ⟨a, ns, i, rfl, rfl, .of h, hm, k _ (.int _)⟩
        · rw [if_neg hm] at e
          cases e
  · simp only [hl] at e
    cases e
theorem met_cntL : MetD (rCntI K) (fun x y => if isLst x = true then oCnt x y else none) := by
  intro S TT H Ha fp x y u v g g' d Q ok1 ok2 e k
  by_cases hl : isLst x = true
  · simp only [hl, if_true] at e
    unfold oCnt at e
    cases q : seqI x with
    | none => rw [q] at e; cases e
    | some ns =>
      cases q2 : intW y with
      | none => rw [q, q2] at e; cases e
      | some i =>
        rw [q, q2] at e
        injection e with e
        subst e
        obtain ⟨a, rfl, h⟩ := seqI_ok ok1 q
        obtain rfl := intW_of q2
        have ev := ok2.2.inv_int
        subst ev
        rcases h with ⟨_, h | h⟩ | h
        · subst h; cases hl
        · subst h; cases hl
        · exact ⟨a, ns, i, rfl, rfl, .of h, k _ (.int _)⟩
  · simp only [hl] at e
    cases e
theorem d_met {r : V → List V → Hp → VK → Prop} {o : W → W → Option D} {x : Str} {ap : Pos} (hm : MetD r o) (ha : PD X 𝒯 a ta fa) (hb : PD X 𝒯 b tb fb)
    (hp : PE X a ta → PE X b tb → PE X (.Call (.Attribute a x ap) [b] [] pos) (tBM X.K "list" r ta (tCons tb tNil))) : PD X 𝒯 (.Call (.Attribute a x ap) [b] [] pos) (tBM X.K "list" r ta (tCons tb tNil)) (fMet o fa fb) := ⟨hp ha.pe hb.pe, de_met hm ha.de hb.de⟩
end
end Pl
end

section
set_option Elab.async false
set_option linter.all false
set_option maxRecDepth 100000
set_option maxHeartbeats 1000000
namespace Pl
open PySem PySem.Spec PyProof.Rows L2 StX

section
variable {S : Type} {X : Cx} {𝒯 : Fam S} {pos : Pos} {K : PySem.W.Frag}
variable {a b c e o : Expr} {es : List Expr} {ta tb te to : TE} {t ts : TA} {fa fb f : Fn S W} {fs : Fn S (List W)} {r : R2} {name : Str} {apos cpos : Pos} {id : String}

/-! ### a method of a plain tuple -/
def tTM (rr : V → List V → Hp → VK → Prop) (to : TE) (t : TA) : TE := fun σ H Q => to σ H fun x H1 => (∃ p ob xs, x = .ref p ∧ H1 p = some (.frz ob (.tup xs)) ∧ ob.dict = none) ∧ t σ H1 fun ys H2 => rr x ys H2 Q
theorem pe_tm {rr : V → List V → Hp → VK → Prop} (slot : Slot "tuple" name id) (hty : typeOf (.builtin id) = pure (.type "method_descriptor")) (hm : MtR X id rr) (ho : PE X o to) (ha : PA X (e :: es) t)
    (hbase : attributeBase o name X.env (eval o X.env) = eval o X.env := by rfl)
    (hfew : ((backTo cpos (starEach (e :: es) X.env)).all (fun x => !x.1) && (backToKw cpos (keywordEach [] X.env)).all (fun x => x.1.isSome)
      && decide ((e :: es).length + ([] : List Keyword).length + (if ([] : List Keyword).isEmpty then 0 else 1) < 30)) = true := by rfl)
    (hline : (apos.endLine == cpos.line) = true := by rfl) (hs : starEach (e :: es) X.env = (false, eval e X.env) :: starEach es X.env := by rfl) (hplain : (backTo cpos (starEach es X.env)).any (·.1) = false := by rfl) :
    PE X (.Call (.Attribute o name apos) (e :: es) [] cpos) (tTM rr to t) := by
  refine ⟨fun pins s σ H Q I h => ?_⟩
  refine wpAny_Call_method_late hbase hfew hline rfl (thn (ho.run pins s σ H _ I h) fun v s1 q => ?_)
  obtain ⟨x, H1, I1, r1, ⟨p, ob, xs, rfl, hp, hd⟩, q1⟩ := q
  obtain rfl : v = Value.ref p := r1
  obtain ⟨hg, _, its, _, o2, ho2, hc2, _⟩ := (show ObjOk X.prog X.w H1 s1.heap p (.frz ob (.tup xs)) from I1.hok p _ hp)
  have eo : o2 = ob := Option.some.inj (ho2.symm.trans hg)
  subst eo
  refine ⟨"tuple", id, PySem.F.plainAttrs_tuple, slot, hty, ⟨_, hg, hc2⟩, fun a ea => ?_, ?_⟩
  · cases ea
    exact ⟨_, hg, hd⟩
  · have hA := ha.run cpos pins s1 σ H1 _ I1 q1
    rw [hs] at hA ⊢
    refine Calls.callWith_builtin (by show (false || (backTo cpos (starEach es X.env)).any (·.1)) = false; rw [hplain] <;> rfl) (Calls.evalArgs_plain ?_)
    exact thn hA fun us s2 ⟨vs, H2, I2, r2, q2⟩ => hm pins s2 σ H2 (.ref p) vs (.ref p) us Q I2 rfl r2 q2
def rIdxT : V → List V → Hp → VK → Prop := fun x xs H Q => ∃ (a : Addr) (ns : List Int) (k : Int), x = V.ref a ∧ xs = [.int k] ∧ Rd H a (.tup (ns.map V.int)) ∧ k ∈ ns ∧ Q (.int (ns.idxOf k : Nat)) H
theorem mt_idxT : MtR X "tuple.index" rIdxT := by
  intro pins s σ H x xs v us Q I rx rxs h
  obtain ⟨a, ns, k, rfl, rfl, hl, hk, q⟩ := h
  cases rx
  obtain ⟨u, rfl, t, rfl⟩ := vals1 rxs
  obtain ⟨its, rv, hl, hz⟩ := I.tuple (.inl hl)
  exact SeqAt.tuple_index_ints (show s.heap.IsTuple a its.toArray from hl) rv.ints hk ⟨.int _, H, I.tok _, ⟨_, rfl⟩, q⟩
def intsP : W → Option (List Int)
  | .im (.ptp ds) => intsD ds
  | _ => none
def oIdxT (x y : W) : Option D := match intsP x, intW y with
  | some ns, some k => if k ∈ ns then some (.int (ns.idxOf k : Nat)) else none
  | _, _ => none
def fTmt (oo : W → W → Option D) (fa fb : Fn S W) : Fn S W := fun ρ s => bnd (fa ρ s) fun x s1 => if isPtp x = true then bnd (fb ρ s1) fun y s2 => lft (oo x y) s2 W.im else none
def MetT (rr : V → List V → Hp → VK → Prop) (oo : W → W → Option D) : Prop := ∀ (S : Type) (TT : Vol S) (H Ha : Hp) (fp : Nat → List Addr) (x y : W) (u v : V) (g g' : List Addr) (d : D) (Q : VK),
  Wok TT fp Ha H x u g → Wok TT fp Ha H y v g' → oo x y = some d → (∀ z, RI H d z → Q z H) → rr u [v] H Q
theorem met_idxT : MetT rIdxT oIdxT := by
  intro S TT H Ha fp x y u v g g' d Q ok1 ok2 e k
  unfold oIdxT at e
  cases q : intsP x with
  | none => rw [q] at e; cases e
  | some ns =>
    cases q2 : intW y with
    | none => rw [q, q2] at e; cases e
    | some i =>
      rw [q, q2] at e
      have e : (if i ∈ ns then some (D.int (ns.idxOf i : Nat)) else none) = some d := e
      by_cases hm : i ∈ ns
      · rw [if_pos hm] at e
        injection e with e
        subst e
        obtain rfl := intW_of q2
        have ev := ok2.2.inv_int
        subst ev
        cases x with
        | im d0 =>
          cases d0 with
          | ptp ds =>
            have e2 := intsD_eq (show intsD ds = some ns from q)
            subst e2
            obtain ⟨a, ob, xs, rfl, ht, _, rr⟩ := ok1.2.inv_ptp
            rw [rr.ints] at ht
            exact ⟨a, ns, i, rfl, rfl, .inr ⟨_, ht⟩, hm, k _ (.int _)⟩
          | _ => cases q
        | _ => cases q
      · rw [if_neg hm] at e
        cases e
theorem de_tmt {rr : V → List V → Hp → VK → Prop} {oo : W → W → Option D} (hm : MetT rr oo) (ha : DE 𝒯 ta fa) (hb : DE 𝒯 tb fb) : DE 𝒯 (tTM rr ta (tCons tb tNil)) (fTmt oo fa fb) := by
  intro TT hT H0 ρ σ H fp s Q w s' E e0 k
  obtain ⟨x, s1, e1, e2⟩ := bnd_of e0
  refine ha TT hT H0 ρ σ H fp s _ x s1 E e1 fun u H1 g xx r1 ok1 => ?_
  by_cases c : isPtp x = true
  · rw [if_pos c] at e2
    obtain ⟨y, s2, e3, e4⟩ := bnd_of e2
    obtain ⟨d, e5, rfl, rfl⟩ := lft_of e4
    refine ⟨?_, ?_⟩
    · cases x with
      | im d0 =>
        cases d0 with
        | ptp ds =>
          obtain ⟨a, ob, xs, rfl, ht, n, _⟩ := ok1.2.inv_ptp
          exact ⟨a, ob, xs, rfl, ht, n⟩
        | _ => cases c
      | _ => cases c
    · refine hb TT hT H0 ρ σ H1 fp s1 _ y _ (E.step xx r1) e3 fun v H2 g' yy r2 ok2 => ?_
      exact hm S TT H2 H fp x y u v g g' d _ (ok1.keep E xx r1 yy) (ok2.early xx E.rel r1) e5 fun z rz => k z H2 [] (xx.trans yy) r2 (wok_im rz)
  · rw [if_neg c] at e2
    cases e2
theorem d_tindex {ap : Pos} (ha : PD X 𝒯 a ta fa) (hb : PD X 𝒯 b tb fb)
    (hp : PE X a ta → PE X b tb → PE X (.Call (.Attribute a "index" ap) [b] [] pos) (tTM rIdxT ta (tCons tb tNil))) : PD X 𝒯 (.Call (.Attribute a "index" ap) [b] [] pos) (tTM rIdxT ta (tCons tb tNil)) (fTmt oIdxT fa fb) := ⟨hp ha.pe hb.pe, de_tmt met_idxT ha.de hb.de⟩

/-! ### plain tuples made -/
def tTupP (t : TA) : TE := fun σ H Q => t σ H fun xs H1 => xs.length ≤ sizeLine ∧ ∀ p ob, H1 p = none → ob.dict = none → Q (.ref p) (upd H1 p (.frz ob (.tup xs)))
theorem pe_tupP {x1} (h : PA X es t) : PE X (.Tuple es x1 pos) (tTupP t) := by
  refine ⟨fun pins s σ H Q I hq => ?_⟩
  refine wpAny_Tuple_spliced (thn (h.run pos pins s σ H _ I hq) fun us s1 ⟨xs, H1, I1, r, z, q⟩ => ⟨by rw [← r.length]; exact z, ?_⟩)
  have hf : H1 s1.heap.objs.size = none := I1.hok.fresh (Nat.le_refl _)
  refine ⟨.ref s1.heap.objs.size, _, ?_, rfl, q _ { cls := .type "tuple", data := .seq us.toArray } hf rfl⟩
  refine I1.laid (t' := s1.toks) (fun b u e => Heap.get?_push_of_some _ e) (Nat.le_refl _) ⟨Heap.get?_push_size _ rfl, z, us, r, ⟨_, Heap.get?_push_size _ rfl, rfl, _, rfl⟩⟩
def ptpM (ms : List M) : Option D := (allIm ms).map D.ptp
def fTupP (fs : Fn S (List W)) : Fn S W := fun ρ s => bnd (fs ρ s) fun ws s1 => if szOk ws.length then lft ((stos ws).bind ptpM) s1 W.im else none
theorem ptp_ok {H : Hp} {ms : List M} {vs : List V} {f : List Addr} {p : Addr} {ob : Obj} {d : D} (h : H p = some (.frz ob (.tup vs))) (n : ob.dict = none) (r : RMs H ms vs f) (e : ptpM ms = some d) : RI H d (.ref p) := by
  obtain ⟨ds, q, rfl⟩ := map_some e
  have e := allIm_eq q
  subst e
  exact .ptp h n (RMs.of_ims r).1
theorem de_tupP (hs : DA 𝒯 ts fs) : DE 𝒯 (tTupP ts) (fTupP fs) := by
  intro T hT H0 ρ σ H fp s Q w s' E e0 k
  obtain ⟨ws, s1, e1, e⟩ := bnd_of e0
  by_cases hz : szOk ws.length = true
  · rw [if_pos hz] at e
    obtain ⟨d, e2, rfl, rfl⟩ := lft_of e
    cases q : stos ws with
    | none => rw [q] at e2; cases e2
    | some ms =>
      rw [q] at e2
      refine hs T hT H0 ρ σ H fp s _ ws _ E e1 fun vs H1 G x r oks => ⟨by rw [oks.length]; exact szOk_le hz, fun p ob hp n => ?_⟩
      refine k _ _ [] (x.trans (ExV.new hp)) (T.upd r (T.new r hp)) (wok_im (ptp_ok upd_same n (keeps_new hp (stos_ok oks q)) e2))
  · rw [if_neg hz] at e
    cases e
theorem d_tupP {x1} (h : PDA X 𝒯 es ts fs) : PD X 𝒯 (.Tuple es x1 pos) (tTupP ts) (fTupP fs) := ⟨pe_tupP h.pe, de_tupP h.de⟩
/-- tuple(xs) of a list -/
def rTupP : List V → Hp → VK → Prop := fun xs H Q => ∃ p ys, xs = [.ref p] ∧ H p = some (.lst ys) ∧ ∀ l ob, H l = none → ob.dict = none → Q (.ref l) (upd H l (.frz ob (.tup ys)))
theorem cr_tupP : CallR X (.type "tuple") rTupP := by
  intro pins s σ H xs us Q I r h
  obtain ⟨p, ys, rfl, hp, q⟩ := h
  obtain ⟨u, rfl, rx⟩ := vals1 r
  cases rx
  obtain ⟨its, rv, pl, hz⟩ := I.list (.of hp)
  refine call_tuple_list pl.isList (fun h' hk => ?_) (by rw [List.size_toArray, ← rv.length]; exact hz)
  have I1 : Inv X pins σ H { s with heap := h' } := I.kept (t' := s.toks) hk
  refine ⟨.ref h'.objs.size, _, ?_, rfl, q _ { cls := .type "tuple", data := .seq its.toArray } (I1.hok.fresh (Nat.le_refl _)) rfl⟩
  exact I1.laid (t' := s.toks) (fun b o e => Heap.get?_push_of_some _ e) (Nat.le_refl _) ⟨Heap.get?_push_size _ rfl, hz, its, rv, IsTup.new _ _⟩
def oTupP : List W → Option W := o1 fun w => if isLst w = true then ((seqD w).map fun ds => W.im (.ptp ds)) else none
theorem cal_tupP : CalW rTupP oTupP := by
  intro S T H0 ρ σ H Ha fp s ws vs G w Q E hb oks e0 k
  obtain ⟨x, rfl, e1⟩ := o1_of e0
  by_cases hl : isLst x = true
  · rw [if_pos hl] at e1
    obtain ⟨ds, en, rfl⟩ := map_some e1
    obtain ⟨v, g, rfl, ok⟩ := woks1 oks
    obtain ⟨a, xs, rfl, rr, h⟩ := seqD_ok ok en
    rcases h with ⟨_, h | h⟩ | h
    · subst h; cases hl
    · subst h; cases hl
    · refine ⟨a, xs, rfl, h, fun l ob hl n => ?_⟩
      obtain ⟨n1, n2⟩ := newly (o := .frz ob (.tup xs)) E hl
      exact k _ _ [] n1 n2 (wok_im (.ptp upd_same n (rr.keep (new_tk hl))))
  · rw [if_neg hl] at e1
    cases e1
/-! ### starred arguments -/
def fStar (f : Fn S W) (fs : Fn S (List W)) : Fn S (List W) := fun ρ s => bnd (f ρ s) fun w s1 => bnd (fs ρ s1) fun ws s2 => lft (seqD w) s2 fun ds => ds.map W.im ++ ws
theorem Woks.ims {T : Vol S} {fp : Nat → List Addr} {H H' : Hp} {ws : List W} {vs : List V} {G : List Addr} (h : Woks T fp H H' ws vs G) : ∀ {ds : List D} {xs : List V}, RIs H' ds xs → Woks T fp H H' (ds.map W.im ++ ws) (xs ++ vs) G
  | _, _, .nil => h
  | _, _, .cons r rr => .cons ⟨rfl, r⟩ (Woks.ims h rr) (fun _ z => by cases z) rfl
theorem da_star (h : DE 𝒯 te f) (hs : DA 𝒯 ts fs) : DA 𝒯 (tStar K te ts) (fStar f fs) := by
  intro T hT H0 ρ σ H fp s Q ws' s' E e0 k
  obtain ⟨w, s1, e1, e2⟩ := bnd_of e0
  obtain ⟨ws, s2, e3, e4⟩ := bnd_of e2
  obtain ⟨ds, e5, rfl, rfl⟩ := lft_of e4
  refine h T hT H0 ρ σ H fp s _ w s1 E e1 fun v H1 g x r ok => ?_
  obtain ⟨a, xs, rfl, rr, hh⟩ := seqD_ok ok e5
  refine ⟨a, xs, rfl, ?_, ?_⟩
  · rcases hh with ⟨hh, _⟩ | hh
    · exact .inl (.inl hh)
    · exact .inr (.of hh)
  · refine hs T hT H0 ρ σ H1 fp s1 _ ws _ (E.step x r) e3 fun vs H2 G y r2 oks => ?_
    exact k _ H2 _ (x.trans y) r2 ((oks.early x E.rel r).ims (rr.keep (y.tk r)))
theorem a_star {p : Pos} (h : PD X 𝒯 e te f) (hs : PDA X 𝒯 es ts fs) (he : starEach (.Starred e p :: es) X.env = (true, eval e X.env) :: starEach es X.env := by rfl) : PDA X 𝒯 (.Starred e p :: es) (tStar X.K te ts) (fStar f fs) := ⟨pa_star h.pe hs.pe he, da_star h.de hs.de⟩
/-! ### slices -/
abbrev FO (S : Type) := Fn S (Option Int)
def DO (𝒯 : Fam S) (t : TO) (f : FO S) : Prop := ∀ T, 𝒯 T → ∀ H0 ρ σ H fp s Q b s', Env T H0 ρ σ H fp s → f ρ s = some (b, s') → (∀ H', ExV T H H' → T.rel s' H' → Q b H') → t σ H Q
structure PDO (X : Cx) (𝒯 : Fam S) (e : Option Expr) (t : TO) (f : FO S) : Prop where
  pe : PO X e t
  de : DO 𝒯 t f
def fPart (f : Fn S W) : FO S := fun ρ s => bnd (f ρ s) fun w s1 => lft (intW w) s1 some
theorem o_none : PDO X 𝒯 none tNoPart (fun _ s => some (none, s) : FO S) := ⟨po_none, by
  intro T hT H0 ρ σ H fp s Q b s' E e k
  injection e with e
  injection e with e1 e2
  subst e1
  subst e2
  exact k H (ExV.refl T H) E.rel⟩
theorem o_some (h : PD X 𝒯 e te f) : PDO X 𝒯 (some e) (tPart te) (fPart f) := ⟨po_some h.pe, by
  intro T hT H0 ρ σ H fp s Q b s' E e0 k
  obtain ⟨w, s1, e1, e2⟩ := bnd_of e0
  obtain ⟨i, e3, rfl, rfl⟩ := lft_of e2
  obtain rfl := intW_of e3
  exact h.de T hT H0 ρ σ H fp s _ _ _ E e1 fun v H1 g x r ok => ⟨i, ok.2.inv_int, k H1 x r⟩⟩
def cutL {α : Type} (xs : List α) (lo hi : Option Int) : List α := (xs.drop (HT.sIx xs.length 0 lo)).take (HT.sIx xs.length xs.length hi - HT.sIx xs.length 0 lo)
theorem RIs.drop {H : Hp} : ∀ (n : Nat) {ds : List D} {vs : List V}, RIs H ds vs → RIs H (ds.drop n) (vs.drop n)
  | 0, _, _, h => h
  | _ + 1, _, _, .nil => .nil
  | n + 1, _, _, .cons _ r => RIs.drop n r
theorem RIs.take {H : Hp} : ∀ (n : Nat) {ds : List D} {vs : List V}, RIs H ds vs → RIs H (ds.take n) (vs.take n)
  | 0, _, _, _ => .nil
  | _ + 1, _, _, .nil => .nil
  | n + 1, _, _, .cons h r => .cons h (RIs.take n r)
theorem RIs.cut {H : Hp} {ds : List D} {vs : List V} (h : RIs H ds vs) (lo hi : Option Int) : RIs H (cutL ds lo hi) (cutV vs lo hi) := by
  unfold cutL cutV
  rw [h.length]
  exact (h.drop _).take _
theorem cutL_whole {α : Type} {xs : List α} {lo hi : Option Int} (h : HT.sIx xs.length 0 lo = 0 ∧ HT.sIx xs.length xs.length hi = xs.length) : cutL xs lo hi = xs := by
  unfold cutL
  rw [h.1, h.2]
  simp
/-- a slice of a list, of a tuple -/
def rSlA2 (K : PySem.W.Frag) : V → Option Int → Option Int → Hp → VK → Prop := fun x lo hi H Q => rSlL K x lo hi H Q ∨ rSlA K x lo hi H Q
theorem sl_any : SlR X (rSlA2 X.K) := SlR.or sl_list sl_tupA
def isTup : W → Bool
  | .im (.tup _) => true
  | _ => false
def wholeL {α : Type} (ds : List α) (lo hi : Option Int) : Bool := decide (HT.sIx ds.length 0 lo = 0) && decide (HT.sIx ds.length ds.length hi = ds.length)
theorem wholeL_iff {α : Type} {ds : List α} {lo hi : Option Int} : wholeL ds lo hi = true ↔ HT.sIx ds.length 0 lo = 0 ∧ HT.sIx ds.length ds.length hi = ds.length := by
  unfold wholeL
  rw [Bool.and_eq_true, decide_eq_true_eq, decide_eq_true_eq]
def sliceW (w : W) (lo hi : Option Int) : Option W := if isLst w = true then (seqD w).map fun ds => W.new (.lst ((cutL ds lo hi).map M.im)) else if isTup w = true then (seqD w).map fun ds => W.im (.tup (cutL ds lo hi)) else if isPtp w = true then (seqD w).map fun ds => if wholeL ds lo hi = true then w else W.im (.tup (cutL ds lo hi)) else none
def fSlice (f : Fn S W) (fl fh : FO S) : Fn S W := fun ρ s => bnd (f ρ s) fun w s1 => bnd (fl ρ s1) fun l s2 => bnd (fh ρ s2) fun u s3 => lft (sliceW w l u) s3 (fun z => z)
theorem de_slice {tl th : TO} {fl fh : FO S} (h : DE 𝒯 te f) (hl : DO 𝒯 tl fl) (hh : DO 𝒯 th fh) : DE 𝒯 (tSl (rSlA2 K) te tl th) (fSlice f fl fh) := by
  intro T hT H0 ρ σ H fp s Q w s' E e0 k
  obtain ⟨x, s1, e1, e2⟩ := bnd_of e0
  obtain ⟨l, s2, e3, e4⟩ := bnd_of e2
  obtain ⟨u, s3, e5, e6⟩ := bnd_of e4
  obtain ⟨w', e7, e8, rfl⟩ := lft_of e6
  have e8 : w = w' := e8
  subst e8
  refine h T hT H0 ρ σ H fp s _ x s1 E e1 fun v H1 g xx r1 ok => ?_
  have E1 := E.step xx r1
  refine hl T hT H0 ρ σ H1 fp s1 _ l s2 E1 e3 fun H2 yy r2 => ?_
  have E2 := E1.step yy r2
  refine hh T hT H0 ρ σ H2 fp s2 _ u _ E2 e5 fun H3 zz r3 => ?_
  have E3 := E2.step zz r3
  have ok3 := ok.keep E xx r1 (yy.trans zz)
  have hb : ∀ p, H3 p = none → H p = none := fun p hp => (xx.trans (yy.trans zz)).back E.rel hp r3
  unfold sliceW at e7
  by_cases c : isLst x = true
  · rw [if_pos c] at e7
    obtain ⟨ds, q, rfl⟩ := map_some e7
    obtain ⟨a, xs, rfl, rr, hd⟩ := seqD_ok ok3 q
    rcases hd with ⟨_, hd | hd⟩ | hd
    · subst hd; cases c
    · subst hd; cases c
    · refine .inl ⟨a, xs, rfl, .of hd, fun p hp => ?_⟩
      obtain ⟨n1, n2⟩ := newly (o := .lst (cutV xs l u)) E3 hp
      exact k _ _ [p] ((xx.trans (yy.trans zz)).trans n1) n2 (new_ims hp (hb p hp) (rr.cut l u))
  · rw [if_neg c] at e7
    by_cases c2 : isTup x = true
    · rw [if_pos c2] at e7
      obtain ⟨ds, q, rfl⟩ := map_some e7
      cases x with
      | im d =>
        cases d with
        | tup es =>
          injection q with q
          subst q
          obtain ⟨a, xs, rfl, ht, rr⟩ := ok3.2.inv_tup
          refine .inr ⟨a, xs, rfl, .of ht, fun hw => ?_, fun hw p hp => ?_⟩
          · rw [rr.length] at hw
            rw [cutL_whole hw] at k
            exact k _ _ [] (xx.trans (yy.trans zz)) r3 (wok_im (.tup ht rr))
          · obtain ⟨n1, n2⟩ := newly (o := .tup (cutV xs l u)) E3 hp
            exact k _ _ [] ((xx.trans (yy.trans zz)).trans n1) n2 (wok_im (.tup upd_same ((rr.cut l u).keep (new_tk hp))))
        | _ => cases c2
      | _ => cases c2
    · rw [if_neg c2] at e7
      by_cases c3 : isPtp x = true
      · rw [if_pos c3] at e7
        obtain ⟨ds, q, e9⟩ := map_some e7
        cases x with
        | im d =>
          cases d with
          | ptp es =>
            injection q with q
            subst q
            obtain ⟨a, ob, xs, rfl, ht, nd, rr⟩ := ok3.2.inv_ptp
            refine .inr ⟨a, xs, rfl, .inl (.inr ⟨_, ht⟩), fun hw => ?_, fun hw p hp => ?_⟩
            · rw [rr.length] at hw
              rw [if_pos (wholeL_iff.mpr hw)] at e9
              subst e9
              exact k _ _ [] (xx.trans (yy.trans zz)) r3 (wok_im (.ptp ht nd rr))
            · rw [rr.length] at hw
              rw [if_neg (fun z => hw (wholeL_iff.mp z))] at e9
              subst e9
              obtain ⟨n1, n2⟩ := newly (o := .tup (cutV xs l u)) E3 hp
              exact k _ _ [] ((xx.trans (yy.trans zz)).trans n1) n2 (wok_im (.tup upd_same ((rr.cut l u).keep (new_tk hp))))
          | _ => cases c3
        | _ => cases c3
      · rw [if_neg c3] at e7
        cases e7
theorem d_slice {lo hi : Option Expr} {tl th : TO} {fl fh : FO S} {p2 : Pos} (h : PD X 𝒯 e te f) (hl : PDO X 𝒯 lo tl fl) (hh : PDO X 𝒯 hi th fh) : PD X 𝒯 (.Subscript e (.Slice lo hi none p2) pos) (tSl (rSlA2 X.K) te tl th) (fSlice f fl fh) := ⟨pe_slice sl_any h.pe hl.pe hh.pe, de_slice h.de hl.de hh.de⟩
end
end Pl
end

section
set_option Elab.async false
set_option linter.all false
set_option maxRecDepth 100000
set_option maxHeartbeats 1000000
namespace Pl
open PySem PySem.Spec PyProof.Rows L2 StX

section
variable {S : Type} {X : Cx} {𝒯 : Fam S} {pos : Pos} {K : PySem.W.Frag}
variable {T : Vol S} {H0 : Bs} {H H' H1 : Hp} {ρ ρ' : Rho} {σ : L2.St} {fp fp' : Nat → List Addr} {s s' : S}

/-! ### the environment behind a change -/
theorem env_cell {c : C} {v : V} {g : List Addr} {i : Nat} (E : Env T H0 ρ σ H fp s) (ok : CellOk T H0 H c (some (some v)) g) (sp : ∀ k, k ≠ i → isOwn ρ k → ∀ a ∈ fp k, a ∉ g) (so : (∃ m, c = .own m) → ∀ k, k ≠ i → ∀ a ∈ fp k, a ∉ g) (hi : i < ρ.length) :
    Env T H0 (ρ.set i c) (σ.set i (some v)) H (fpu fp i g) s := by
  have hσ : i < σ.length := by rw [E.len]; exact hi
  refine ⟨by rw [List.length_set, List.length_set, E.len], E.rel, E.ex, fun j => ?_, fun j k hjk ho a ha hb => ?_, E.lkd⟩
  · by_cases e : j = i
    · subst e
      rw [cel_set_self hi, List.getElem?_set_self hσ]
      unfold fpu
      rw [if_pos rfl]
      exact ok
    · rw [cel_set_ne e, List.getElem?_set_ne (Ne.symm e)]
      unfold fpu
      rw [if_neg e]
      exact E.ok j
  · unfold fpu at ha hb
    by_cases e : j = i
    · subst e
      rw [if_pos rfl] at ha
      rw [if_neg (Ne.symm hjk)] at hb
      obtain ⟨m, q⟩ := ho
      rw [cel_set_self hi] at q
      exact so ⟨m, q⟩ k (Ne.symm hjk) a hb ha
    · rw [if_neg e] at ha
      have ho' : isOwn ρ j := by
        obtain ⟨m, q⟩ := ho
        rw [cel_set_ne e] at q
        exact ⟨m, q⟩
      by_cases e2 : k = i
      · subst e2
        rw [if_pos rfl] at hb
        exact sp j e ho' a ha hb
      · rw [if_neg e2] at hb
        exact E.sep j k hjk ho' a ha hb
theorem env_im {d : D} {v : V} {i : Nat} (E : Env T H0 ρ σ H fp s) (r : RI H d v) (hi : i < ρ.length) : Env T H0 (ρ.set i (.im d)) (σ.set i (some v)) H (fpu fp i []) s :=
  env_cell E ⟨rfl, v, rfl, r⟩ (fun _ _ _ _ _ z => by cases z) (fun ⟨_, e⟩ => by cases e) hi
theorem env_put {m : M} {v : V} {g : List Addr} {i : Nat} (E : Env T H0 ρ σ H fp s) (r : RM H m v g) (pl : Pln H m v) (n : ∀ a ∈ g, H0 a = none ∧ ¬ T.own a) (d : ∀ k, k ≠ i → ∀ a ∈ fp k, a ∉ g) (hi : i < ρ.length) :
    Env T H0 (ρ.set i (.own m)) (σ.set i (some v)) H (fpu fp i g) s := env_cell E ⟨⟨v, rfl, r, pl⟩, n⟩ (fun k hk _ => d k hk) (fun _ k hk => d k hk) hi
theorem isOwn_set {i j : Nat} {c : C} (h : isOwn (ρ.set i c) j) (e : j ≠ i) : isOwn ρ j := by
  obtain ⟨m, q⟩ := h
  rw [cel_set_ne e] at q
  exact ⟨m, q⟩
theorem lt_own {i : Nat} {m : M} (h : cel ρ i = .own m) : i < ρ.length := by
  by_cases hi : i < ρ.length
  · exact hi
  · unfold cel at h
    rw [List.getElem?_eq_none (by omega)] at h
    cases h
/-- an object passes from the name j to the name i -/
theorem env_move {m : M} {i j : Nat} {v : V} (E : Env T H0 ρ σ H fp s) (hc : cel ρ j = .own m) (hv : σ[j]? = some (some v)) (hi : i < ρ.length) (hij : i ≠ j) :
    Env T H0 ((ρ.set j .no).set i (.own m)) (σ.set i (some v)) H (fpu (fpu fp j []) i (fp j)) s := by
  have ok := E.ok j
  rw [hc, hv] at ok
  obtain ⟨⟨v', e, r, pl⟩, n⟩ := ok
  cases e
  have E1 : Env T H0 (ρ.set j .no) σ H (fpu fp j []) s := by
    refine ⟨by rw [List.length_set, E.len], E.rel, E.ex, fun k => ?_, fun a b hab ho x hx hy => ?_, E.lkd⟩
    · by_cases e : k = j
      · subst e
        rw [cel_set_self (lt_own hc)]
        unfold fpu
        rw [if_pos rfl]
        rfl
      · rw [cel_set_ne e]
        unfold fpu
        rw [if_neg e]
        exact E.ok k
    · have sub : ∀ k y, y ∈ fpu fp j [] k → y ∈ fp k ∧ k ≠ j := fun k y hy => by
        unfold fpu at hy
        by_cases e : k = j
        · rw [if_pos e] at hy
          cases hy
        · rw [if_neg e] at hy
          exact ⟨hy, e⟩
      obtain ⟨h1, h2⟩ := sub a x hx
      exact E.sep a b hab (isOwn_set ho h2) x h1 (sub b x hy).1
  refine env_put E1 r pl n (fun k hk a ha hg => ?_) (by rw [List.length_set]; exact hi)
  unfold fpu at ha
  by_cases e : k = j
  · rw [if_pos e] at ha
    cases ha
  · rw [if_neg e] at ha
    exact E.sep j k (Ne.symm e) ⟨m, hc⟩ a hg ha
/-- an own object is changed at its address -/
theorem env_mod {m m' : M} {i : Nat} {v : V} {a : Addr} {o : HO} {g : List Addr} (E : Env T H0 ρ σ H fp s) (hc : cel ρ i = .own m) (hv : σ[i]? = some (some v)) (ha : a ∈ fp i) (r : RM (upd H a o) m' v g) (pl : Pln (upd H a o) m' v)
    (n : ∀ b ∈ g, b ∈ fp i ∨ (H0 b = none ∧ ¬ T.own b ∧ ∀ k, b ∉ fp k)) : Env T H0 (ρ.set i (.own m')) σ (upd H a o) (fpu fp i g) s := by
  have hi := lt_own hc
  have oki := E.ok i
  rw [hc, hv] at oki
  obtain ⟨⟨v0, _, r0, _⟩, nw⟩ := oki
  have mu := E.mu i a ha
  have tk : TK H (upd H a o) := tk_upd (Mu.ntup mu.1)
  refine ⟨by rw [List.length_set, E.len], T.upd E.rel mu.2, fun b u nb e => ?_, fun k => ?_, fun j k hjk ho b hb hb2 => ?_, fun p hp => ?_⟩
  · have ne : b ≠ a := fun q => by
      subst q
      rw [(nw b ha).1] at e
      cases e
    rw [upd_ne ne]
    exact E.ex b u nb e
  · by_cases e : k = i
    · subst e
      rw [cel_set_self hi, hv]
      unfold fpu
      rw [if_pos rfl]
      refine ⟨⟨v, rfl, r, pl⟩, fun b hb => ?_⟩
      rcases n b hb with q | ⟨q1, q2, _⟩
      · exact nw b q
      · exact ⟨q1, q2⟩
    · rw [cel_set_ne e]
      unfold fpu
      rw [if_neg e]
      refine (E.ok k).keep E.lkd tk fun b hb => upd_ne fun q => ?_
      subst q
      exact E.sep i k (Ne.symm e) ⟨m, hc⟩ b ha hb
  · unfold fpu at hb hb2
    by_cases e : j = i
    · subst e
      rw [if_pos rfl] at hb
      rw [if_neg (Ne.symm hjk)] at hb2
      rcases n b hb with q | ⟨_, _, q⟩
      · exact E.sep j k hjk ⟨m, hc⟩ b q hb2
      · exact q k hb2
    · rw [if_neg e] at hb
      have ho' := isOwn_set ho e
      by_cases e2 : k = i
      · subst e2
        rw [if_pos rfl] at hb2
        rcases n b hb2 with q | ⟨_, _, q⟩
        · exact E.sep j k hjk ho' b hb q
        · exact q j hb
      · rw [if_neg e2] at hb2
        exact E.sep j k hjk ho' b hb hb2
  · obtain ⟨⟨ob, q⟩, h2⟩ := E.lkd p hp
    refine ⟨⟨ob, ?_⟩, h2⟩
    rw [upd_ne fun e => by rw [e] at q; exact r0.plain a ha _ _ q]
    exact q
theorem frm_mod {m m' : M} {i : Nat} {a : Addr} {o : HO} {g : List Addr} {H1 : Hp} (E : Env T H0 ρ σ H1 fp s) (x : ExV T H H1) (hc : cel ρ i = .own m) (ha : a ∈ fp i)
    (n : ∀ b ∈ g, b ∈ fp i ∨ H b = none) : Frm T ρ (ρ.set i (.own m')) H (upd H1 a o) fp (fpu fp i g) := by
  refine ⟨fun b u e nb no => ?_, fun j ho b hb => ?_⟩
  · rw [upd_ne fun q => no i ⟨m, hc⟩ (by rw [q]; exact ha)]
    exact x b u nb e
  · unfold fpu at hb
    by_cases e : j = i
    · subst e
      rw [if_pos rfl] at hb
      rcases n b hb with q | q
      · exact .inl ⟨j, ⟨m, hc⟩, q⟩
      · exact .inr q
    · rw [if_neg e] at hb
      exact .inl ⟨j, isOwn_set ho e, hb⟩

/-! ### statements -/
variable {st : Stmt} {rest sts sts' : List Stmt} {t u : TS} {f f' : Fn S Out} {e : Expr} {te : TE} {fe : Fn S W}
def fNx : Fn S Out := fun ρ s => some (.nx ρ, s)
theorem frm_refl : Frm T ρ ρ H H fp fp := ⟨fun _ _ e _ _ => e, fun i hi a ha => .inl ⟨i, hi, ha⟩⟩
theorem ds_next : DS 𝒯 tNext (fNx : Fn S Out) := by
  intro T hT H0 ρ σ H fp s D o s' E e0 k
  injection e0 with e0
  injection e0 with e1 e2
  subst e1
  subst e2
  exact k σ H fp E frm_refl
theorem b_nil : PDB X 𝒯 [] tNext (fNx : Fn S Out) := ⟨pss_nil, ds_next⟩
def fSeq (f g : Fn S Out) : Fn S Out := fun ρ s => bnd (f ρ s) fun o s1 => match o with
  | .nx ρ' => g ρ' s1
  | o => some (o, s1)
theorem Frm.ex (a : Frm T ρ ρ' H H' fp fp') (E : Env T H0 ρ σ H fp s) : True := True.intro
theorem ds_seq (h1 : DS 𝒯 t f) (h2 : DS 𝒯 u f') : DS 𝒯 (tSeq t u) (fSeq f f') := by
  intro T hT H0 ρ σ H fp s D o s' E e0 k
  obtain ⟨o1, s1, e1, e2⟩ := bnd_of e0
  cases o1 with
  | nx ρ1 =>
    refine h1 T hT H0 ρ σ H fp s _ _ s1 E e1 fun σ1 H1 fp1 E1 F1 => ?_
    exact h2 T hT H0 ρ1 σ1 H1 fp1 s1 D o s' E1 e2 (OutP.mono E.rel E1.rel F1 k)
  | rt m =>
    injection e2 with e2
    injection e2 with e2 e3
    subst e2
    subst e3
    exact h1 T hT H0 ρ σ H fp s _ _ s1 E e1 k
  | bk ρ1 =>
    injection e2 with e2
    injection e2 with e2 e3
    subst e2
    subst e3
    exact h1 T hT H0 ρ σ H fp s _ _ s1 E e1 k
  | ct ρ1 =>
    injection e2 with e2
    injection e2 with e2 e3
    subst e2
    subst e3
    exact h1 T hT H0 ρ σ H fp s _ _ s1 E e1 k
theorem b_cons (h1 : PDS X 𝒯 st t f) (h2 : PDB X 𝒯 rest u f') : PDB X 𝒯 (st :: rest) (tSeq t u) (fSeq f f') := ⟨pss_cons h1.pe h2.pe, ds_seq h1.de h2.de⟩
theorem b_one (h1 : PDS X 𝒯 st t f) : PDB X 𝒯 [st] t f := ⟨pss_one h1.pe, h1.de⟩
def fNo : Fn S Out := fun _ _ => none
theorem s_never : PDS X 𝒯 st tNever (fNo : Fn S Out) := ⟨ps_never, fun T hT H0 ρ σ H fp s D o s' E e k => by cases e⟩
theorem b_never : PDB X 𝒯 sts tNever (fNo : Fn S Out) := ⟨pss_never, fun T hT H0 ρ σ H fp s D o s' E e k => by cases e⟩
/-- what may be returned -/
def retW (ρ : Rho) : W → Option M
  | .im d => some (.im d)
  | .new m => some m
  | .sl i m => match cel ρ i, m with
    | .own m', _ => some m'
    | .frz true _, .lst ms => some (.lst ms)
    | .frz true _, .mtp ms => some (.mtp ms)
    | _, _ => none
  | _ => none
def fRet (i : Option Nat) (fe : Fn S W) : Fn S Out := fun ρ s => match i with
  | none => bnd (fe ρ s) fun w s1 => match w with
    | .im d => some (.rt (.im d), s1)
    | .new m => some (.rt m, s1)
    | _ => none
  | some i => match cel ρ i with
    | .im d => some (.rt (.im d), s)
    | .own m => some (.rt m, s)
    | .frz true (.lst ms) => some (.rt (.lst ms), s)
    | .frz true (.mtp ms) => some (.rt (.mtp ms), s)
    | _ => none
theorem Env.exv (E : Env T H0 ρ σ H fp s) : ExV T H0.h H := fun a o n e => E.ex a o n e
theorem ds_ret (h : DE 𝒯 te fe) : DS 𝒯 (tRet te) (fRet none fe) := by
  intro T hT H0 ρ σ H fp s D o s' E e0 k
  obtain ⟨w, s1, e1, e2⟩ := bnd_of e0
  refine h T hT H0 ρ σ H fp s _ w s1 E e1 fun v H1 g x r ok => ?_
  have E1 := E.step x r
  cases w with
  | im d =>
    injection e2 with e2
    injection e2 with e2 e3
    subst e2
    subst e3
    exact k v H1 [] E1.exv E1.lkd r (.im ok.2) True.intro (fun _ z => by cases z)
  | new m =>
    injection e2 with e2
    injection e2 with e2 e3
    subst e2
    subst e3
    refine k v H1 g E1.exv E1.lkd r ok.1 ok.2.2 fun a ha => ?_
    cases q : H0 a with
    | none => rfl
    | some o =>
      have := E.ex a o (T.new E.rel (ok.2.1 a ha)) q
      rw [ok.2.1 a ha] at this
      cases this
  | sl i m => cases e2
  | src => cases e2
  | tm m => cases e2
theorem ds_retV {i : Nat} : DS 𝒯 (tRet (tVar i)) (fRet (some i) fe : Fn S Out) := by
  intro T hT H0 ρ σ H fp s D o s' E e0 k
  have ok := E.ok i
  unfold fRet at e0
  simp only at e0
  cases q : cel ρ i with
  | no => rw [q] at e0; cases e0
  | src => rw [q] at e0; cases e0
  | lck n m => rw [q] at e0; cases e0
  | im d =>
    rw [q] at e0 ok
    injection e0 with e0
    injection e0 with e2 e3
    subst e2
    subst e3
    obtain ⟨_, v, ev, r⟩ := ok
    exact ⟨v, ev, k v H [] E.exv E.lkd E.rel (.im r) True.intro (fun _ z => by cases z)⟩
  | own m =>
    rw [q] at e0 ok
    injection e0 with e0
    injection e0 with e2 e3
    subst e2
    subst e3
    obtain ⟨⟨v, ev, r, pl⟩, n⟩ := ok
    exact ⟨v, ev, k v H (fp i) E.exv E.lkd E.rel r pl fun a ha => (n a ha).1⟩
  | frz l m =>
    rw [q] at e0 ok
    cases l with
    | false => cases m <;> cases e0
    | true =>
      obtain ⟨⟨v, ev, r⟩, n⟩ := ok
      cases m with
      | lst ms =>
        injection e0 with e0
        injection e0 with e2 e3
        subst e2
        subst e3
        exact ⟨v, ev, k v H (fp i) E.exv E.lkd E.rel r True.intro fun a ha => (n a ha).2 rfl⟩
      | mtp ms =>
        injection e0 with e0
        injection e0 with e2 e3
        subst e2
        subst e3
        exact ⟨v, ev, k v H (fp i) E.exv E.lkd E.rel r True.intro fun a ha => (n a ha).2 rfl⟩
      | im d => cases e0
      | dk x => cases e0
      | dt x => cases e0
theorem s_ret (h : PD X 𝒯 e te fe) : PDS X 𝒯 (.Return (some e) pos) (tRet te) (fRet none fe) := ⟨ps_ret h.pe, ds_ret h.de⟩
theorem s_retV {i : Nat} {x : Str} {p : Pos} (h : PE X (.Name x p) (tVar i)) : PDS X 𝒯 (.Return (some (.Name x p)) pos) (tRet (tVar i)) (fRet (some i) (fC .non) : Fn S Out) := ⟨ps_ret h, ds_retV⟩
end
end Pl
end

section
set_option Elab.async false
set_option linter.all false
set_option maxRecDepth 100000
set_option maxHeartbeats 1000000
namespace Pl
open PySem PySem.Spec PyProof.Rows L2 StX

section
variable {S : Type} {X : Cx} {𝒯 : Fam S} {pos : Pos} {K : PySem.W.Frag}
variable {T : Vol S} {H0 : Bs} {H H' H1 : Hp} {ρ ρ' : Rho} {σ : L2.St} {fp fp' : Nat → List Addr} {s s' : S}
variable {t u : TS} {f f' : Fn S Out} {e : Expr} {te : TE} {fe : Fn S W} {c : Expr} {tc : TT} {fc : Fn S Bool} {p q : List Stmt}

/-! ### if -/
def fIfS (fc : Fn S Bool) (f f' : Fn S Out) : Fn S Out := fun ρ s => bnd (fc ρ s) fun b s1 => if b then f ρ s1 else f' ρ s1
theorem ds_if (hc : DT 𝒯 tc fc) (h : DS 𝒯 t f) (h' : DS 𝒯 u f') : DS 𝒯 (tIfS tc t u) (fIfS fc f f') := by
  intro T hT H0 ρ σ H fp s D o s' E e0 k
  obtain ⟨b, s1, e1, e2⟩ := bnd_of e0
  refine hc T hT H0 ρ σ H fp s _ b s1 E e1 fun H1 x r => ?_
  have E1 := E.step x r
  have k1 : OutP T H0 ρ H1 fp D s' o := OutP.mono E.rel r (Frm.exp E x) k
  cases b with
  | true =>
    rw [if_pos rfl] at e2 ⊢
    exact h T hT H0 ρ σ H1 fp s1 D o s' E1 e2 k1
  | false =>
    rw [if_neg Bool.false_ne_true] at e2 ⊢
    exact h' T hT H0 ρ σ H1 fp s1 D o s' E1 e2 k1
theorem s_if (hc : PDT X 𝒯 c tc fc) (h : PDB X 𝒯 p t f) (h' : PDB X 𝒯 q u f') : PDS X 𝒯 (.If c p q pos) (tIfS tc t u) (fIfS fc f f') := ⟨ps_if hc.pe h.pe h'.pe, ds_if hc.de h.de h'.de⟩

/-! ### name = value -/
def fSet (i : Nat) (fe : Fn S W) : Fn S Out := fun ρ s => bnd (fe ρ s) fun w s1 => if i < ρ.length then lft (cellOf ρ w) s1 fun c => .nx (ρ.set i c) else none
theorem ds_set {i : Nat} (h : DE 𝒯 te fe) : DS 𝒯 (tAsg te (gName i)) (fSet i fe) := by
  intro T hT H0 ρ σ H fp s D o s' E e0 k
  obtain ⟨w, s1, e1, e2⟩ := bnd_of e0
  by_cases hi : i < ρ.length
  · rw [if_pos hi] at e2
    obtain ⟨c, e3, rfl, rfl⟩ := lft_of e2
    refine h T hT H0 ρ σ H fp s _ w _ E e1 fun v H1 g x r ok => ?_
    obtain ⟨fp', E', F⟩ := env_store E x r ok e3 hi
    exact k _ _ fp' E' F
  · rw [if_neg hi] at e2
    cases e2
theorem s_set {i : Nat} {st : Stmt} (hp : PE X e te → PS X st (tAsg te (gName i))) (h : PD X 𝒯 e te fe) : PDS X 𝒯 st (tAsg te (gName i)) (fSet i fe) := ⟨hp h.pe, ds_set h.de⟩
theorem s_set' {i : Nat} {st : Stmt} (hp : PS X st (tAsg te (gName i))) (h : DE 𝒯 te fe) : PDS X 𝒯 st (tAsg te (gName i)) (fSet i fe) := ⟨hp, ds_set h⟩
/-- name = name: an object passes on -/
def mvC (ρ : Rho) (i j : Nat) : Option Rho := match cel ρ j with
  | .im d => some (ρ.set i (.im d))
  | .own m => if i = j then none else some ((ρ.set j .no).set i (.own m))
  | .frz l m => some (ρ.set i (.frz l m))
  | _ => none
theorem env_mv {i j : Nat} {ρ' : Rho} (E : Env T H0 ρ σ H fp s) (e : mvC ρ i j = some ρ') (hi : i < ρ.length) : ∃ v fp', σ[j]? = some (some v) ∧ Env T H0 ρ' (σ.set i (some v)) H fp' s ∧ Frm T ρ ρ' H H fp fp' ∧ ∀ k, ∀ a ∈ fp' k, ∃ k', a ∈ fp k' := by
  have ok := E.ok j
  unfold mvC at e
  cases q : cel ρ j with
  | no => rw [q] at e; cases e
  | src => rw [q] at e; cases e
  | lck n m => rw [q] at e; cases e
  | im d =>
    rw [q] at e ok
    injection e with e
    subst e
    obtain ⟨_, v, ev, r⟩ := ok
    refine ⟨v, _, ev, env_im E r hi, ⟨fun _ _ e _ _ => e, fun k ho a ha => ?_⟩, fun k a ha => ?_⟩
    · unfold fpu at ha
      by_cases e : k = i
      · rw [if_pos e] at ha; cases ha
      · rw [if_neg e] at ha
        exact .inl ⟨k, isOwn_set ho e, ha⟩
    · unfold fpu at ha
      by_cases e : k = i
      · rw [if_pos e] at ha; cases ha
      · rw [if_neg e] at ha
        exact ⟨k, ha⟩
  | own m =>
    rw [q] at e ok
    by_cases hij : i = j
    · simp only [if_pos hij] at e; cases e
    · simp only [if_neg hij] at e
      injection e with e
      subst e
      obtain ⟨⟨v, ev, r, pl⟩, n⟩ := ok
      refine ⟨v, _, ev, env_move E q ev hi hij, ⟨fun _ _ e _ _ => e, fun k ho a ha => ?_⟩, fun k a ha => ?_⟩
      · unfold fpu at ha
        by_cases e : k = i
        · rw [if_pos e] at ha
          exact .inl ⟨j, ⟨m, q⟩, ha⟩
        · rw [if_neg e] at ha
          by_cases e2 : k = j
          · rw [if_pos e2] at ha; cases ha
          · rw [if_neg e2] at ha
            exact .inl ⟨k, isOwn_set (isOwn_set ho e) e2, ha⟩
      · unfold fpu at ha
        by_cases e : k = i
        · rw [if_pos e] at ha
          exact ⟨j, ha⟩
        · rw [if_neg e] at ha
          by_cases e2 : k = j
          · rw [if_pos e2] at ha; cases ha
          · rw [if_neg e2] at ha
            exact ⟨k, ha⟩
  | frz l m =>
    rw [q] at e ok
    injection e with e
    subst e
    obtain ⟨⟨v, ev, r⟩, n⟩ := ok
    refine ⟨v, _, ev, env_cell (g := fp j) E ⟨⟨v, rfl, r⟩, n⟩ (fun k hk ho a ha hg => ?_) (fun ⟨_, e⟩ => by cases e) hi, ⟨fun _ _ e _ _ => e, fun k ho a ha => ?_⟩, fun k a ha => ?_⟩
    · by_cases e : k = j
      · subst e
        exact isOwn_frz q ho
      · exact E.sep k j e ho a ha hg
    · unfold fpu at ha
      by_cases e : k = i
      · subst e
        obtain ⟨m', z⟩ := ho
        rw [cel_set_self hi] at z
        cases z
      · rw [if_neg e] at ha
        exact .inl ⟨k, isOwn_set ho e, ha⟩
    · unfold fpu at ha
      by_cases e : k = i
      · rw [if_pos e] at ha
        exact ⟨j, ha⟩
      · rw [if_neg e] at ha
        exact ⟨k, ha⟩
def fMv (i j : Nat) : Fn S Out := fun ρ s => if i < ρ.length then lft (mvC ρ i j) s Out.nx else none
theorem ds_mv {i j : Nat} : DS 𝒯 (tAsg (tVar j) (gName i)) (fMv i j : Fn S Out) := by
  intro T hT H0 ρ σ H fp s D o s' E e0 k
  unfold fMv at e0
  by_cases hi : i < ρ.length
  · rw [if_pos hi] at e0
    obtain ⟨ρ', e1, rfl, rfl⟩ := lft_of e0
    obtain ⟨v, fp', ev, E', F, _⟩ := env_mv E e1 hi
    exact ⟨v, ev, k _ _ fp' E' F⟩
  · rw [if_neg hi] at e0
    cases e0
theorem s_mv {i j : Nat} {st : Stmt} (hp : PS X st (tAsg (tVar j) (gName i))) : PDS X 𝒯 st (tAsg (tVar j) (gName i)) (fMv i j : Fn S Out) := ⟨hp, ds_mv⟩

/-! ### a, b = x, y -/
/-- the second and the third thing stored: fixed data, or new -/
def stN (ρ : Rho) (i : Nat) : W → Option Rho
  | .im d => if i < ρ.length then some (ρ.set i (.im d)) else none
  | .new m => if i < ρ.length then some (ρ.set i (.own m)) else none
  | _ => none
/-- behind some stores: G is what is left of the new -/
def Mid (T : Vol S) (H0 : Bs) (H H' : Hp) (ρ ρ' : Rho) (σ : L2.St) (fp : Nat → List Addr) (s : S) (G : List Addr) : Prop := ∃ fp', Env T H0 ρ' σ H' fp' s ∧ Frm T ρ ρ' H H' fp fp' ∧ (∀ k, ∀ a ∈ fp' k, a ∉ G) ∧ (∀ a ∈ G, H a = none ∧ H0 a = none ∧ ¬ T.own a)
theorem mid_st {ρ1 ρ2 : Rho} {i : Nat} {w : W} {v : V} {g G F : List Addr} {fp0 : Nat → List Addr} (h : Mid T H0 H H' ρ ρ1 σ fp s F) (ok : Wok T fp0 H H' w v g) (e : stN ρ1 i w = some ρ2) (hd : ∀ a ∈ nwf w g, a ∉ G) (hF : F = nwf w g ++ G) : Mid T H0 H H' ρ ρ2 (σ.set i (some v)) fp s G := by
  obtain ⟨fp', E, F', h1, h2⟩ := h
  subst hF
  cases w with
  | im d =>
    unfold stN at e
    by_cases hi : i < ρ1.length
    · simp only [if_pos hi] at e
      injection e with e
      subst e
      refine ⟨_, env_im E ok.2 hi, ⟨F'.keep, fun k ho a ha => ?_⟩, fun k a ha => ?_, fun a ha => h2 a (List.mem_append_right _ ha)⟩
      · unfold fpu at ha
        by_cases e : k = i
        · rw [if_pos e] at ha; cases ha
        · rw [if_neg e] at ha
          exact F'.anew k (isOwn_set ho e) a ha
      · unfold fpu at ha
        by_cases e : k = i
        · rw [if_pos e] at ha; cases ha
        · rw [if_neg e] at ha
          exact fun z => h1 k a ha (List.mem_append_right _ z)
    · simp only [if_neg hi] at e; cases e
  | new m =>
    unfold stN at e
    by_cases hi : i < ρ1.length
    · simp only [if_pos hi] at e
      injection e with e
      subst e
      refine ⟨_, env_put E ok.1 ok.2.2 (fun a ha => (h2 a (List.mem_append_left _ ha)).2) (fun k hk a ha hg => h1 k a ha (List.mem_append_left _ hg)) hi, ⟨F'.keep, fun k ho a ha => ?_⟩, fun k a ha => ?_, fun a ha => h2 a (List.mem_append_right _ ha)⟩
      · unfold fpu at ha
        by_cases e : k = i
        · rw [if_pos e] at ha
          exact .inr (ok.2.1 a ha)
        · rw [if_neg e] at ha
          exact F'.anew k (isOwn_set ho e) a ha
      · unfold fpu at ha
        by_cases e : k = i
        · rw [if_pos e] at ha
          exact hd a ha
        · rw [if_neg e] at ha
          exact fun z => h1 k a ha (List.mem_append_right _ z)
    · simp only [if_neg hi] at e; cases e
  | sl j m => cases e
  | src => cases e
  | tm m => cases e
theorem Env.fr0 (E : Env T H0 ρ σ H fp s) {a : Addr} (h : H a = none) : H0 a = none := by
  cases q : H0 a with
  | none => rfl
  | some o =>
    rw [E.ex a o (T.new E.rel h) q] at h
    cases h
theorem mid_0 {F : List Addr} {ws : List W} {vs : List V} {s1 : S} (E : Env T H0 ρ σ H fp s) (x : ExV T H H') (r : T.rel s1 H') (h : Woks T fp H H' ws vs F) : Mid T H0 H H' ρ ρ σ fp s1 F := by
  refine ⟨fp, E.step x r, Frm.exp E x, fun k a ha hF => ?_, fun a ha => ⟨h.fresh a ha, E.fr0 (h.fresh a ha), T.new E.rel (h.fresh a ha)⟩⟩
  obtain ⟨o, e⟩ := (E.mu k a ha).1.some
  rw [h.fresh a hF] at e
  cases e
variable {es : List Expr} {ta : TA} {fa : Fn S (List W)}
def st2 (ρ : Rho) (i j : Nat) : List W → Option Rho
  | [w1, w2] => (stN ρ i w1).bind fun ρ1 => stN ρ1 j w2
  | _ => none
def fPar2 (i j : Nat) (fa : Fn S (List W)) : Fn S Out := fun ρ s => bnd (fa ρ s) fun ws s1 => lft (st2 ρ i j ws) s1 Out.nx
theorem bind_of {α β : Type} {o : Option α} {k : α → Option β} {b : β} (h : o.bind k = some b) : ∃ a, o = some a ∧ k a = some b := by
  cases o with
  | none => cases h
  | some a => exact ⟨a, rfl, h⟩
theorem ds_par2 {i j : Nat} (h : DA 𝒯 ta fa) : DS 𝒯 (tPar i j ta) (fPar2 i j fa) := by
  intro T hT H0 ρ σ H fp s D o s' E e0 k
  obtain ⟨ws, s1, e1, e2⟩ := bnd_of e0
  obtain ⟨ρ', e3, rfl, rfl⟩ := lft_of e2
  refine h T hT H0 ρ σ H fp s _ ws _ E e1 fun vs H1 G x r oks => ?_
  have M0 := mid_0 E x r oks
  unfold st2 at e3
  split at e3
  · rename_i w1 w2
    obtain ⟨ρ1, e4, e5⟩ := bind_of e3
    cases oks with
    | cons o1 r1 d1 q1 =>
      cases r1 with
      | cons o2 r2 d2 q2 =>
        cases r2
        obtain ⟨fp', E', F', _⟩ := mid_st (mid_st M0 o1 e4 d1 q1) o2 e5 d2 q2
        exact ⟨_, _, rfl, k _ _ fp' E' F'⟩
  · cases e3
theorem s_par2 {i j : Nat} {st : Stmt} (hp : PA X es ta → PS X st (tPar i j ta)) (h : PDA X 𝒯 es ta fa) : PDS X 𝒯 st (tPar i j ta) (fPar2 i j fa) := ⟨hp h.pe, ds_par2 h.de⟩
def st3 (ρ : Rho) (i j l : Nat) : List W → Option Rho
  | [w1, w2, w3] => (stN ρ i w1).bind fun ρ1 => (stN ρ1 j w2).bind fun ρ2 => stN ρ2 l w3
  | _ => none
def fPar3 (i j l : Nat) (fa : Fn S (List W)) : Fn S Out := fun ρ s => bnd (fa ρ s) fun ws s1 => lft (st3 ρ i j l ws) s1 Out.nx
theorem ds_par3 {i j l : Nat} (h : DA 𝒯 ta fa) : DS 𝒯 (tPar3 i j l ta) (fPar3 i j l fa) := by
  intro T hT H0 ρ σ H fp s D o s' E e0 k
  obtain ⟨ws, s1, e1, e2⟩ := bnd_of e0
  obtain ⟨ρ', e3, rfl, rfl⟩ := lft_of e2
  refine h T hT H0 ρ σ H fp s _ ws _ E e1 fun vs H1 G x r oks => ?_
  have M0 := mid_0 E x r oks
  unfold st3 at e3
  split at e3
  · rename_i w1 w2 w3
    obtain ⟨ρ1, e4, e5⟩ := bind_of e3
    obtain ⟨ρ2, e6, e7⟩ := bind_of e5
    cases oks with
    | cons o1 r1 d1 q1 =>
      cases r1 with
      | cons o2 r2 d2 q2 =>
        cases r2 with
        | cons o3 r3 d3 q3 =>
          cases r3
          obtain ⟨fp', E', F', _⟩ := mid_st (mid_st (mid_st M0 o1 e4 d1 q1) o2 e6 d2 q2) o3 e7 d3 q3
          exact ⟨_, _, _, rfl, k _ _ fp' E' F'⟩
  · cases e3
theorem s_par3 {i j l : Nat} {st : Stmt} (hp : PA X es ta → PS X st (tPar3 i j l ta)) (h : PDA X 𝒯 es ta fa) : PDS X 𝒯 st (tPar3 i j l ta) (fPar3 i j l fa) := ⟨hp h.pe, ds_par3 h.de⟩
/-- a, b = x, value: x is a name, whose object passes on -/
def stM (ρ : Rho) (i j : Nat) (n : Nat) (w : W) : Option Rho := if i < ρ.length then (mvC ρ i n).bind fun ρ1 => stN ρ1 j w else none
def fParM (i j n : Nat) (fe : Fn S W) : Fn S Out := fun ρ s => bnd (fe ρ s) fun w s1 => lft (stM ρ i j n w) s1 Out.nx
theorem ds_parM {i j n : Nat} (h : DE 𝒯 te fe) : DS 𝒯 (tPar i j (tCons (tVar n) (tCons te tNil))) (fParM i j n fe) := by
  intro T hT H0 ρ σ H fp s D o s' E e0 k
  obtain ⟨w, s1, e1, e2⟩ := bnd_of e0
  obtain ⟨ρ', e3, rfl, rfl⟩ := lft_of e2
  unfold stM at e3
  by_cases hi : i < ρ.length
  · rw [if_pos hi] at e3
    obtain ⟨ρ1, e4, e5⟩ := bind_of e3
    obtain ⟨v0, _, ev0, _⟩ := env_mv E e4 hi
    refine ⟨v0, ev0, ?_⟩
    refine h T hT H0 ρ σ H fp s _ w _ E e1 fun v H1 g x r ok => ?_
    have E1 := E.step x r
    obtain ⟨v1, fp1, ev1, E2, F2, sub⟩ := env_mv E1 e4 hi
    rw [ev0] at ev1
    cases ev1
    have fr : ∀ a ∈ nwf w g, H a = none := fun a ha => by
      cases w with
      | new m => exact ok.2.1 a ha
      | _ => cases ha
    have M1 : Mid T H0 H H1 ρ ρ1 (σ.set i (some v0)) fp s' (nwf w g) := by
      refine ⟨fp1, E2, Frm.trans E.rel r (Frm.exp E x) F2, fun k a ha hg => ?_, fun a ha => ⟨fr a ha, E.fr0 (fr a ha), T.new E.rel (fr a ha)⟩⟩
      obtain ⟨k', q⟩ := sub k a ha
      obtain ⟨o, e⟩ := (E.mu k' a q).1.some
      rw [fr a hg] at e
      cases e
    obtain ⟨fp', E', F', _⟩ := mid_st (G := []) M1 ok e5 (fun _ _ z => by cases z) (by simp)
    exact ⟨_, _, rfl, k _ _ fp' E' F'⟩
  · rw [if_neg hi] at e3
    cases e3
theorem s_parM {i j n : Nat} {st : Stmt} (hp : PE X e te → PS X st (tPar i j (tCons (tVar n) (tCons te tNil)))) (h : PD X 𝒯 e te fe) : PDS X 𝒯 st (tPar i j (tCons (tVar n) (tCons te tNil))) (fParM i j n fe) := ⟨hp h.pe, ds_parM h.de⟩
end
end Pl
end

section
set_option Elab.async false
set_option linter.all false
set_option maxRecDepth 100000
set_option maxHeartbeats 1000000
namespace Pl
open PySem PySem.Spec PyProof.Rows L2 StX

section
variable {S : Type} {X : Cx} {𝒯 : Fam S} {pos : Pos} {K : PySem.W.Frag}
variable {T : Vol S} {H0 : Bs} {H H' H1 : Hp} {ρ ρ' : Rho} {σ : L2.St} {fp fp' : Nat → List Addr} {s s' : S}
variable {e : Expr} {te ti : TE} {fe fi : Fn S W}

/-! ### x.append(e) -/
def ownL (ρ : Rho) (i : Nat) : Option (List M) := match cel ρ i with
  | .own (.lst ms) => some ms
  | _ => none
theorem ownL_of {i : Nat} {ms : List M} (h : ownL ρ i = some ms) : cel ρ i = .own (.lst ms) := by
  unfold ownL at h
  split at h
  · rename_i q
    injection h with h
    subst h
    exact q
  · cases h
theorem own_lst {i : Nat} {ms : List M} (E : Env T H0 ρ σ H fp s) (h : cel ρ i = .own (.lst ms)) : ∃ a vs g, σ[i]? = some (some (.ref a)) ∧ H a = some (.lst vs) ∧ RMs H ms vs g ∧ a ∉ g ∧ fp i = a :: g := by
  have ok := E.ok i
  rw [h] at ok
  obtain ⟨⟨v, ev, r, _⟩, _⟩ := ok
  obtain ⟨a, vs, g, rfl, h1, h2, h3, h4⟩ := r.inv_lst
  exact ⟨a, vs, g, ev, h1, h2, h3, h4⟩
def fApp (i : Nat) (fe : Fn S W) : Fn S Out := fun ρ s => bnd (fe ρ s) fun w s1 => match ownL ρ i, sto w with
  | some ms, some m => if szOk ms.length then some (.nx (ρ.set i (.own (.lst (ms ++ [m])))), s1) else none
  | _, _ => none
theorem nwf_fresh {w : W} {v : V} {g : List Addr} (ok : Wok T fp H H1 w v g) : ∀ a ∈ nwf w g, H a = none := fun a ha => by
  cases w with
  | new m => exact ok.2.1 a ha
  | _ => cases ha
theorem fp_fresh (E : Env T H0 ρ σ H fp s) {b : Addr} (h : H b = none) (k : Nat) : b ∉ fp k := fun hb => by
  obtain ⟨o, e⟩ := (E.mu k b hb).1.some
  rw [h] at e
  cases e
theorem ds_app {i : Nat} (h : DE 𝒯 te fe) : DS 𝒯 (tDrop (tBM K "list" rAppend (tVar i) (tCons te tNil))) (fApp i fe) := by
  intro T hT H0 ρ σ H fp s D o s' E e0 k
  obtain ⟨w, s1, e1, e2⟩ := bnd_of e0
  cases q1 : ownL ρ i with
  | none => simp only [q1] at e2; cases e2
  | some ms =>
    cases q2 : sto w with
    | none => simp only [q1, q2] at e2; cases e2
    | some m =>
      simp only [q1, q2] at e2
      by_cases hz : szOk ms.length = true
      · rw [if_pos hz] at e2
        injection e2 with e2
        injection e2 with e2 e3
        subst e2
        subst e3
        have hc := ownL_of q1
        obtain ⟨a, vs, g, ev, ha, rr, na, efp⟩ := own_lst E hc
        refine ⟨.ref a, ev, .inl ⟨rfl, vs, .of ha⟩, ?_⟩
        refine h T hT H0 ρ σ H fp s _ w _ E e1 fun v H1 gw x r ok => ?_
        have E1 := E.step x r
        obtain ⟨a', vs', g', ev', ha', rr', na', efp'⟩ := own_lst E1 hc
        rw [ev] at ev'
        cases ev'
        rw [efp] at efp'
        injection efp' with _ eg
        subst eg
        have hvs : vs' = vs := by
          have := E.kept x i a (by rw [efp]; exact List.mem_cons_self)
          rw [this, ha] at ha'
          cases ha'
          rfl
        subst hvs
        have fr := nwf_fresh ok
        have rm : RMs H1 (ms ++ [m]) (vs' ++ [v]) (g ++ (nwf w gw ++ [])) := RMs.append rr' (RMs.cons (sto_ok ok q2) .nil (fun _ _ z => by cases z)) fun b hb hb2 => by
          rw [List.append_nil] at hb2
          exact fp_fresh E (fr b hb2) i (by rw [efp]; exact List.mem_cons_of_mem _ hb)
        rw [List.append_nil] at rm
        have nag : a ∉ g ++ nwf w gw := fun hb => by
          rcases List.mem_append.mp hb with hb | hb
          · exact na hb
          · exact fp_fresh E (fr a hb) i (by rw [efp]; exact List.mem_cons_self)
        have inF : ∀ b ∈ a :: (g ++ nwf w gw), b ∈ fp i ∨ H b = none := fun b hb => by
          rcases List.mem_cons.mp hb with hb | hb
          · exact .inl (by rw [efp, hb]; exact List.mem_cons_self)
          · rcases List.mem_append.mp hb with hb | hb
            · exact .inl (by rw [efp]; exact List.mem_cons_of_mem _ hb)
            · exact .inr (fr b hb)
        have mua := (E1.mu i a (by rw [efp]; exact List.mem_cons_self)).1
        have rmL : RM (upd H1 a (.lst (vs' ++ [v]))) (.lst (ms ++ [m])) (.ref a) (a :: (g ++ nwf w gw)) :=
          .lst upd_same (rm.keep (tk_upd (Mu.ntup mua)) fun b hb => upd_ne fun q => nag (q ▸ hb)) nag
        refine ⟨a, vs', v, rfl, rfl, ha', ?_, ?_⟩
        · have := rr.length
          rw [this]
          exact szOk_lt hz
        · refine k _ _ _ (env_mod E1 hc ev (by rw [efp]; exact List.mem_cons_self) rmL True.intro fun b hb => ?_) (frm_mod E1 x hc (by rw [efp]; exact List.mem_cons_self) inF)
          rcases inF b hb with q | q
          · exact .inl q
          · exact .inr ⟨E.fr0 q, T.new E.rel q, fp_fresh E q⟩
      · rw [if_neg hz] at e2
        cases e2
theorem s_app {i : Nat} {st : Stmt} (hp : PE X e te → PS X st (tDrop (tBM X.K "list" rAppend (tVar i) (tCons te tNil)))) (h : PD X 𝒯 e te fe) : PDS X 𝒯 st (tDrop (tBM X.K "list" rAppend (tVar i) (tCons te tNil))) (fApp i fe) := ⟨hp h.pe, ds_app h.de⟩

/-! ### x[i] = e, x[i] += e: lists of fixed data -/
def ownD (ρ : Rho) (i : Nat) : Option (List D) := (ownL ρ i).bind allIm
theorem ownD_of {i : Nat} {ds : List D} (h : ownD ρ i = some ds) : cel ρ i = .own (.lst (ds.map M.im)) := by
  obtain ⟨ms, h1, h2⟩ := bind_of h
  rw [ownL_of h1, allIm_eq h2]
theorem RIs.set {H : Hp} : ∀ {ds : List D} {vs : List V} (j : Nat) {d : D} {v : V}, RIs H ds vs → RI H d v → RIs H (ds.set j d) (vs.set j v)
  | _, _, _, _, _, .nil, _ => .nil
  | _, _, 0, _, _, .cons _ r, q => .cons q r
  | _, _, j + 1, _, _, .cons h r, q => .cons h (RIs.set j r q)
theorem env_setL {ds : List D} {i : Nat} {a : Addr} {vs vs' : List V} {ds' : List D} (E : Env T H0 ρ σ H fp s) (hc : cel ρ i = .own (.lst (ds.map M.im))) (ev : σ[i]? = some (some (.ref a))) (ha : H a = some (.lst vs)) (r : RIs H ds' vs') :
    Env T H0 (ρ.set i (.own (.lst (ds'.map M.im)))) σ (upd H a (.lst vs')) (fpu fp i [a]) s ∧ a ∈ fp i := by
  obtain ⟨a', vs2, g, ev', ha', rr, na, efp⟩ := own_lst E hc
  rw [ev] at ev'
  cases ev'
  have hm : a ∈ fp i := by rw [efp]; exact List.mem_cons_self
  have mua := (E.mu i a hm).1
  refine ⟨env_mod E hc ev hm (.lst upd_same (RMs.ims (r.keep (tk_upd (Mu.ntup mua)))) (fun z => by cases z)) True.intro fun b hb => ?_, hm⟩
  rw [List.mem_singleton.mp hb]
  exact .inl hm
def fPutL (i : Nat) (fe fi : Fn S W) : Fn S Out := fun ρ s => bnd (fe ρ s) fun w s1 => bnd (fi ρ s1) fun y s2 => match w, intW y, ownD ρ i with
  | .im d, some n, some ds => match ixN ds.length n with
    | some j => some (.nx (ρ.set i (.own (.lst ((ds.set j d).map M.im)))), s2)
    | none => none
  | _, _, _ => none
theorem ds_putL {i : Nat} (h : DE 𝒯 te fe) (hi : DE 𝒯 ti fi) : DS 𝒯 (tAsg te (gSub (tVar i) ti rSetL)) (fPutL i fe fi) := by
  intro T hT H0 ρ σ H fp s D o s' E e0 k
  obtain ⟨w, s1, e1, e2⟩ := bnd_of e0
  obtain ⟨y, s2, e3, e4⟩ := bnd_of e2
  refine h T hT H0 ρ σ H fp s _ w _ E e1 fun v H1 gw x r ok => ?_
  have E1 := E.step x r
  split at e4
  · rename_i d n ds eq2 eq3
    split at e4
    · rename_i j ej
      injection e4 with e4
      injection e4 with e5 e6
      subst e5
      subst e6
      have hc := ownD_of eq3
      obtain ⟨a, vs, g, ev, ha, rr, na, efp⟩ := own_lst E1 hc
      refine ⟨.ref a, ev, ?_⟩
      refine hi T hT H0 ρ σ H1 fp s1 _ y _ E1 e3 fun u H2 gu x2 r2 ok2 => ?_
      have E2 := E1.step x2 r2
      obtain rfl := intW_of eq2
      have eu := ok2.2.inv_int
      subst eu
      obtain ⟨a', vs', g', ev', ha', rr', na', efp'⟩ := own_lst E2 hc
      rw [ev] at ev'
      cases ev'
      obtain ⟨ri, _⟩ := RMs.of_ims rr'
      have r' := ri.set j (ok.2.keep (x2.tk r))
      obtain ⟨E3, hm⟩ := env_setL E2 hc ev ha' r'
      refine ⟨a, vs', n, j, rfl, rfl, ha', by rw [ri.length]; exact ej, ?_⟩
      exact k _ _ _ E3 (frm_mod E2 (x.trans x2) hc hm fun b hb => .inl (by rw [List.mem_singleton.mp hb]; exact hm))
    · cases e4
  · cases e4
theorem s_putL {i : Nat} {st : Stmt} {ei : Expr} (hp : PE X e te → PE X ei ti → PS X st (tAsg te (gSub (tVar i) ti rSetL))) (h : PD X 𝒯 e te fe) (hi : PD X 𝒯 ei ti fi) : PDS X 𝒯 st (tAsg te (gSub (tVar i) ti rSetL)) (fPutL i fe fi) := ⟨hp h.pe hi.pe, ds_putL h.de hi.de⟩
def rGetL : V → V → Hp → VK → Prop := fun o i H Q => ∃ (p : Addr) (xs : List V) (k : Int) (v : V), o = .ref p ∧ i = .int k ∧ H p = some (.lst xs) ∧ 0 ≤ k ∧ xs[k.toNat]? = some v ∧ Q v H
theorem get_list : PGet X rGetL := by
  intro pins s σ H o i ov iv Q I ro ri h
  obtain ⟨p, xs, k, v, rfl, rfl, hp, h0, hv, q⟩ := h
  cases ro
  obtain ⟨t, rfl⟩ := ri
  obtain ⟨its, rv, pl, hz⟩ := I.list (.of hp)
  obtain ⟨u, eu, ru⟩ := rv.get hv
  have hl : k.toNat < xs.length := by
    rcases Nat.lt_or_ge k.toNat xs.length with h | h
    · exact h
    · rw [List.getElem?_eq_none h] at hv
      cases hv
  have := line63
  exact wpAny_getItem_list pl.isList h0 (by omega) (by simpa using eu) ⟨v, H, I, ru, q⟩
def fAugL (i : Nat) (fi fe : Fn S W) : Fn S Out := fun ρ s => bnd (fi ρ s) fun y s1 => bnd (fe ρ s1) fun w s2 => match intW y, intW w, ownD ρ i with
  | some n, some z, some ds => match ds[n.toNat]? with
    | some (.int o) => if 0 ≤ n then some (.nx (ρ.set i (.own (.lst ((ds.set n.toNat (.int (o + z))).map M.im)))), s2) else none
    | _ => none
  | _, _, _ => none
theorem ds_augL {i : Nat} (hi : DE 𝒯 ti fi) (h : DE 𝒯 te fe) : DS 𝒯 (tAugS (tVar i) ti te rGetL (ipI fun i j => i + j) rSetL) (fAugL i fi fe) := by
  intro T hT H0 ρ σ H fp s D o s' E e0 k
  obtain ⟨y, s1, e1, e2⟩ := bnd_of e0
  obtain ⟨w, s2, e3, e4⟩ := bnd_of e2
  split at e4
  · rename_i n z ds eq1 eq2 eq3
    split at e4
    · rename_i ov ej
      by_cases h0 : 0 ≤ n
      · rw [if_pos h0] at e4
        injection e4 with e4
        injection e4 with e5 e6
        subst e5
        subst e6
        have hc := ownD_of eq3
        obtain ⟨a, vs0, g0, ev, _⟩ := own_lst E hc
        refine ⟨.ref a, ev, ?_⟩
        refine hi T hT H0 ρ σ H fp s _ y _ E e1 fun u H1 gu x r ok1 => ?_
        have E1 := E.step x r
        obtain rfl := intW_of eq1
        have eu := ok1.2.inv_int
        subst eu
        obtain ⟨a', vs, g, ev', ha, rr, na, efp⟩ := own_lst E1 hc
        rw [ev] at ev'
        cases ev'
        obtain ⟨ri, _⟩ := RMs.of_ims rr
        obtain ⟨vo, evo, rvo⟩ := ri.get ej
        have evi := rvo.inv_int
        subst evi
        refine ⟨a, vs, n, .int ov, rfl, rfl, ha, h0, evo, ?_⟩
        refine h T hT H0 ρ σ H1 fp s1 _ w _ E1 e3 fun u2 H2 gu2 x2 r2 ok2 => ?_
        have E2 := E1.step x2 r2
        obtain rfl := intW_of eq2
        have eu2 := ok2.2.inv_int
        subst eu2
        obtain ⟨a', vs', g', ev', ha', rr', na', efp'⟩ := own_lst E2 hc
        rw [ev] at ev'
        cases ev'
        obtain ⟨ri', _⟩ := RMs.of_ims rr'
        obtain ⟨E3, hm⟩ := env_setL E2 hc ev ha' (ri'.set n.toNat (RI.int (ov + z)))
        have hl : n.toNat < ds.length := by
          rcases Nat.lt_or_ge n.toNat ds.length with h | h
          · exact h
          · rw [List.getElem?_eq_none h] at ej
            cases ej
        refine ⟨ov, z, rfl, rfl, a, vs', n, n.toNat, rfl, rfl, ha', ?_, ?_⟩
        · unfold ixN
          rw [if_pos h0, if_pos (by rw [ri'.length]; omega)]
        · exact k _ _ _ E3 (frm_mod E2 (x.trans x2) hc hm fun b hb => .inl (by rw [List.mem_singleton.mp hb]; exact hm))
      · rw [if_neg h0] at e4
        cases e4
    · cases e4
  · cases e4
theorem s_augL {i : Nat} {st : Stmt} {ei : Expr} (hp : PE X ei ti → PE X e te → PS X st (tAugS (tVar i) ti te rGetL (ipI fun i j => i + j) rSetL)) (hi : PD X 𝒯 ei ti fi) (h : PD X 𝒯 e te fe) : PDS X 𝒯 st (tAugS (tVar i) ti te rGetL (ipI fun i j => i + j) rSetL) (fAugL i fi fe) := ⟨hp hi.pe h.pe, ds_augL hi.de h.de⟩
end
end Pl
end

section
set_option Elab.async false
set_option linter.all false
set_option maxRecDepth 100000
set_option maxHeartbeats 2000000
namespace PySem
/-- enumerate(v): its two cells, v of any kind that one can begin to walk -/
theorem pl_enum_new {v : Value} {o : Obj} {Hq : Heap → Prop} (B : Begins v o Hq) :
    Meets (Builtin.«enumerate.__new__» ⟨[.type "enumerate", v], []⟩) (fun _ R st => Hq st.heap ∧
      R (.ok (.ret (.ref (st.heap.push o).objs.size))) { st with heap := (st.heap.push o).push { cls := .type "enumerate", data := .fields #[.none, .bool false, .ref st.heap.objs.size, rawInt 0, .none, .none] } }) := by
  refine .of_wp fun prog w A R st hst => ?_
  obtain ⟨hp, g, d, tk, os⟩ := st
  obtain ⟨hv, hR⟩ := hst
  have hsub := sub_enumerate
  have walk : ∀ {A' : Around} {E : Value → Shared → Prop} {Q : Value → Shared → Prop}, Q (.ref hp.objs.size) ⟨hp.push o, g, d, tk, os⟩ → wpAny (model prog w) A' (pyIter v) Q E ⟨hp, g, d, tk, os⟩ :=
    fun q => B.iter prog w _ _ ⟨hp, g, d, tk, os⟩ _ hv q
  wp_walk using walk
  refine wpAny_stack_any fun frames => wpAny_pure ?_
  split
  · rename_i cl _ _ _ _ _
    cases (cl == Value.type "enumerate")
    · wp_walk using walk
      exact ⟨_, rfl, hR⟩
    · wp_walk using walk
      exact ⟨_, rfl, hR⟩
  · wp_walk using walk
    exact ⟨_, rfl, hR⟩
theorem pl_enum_call {prog : Program} {w : World} {A : Around} {E : Value → Shared → Prop} {st : Shared} {v : Value} {o : Obj} {Hq : Heap → Prop} {Q : Value → Shared → Prop} (B : Begins v o Hq) (hv : Hq st.heap)
    (hQ : ∀ hh, IsEnum hh (st.heap.objs.size + 1) st.heap.objs.size 0 .none → hh.get? st.heap.objs.size = some o → (∀ b u, st.heap.get? b = some u → hh.get? b = some u) → Q (.ref (st.heap.objs.size + 1)) { st with heap := hh }) :
    wpAny (model prog w) A (call (.type "enumerate") [v]) Q E st := by
  have sz : (st.heap.push o).objs.size = st.heap.objs.size + 1 := Heap.size_push ..
  have enu : IsEnum ((st.heap.push o).push { cls := .type "enumerate", data := .fields #[.none, .bool false, .ref st.heap.objs.size, rawInt 0, .none, .none] }) (st.heap.objs.size + 1) st.heap.objs.size 0 .none := by
    rw [← sz]
    exact Heap.get?_push_size _ rfl
  refine callType_new F.called_enumerate (by decide) (F.typeCall_enumerate_1 _) (F.newCall_enumerate_1 _) (fun obj => F.args_object_init_2 obj _) F.entry_enumerate_new (pl_enum_new B) ⟨hv, ?_⟩
  rw [sz]
  exact ⟨⟨_, enu, rfl⟩, hQ _ enu (Heap.get?_push_of_some _ (Heap.get?_push_size _ B.free)) fun b u q => Heap.get?_push_of_some _ (Heap.get?_push_of_some _ q)⟩
end PySem
namespace Pl
open PySem PySem.Spec PyProof.Rows L2 StX

/-- enumerate(tuple): each item in a new pair -/
def Itu (K : PySem.W.Frag) (a : Addr) : It :=
  ⟨fun i H => ∃ (xs : List V) (x : V), SqT K H a xs ∧ xs[i]? = some x, fun i H v H' => ∃ T x, v = .ref T ∧ H T = none ∧ H' = upd H T (.tup [.int (i : Nat), x]) ∧ ∀ xs, SqT K H a xs → xs[i]? = some x, fun i H => ∃ xs : List V, SqT K H a xs ∧ xs.length = i⟩
theorem turn_enumT {P : Program} {w : World} {K : PySem.W.Frag} {elts : List Expr} {kk : Nat} {tp : Pos} (a en it : Addr) :
    Turn P w K (.Tuple elts kk tp) (Itu K a) [en, it] en (fun i h => (∃ old, IsEnum h en it ((i : Nat) : Int) old) ∧ h.IsTupleIter it a i ∧ en ≠ it) where
  mem := List.mem_cons_self
  obj := by
    rintro i h ⟨⟨old, he⟩, ⟨o, ho, hc, hd⟩, _⟩ b hb
    rcases List.mem_cons.mp hb with q | hb
    · subst q
      exact ⟨_, he, fun v q => nomatch q⟩
    · rw [List.mem_singleton.mp hb]
      exact ⟨o, ho, fun v q => by rw [hd] at q; cases q⟩
  keep := by
    rintro i h h' ⟨⟨old, he⟩, hi, hne⟩ k
    exact ⟨⟨old, k en List.mem_cons_self _ he⟩, hi.at fun o q => k it (List.mem_cons_of_mem _ List.mem_cons_self) o q, hne⟩
  item := by
    intro X hP hw hK hc i pins s σ H E I hf st hg
    subst hP hw hK
    obtain ⟨⟨old, he⟩, hit, hne⟩ := st
    obtain ⟨xs, x, hq, hx⟩ := hg
    obtain ⟨its, rv, p, hz⟩ := I.tuple hq
    obtain ⟨u, hu, ru⟩ := rv.get hx
    have isT : s.heap.IsTuple a its.toArray := p
    have eL : en < s.heap.objs.size := Heap.lt_size he
    have iL : it < s.heap.objs.size := by obtain ⟨_, q, _⟩ := hit; exact Heap.lt_size q
    have tracked : ∃ o, H a = some o ∨ X.K.lookup a ≠ none := by
      rcases hq with q | ⟨o, _, _, q, _⟩
      · rcases q with q | ⟨o, q⟩
        · exact ⟨_, .inl q⟩
        · exact ⟨_, .inl q⟩
      · exact ⟨.tup [], .inr (by rw [q]; exact fun z => nomatch z)⟩
    have anot : a ≠ it := fun q => by
      subst q
      obtain ⟨o, ho, hcl, _⟩ := hit
      obtain ⟨o', ho', hcl', _⟩ := isT
      rw [ho] at ho'
      cases ho'
      rw [hcl] at hcl'
      exact absurd hcl' (by decide)
    have aen : a ≠ en := fun q => by
      subst q
      obtain ⟨o', ho', hcl', _⟩ := isT
      rw [show s.heap.get? a = some _ from he] at ho'
      cases ho'
      exact absurd (Value.type.inj hcl') (by decide)
    have Dr := Draws.tuple (prog := X.prog) (w := X.w) (A := X.A.in1) (I.ok.hd hc) it a anot its.toArray
    have hlt : i < its.toArray.size := by
      have := List.getElem?_eq_some_iff.mp hu
      simpa using this.1
    refine wpAny_pyNext_enum_itemD Dr he ⟨hit, isT⟩ hlt hne (fun hm => ?_) fun y h' tk hy ho hs' hT hsz hk => ?_
    · rcases List.mem_cons.mp hm with q | hm
      · exact hne q
      · exact aen (List.mem_singleton.mp hm).symm
    · have ey : y = u := by
        have hy : its.toArray[i]? = some y := hy
        rw [show its.toArray[i]? = its[i]? by simp, hu] at hy
        exact (Option.some.inj hy).symm
      subst ey
      refine ⟨_, rfl, wpAny_letOwnedTupleGo_enum (s := { s with heap := h', toks := tk + 1 }) ho fun h2 he2 sb => ?_⟩
      have hT2 : h2.get? s.heap.objs.size = some { cls := .type "tuple", data := .seq #[.int i tk, y] } := (sb.2 _ (Nat.ne_of_gt eL)).trans hT
      have fresh : ObjOk X.prog X.w (upd H s.heap.objs.size (.tup [.int (i : Nat), x])) h2 s.heap.objs.size (.tup [.int (i : Nat), x]) :=
        ⟨by show 2 ≤ sizeLine; decide, [.int i tk, y], .cons ⟨_, rfl⟩ (.cons ru .nil), ⟨_, hT2, rfl, _, rfl⟩⟩
      have I1 : Inv X pins σ (upd H s.heap.objs.size (.tup [.int (i : Nat), x])) { s with heap := h2, toks := tk + 1 } :=
        I.turnedNew (ch := [en, it]) (fun b ob hb q => (sb.2 b (fun z => hb (by simp [z]))).trans (hk b ob (fun z => hb (by simp [z])) (fun z => hb (by simp [z])) q)) hf (Nat.le_refl _) fresh
      refine ⟨.ref s.heap.objs.size, _, I1, rfl, ⟨_, x, rfl, I.hok.fresh (Nat.le_refl _), rfl, fun ys hy => by rw [I.tuple_inj hy hq]; exact hx⟩, ⟨⟨y, ?_⟩, hs'.1.at fun o q => (sb.2 it (Ne.symm hne)).trans q, hne⟩, fun b hb => ?_⟩
      · rw [show ((i + 1 : Nat) : Int) = (i : Int) + 1 by omega]
        exact he2
      · have hb' : b < s.heap.objs.size := by
          rcases List.mem_cons.mp hb with z | z
          · rw [z]; exact eL
          · rw [List.mem_singleton.mp z]; exact iL
        rw [upd_ne (Nat.ne_of_lt hb')]
        exact (hf b hb).1
  done := by
    intro X hP hw hK hc i pins s σ H E I hf st hg
    subst hP hw hK
    obtain ⟨⟨old, he⟩, hit, hne⟩ := st
    obtain ⟨xs, hq, hx⟩ := hg
    obtain ⟨its, rv, p, hz⟩ := I.tuple hq
    have isT : s.heap.IsTuple a its.toArray := p
    obtain ⟨f0, f1, f2, f3, f4, f5⟩ := hf it (by simp)
    have hl := rv.length
    have anot : a ≠ it := fun q => by
      subst q
      obtain ⟨o, ho, hcl, _⟩ := hit
      obtain ⟨o', ho', hcl', _⟩ := isT
      rw [ho] at ho'
      cases ho'
      rw [hcl] at hcl'
      exact absurd hcl' (by decide)
    have ei : i = its.toArray.size := by
      rw [← hx, hl]
      simp
    subst ei
    exact wpAny_pyNext_enum_endD (Draws.tuple (prog := X.prog) (w := X.w) (A := X.A.in1) (I.ok.hd hc) it a anot its.toArray) he ⟨hit, isT⟩ fun h' eb => ⟨rfl, I.turned (t' := s.toks) (fun b o hb q => eb b o hb q) f0 f1 f3 f4 f5⟩
  self := fun A i s Q E st h => let ⟨⟨_, he⟩, _⟩ := st; wpAny_pyIter_enum he h
def iEnumT (K : PySem.W.Frag) (ta : TA) : TI := fun σ H R => ta σ H fun vs H1 => ∃ a xs, vs = [.ref a] ∧ SqT K H1 a xs ∧ R (Itu K a) H1
theorem pi_enumT {X : Cx} {e : Expr} {ta : TA} {p pos tp : Pos} {elts : List Expr} {kk : Nat} (hg : Gl X "enumerate") (hm : X.mg "enumerate" = none) (ha : PA X [e] ta) (hs : starEach [e] X.env = [(false, eval e X.env)] := by rfl) :
    PI X (.Tuple elts kk tp) (.Call (.Name "enumerate" p) [e] [] pos) (iEnumT X.K ta) := by
  constructor
  intro pins s σ H R I h
  refine Call_ (ld_blt I hg hm boot_enumerate (PyProof.Rows.callWith_type1 (thn (ha.run pos pins s σ H _ I h) fun us s1 ⟨vs, H1, I1, r1, a, xs, ex, hq, q⟩ => ?_) hs rfl))
  subst ex
  obtain ⟨u, rfl, ru⟩ := vals1 r1
  cases ru
  obtain ⟨its, rv, p', hz⟩ := I1.tuple hq
  refine pl_enum_call (begins_tuple a its.toArray) p' fun h' he hit hk => wpAny_pyIter_enum he ?_
  have I2 : Inv X pins σ H1 { s1 with heap := h' } := I1.kept (t' := s1.toks) hk
  refine ⟨s1.heap.objs.size + 1, [s1.heap.objs.size + 1, s1.heap.objs.size], _, _, H1, rfl, I2, turn_enumT a (s1.heap.objs.size + 1) s1.heap.objs.size, ⟨⟨.none, he⟩, ⟨_, hit, rfl, rfl⟩, Nat.succ_ne_self _⟩, fun b hb => ?_, q⟩
  have hle : s1.heap.objs.size ≤ b := by
    rcases List.mem_cons.mp hb with z | z
    · rw [z]; exact Nat.le_add_right _ _
    · rw [List.mem_singleton.mp z]; exact Nat.le_refl _
  exact I1.fpOk hle (I1.hok.fresh hle)
end Pl
end

section
set_option Elab.async false
set_option linter.all false
set_option maxRecDepth 100000
set_option maxHeartbeats 1000000
namespace Pl
open PySem PySem.Spec PyProof.Rows L2 StX

section
variable {S : Type} {X : Cx} {𝒯 : Fam S} {pos : Pos} {K : PySem.W.Frag}
variable {T : Vol S} {H0 : Bs} {H H' H1 H2 : Hp} {ρ ρ' : Rho} {σ : L2.St} {fp fp' : Nat → List Addr} {s s' s1 : S}

/-! ### targets -/
def Same (ρ ρ' : Rho) (fp fp' : Nat → List Addr) : Prop := ∀ k, isOwn ρ' k → isOwn ρ k ∧ fp' k = fp k
theorem Same.refl : Same ρ ρ fp fp := fun k h => ⟨h, rfl⟩
theorem Same.trans {ρ2 : Rho} {fp2 : Nat → List Addr} (a : Same ρ ρ' fp fp') (b : Same ρ' ρ2 fp' fp2) : Same ρ ρ2 fp fp2 := fun k h => by
  obtain ⟨h1, e1⟩ := b k h
  obtain ⟨h2, e2⟩ := a k h1
  exact ⟨h2, e1.trans e2⟩
theorem Same.frm (a : Same ρ ρ' fp fp') : Frm T ρ ρ' H H fp fp' := ⟨fun _ _ e _ _ => e, fun i hi x hx => by
  obtain ⟨h1, e1⟩ := a i hi
  exact .inl ⟨i, h1, e1 ▸ hx⟩⟩
def DG (is : List Nat) (g : TG) (fg : D → Rho → Option Rho) : Prop := ∀ (S : Type) (T : Vol S) (H0 : Bs) (ρ : Rho) (σ : L2.St) (H : Hp) (fp : Nat → List Addr) (s : S) (v : V) (d : D) (ρ' : Rho) (Q : L2.St → Hp → Prop), Env T H0 ρ σ H fp s → RI H d v → fg d ρ = some ρ' →
  (∀ σ' fp', Env T H0 ρ' σ' H fp' s → Same ρ ρ' fp fp' → (∀ j, j ∉ is → σ'[j]? = σ[j]?) → σ'.length = σ.length → Q σ' H) → g v σ H Q
def DGs (is : List Nat) (g : TGs) (fg : List D → Rho → Option Rho) : Prop := ∀ (S : Type) (T : Vol S) (H0 : Bs) (ρ : Rho) (σ : L2.St) (H : Hp) (fp : Nat → List Addr) (s : S) (vs : List V) (ds : List D) (ρ' : Rho) (Q : L2.St → Hp → Prop), Env T H0 ρ σ H fp s → RIs H ds vs → fg ds ρ = some ρ' →
  (∀ σ' fp', Env T H0 ρ' σ' H fp' s → Same ρ ρ' fp fp' → (∀ j, j ∉ is → σ'[j]? = σ[j]?) → σ'.length = σ.length → Q σ' H) → g vs σ H Q
def gfN (i : Nat) (d : D) (ρ : Rho) : Option Rho := if i < ρ.length then some (ρ.set i (.im d)) else none
theorem same_im {i : Nat} {d : D} (hi : i < ρ.length) : Same ρ (ρ.set i (.im d)) fp (fpu fp i []) := fun k ho => by
  by_cases e : k = i
  · subst e
    obtain ⟨m, q⟩ := ho
    rw [cel_set_self hi] at q
    cases q
  · exact ⟨isOwn_set ho e, by unfold fpu; rw [if_neg e]⟩
theorem dg_name {i : Nat} : DG [i] (gName i) (gfN i) := by
  intro S T H0 ρ σ H fp s v d ρ' Q E r e k
  unfold gfN at e
  by_cases hi : i < ρ.length
  · rw [if_pos hi] at e
    injection e with e
    subst e
    exact k _ _ (env_im E r hi) (same_im hi) (fun j hj => List.getElem?_set_ne fun q => hj (by rw [q]; exact List.mem_cons_self)) List.length_set
  · rw [if_neg hi] at e
    cases e
def gfNil (ds : List D) (ρ : Rho) : Option Rho := match ds with
  | [] => some ρ
  | _ => none
def gfCons (f : D → Rho → Option Rho) (fs : List D → Rho → Option Rho) (ds : List D) (ρ : Rho) : Option Rho := match ds with
  | [] => none
  | d :: ds => (f d ρ).bind fun ρ1 => fs ds ρ1
theorem dgs_nil : DGs [] gNil gfNil := by
  intro S T H0 ρ σ H fp s vs ds ρ' Q E r e k
  cases ds with
  | nil =>
    cases r
    injection e with e
    subst e
    exact ⟨rfl, k σ fp E Same.refl (fun _ _ => rfl) rfl⟩
  | cons d ds => cases e
theorem dgs_cons {is js : List Nat} {g : TG} {gs : TGs} {f : D → Rho → Option Rho} {fs : List D → Rho → Option Rho} (h : DG is g f) (hs : DGs js gs fs) : DGs (is ++ js) (gCons g gs) (gfCons f fs) := by
  intro S T H0 ρ σ H fp s vs ds ρ' Q E r e k
  cases ds with
  | nil => cases e
  | cons d ds =>
    cases r with
    | @cons _ _ v vs r rr =>
      obtain ⟨ρ1, e1, e2⟩ := bind_of e
      refine ⟨v, vs, rfl, ?_⟩
      refine h S T H0 ρ σ H fp s v d ρ1 _ E r e1 fun σ1 fp1 E1 s1 o1 l1 => ?_
      refine hs S T H0 ρ1 σ1 H fp1 s vs ds ρ' _ E1 rr e2 fun σ2 fp2 E2 s2 o2 l2 => ?_
      exact k σ2 fp2 E2 (s1.trans s2) (fun j hj => (o2 j fun q => hj (List.mem_append_right _ q)).trans (o1 j fun q => hj (List.mem_append_left _ q))) (l2.trans l1)
def gfTup (n : Nat) (fs : List D → Rho → Option Rho) (d : D) (ρ : Rho) : Option Rho := match d with
  | .tup ds => if ds.length = n then fs ds ρ else none
  | .ptp ds => if ds.length = n then fs ds ρ else none
  | _ => none
theorem dg_tup {is : List Nat} {n : Nat} {gs : TGs} {fs : List D → Rho → Option Rho} (hs : DGs is gs fs) : DG is (gTup K n gs) (gfTup n fs) := by
  intro S T H0 ρ σ H fp s v d ρ' Q E r e k
  cases d with
  | tup ds =>
    have e : (if ds.length = n then fs ds ρ else none) = some ρ' := e
    by_cases hn : ds.length = n
    · rw [if_pos hn] at e
      obtain ⟨a, xs, rfl, ht, rr⟩ := r.inv_tup
      exact ⟨a, xs, rfl, .of ht, by rw [rr.length, hn], hs S T H0 ρ σ H fp s xs ds ρ' Q E rr e k⟩
    · rw [if_neg hn] at e
      cases e
  | ptp ds =>
    have e : (if ds.length = n then fs ds ρ else none) = some ρ' := e
    by_cases hn : ds.length = n
    · rw [if_pos hn] at e
      obtain ⟨a, o, xs, rfl, ht, _, rr⟩ := r.inv_ptp
      exact ⟨a, xs, rfl, .inl (.inr ⟨_, ht⟩), by rw [rr.length, hn], hs S T H0 ρ σ H fp s xs ds ρ' Q E rr e k⟩
    · rw [if_neg hn] at e
      cases e
  | non => cases e
  | bl _ => cases e
  | int _ => cases e
  | str _ => cases e
/-- a, b = a tuple's parts -/
def fUnp (fg : D → Rho → Option Rho) (fe : Fn S W) : Fn S Out := fun ρ s => bnd (fe ρ s) fun w s1 => match w with
  | .im d => lft (fg d ρ) s1 Out.nx
  | _ => none
theorem ds_unp {is : List Nat} {g : TG} {fg : D → Rho → Option Rho} {te : TE} {fe : Fn S W} (h : DE 𝒯 te fe) (hg : DG is g fg) : DS 𝒯 (tAsg te g) (fUnp fg fe) := by
  intro T hT H0 ρ σ H fp s D o s' E e0 k
  obtain ⟨w, s1, e1, e2⟩ := bnd_of e0
  cases w with
  | im d =>
    obtain ⟨ρ', e3, rfl, rfl⟩ := lft_of e2
    refine h T hT H0 ρ σ H fp s _ _ _ E e1 fun v H1 gg x r ok => ?_
    exact hg S T H0 ρ σ H1 fp _ v d ρ' _ (E.step x r) ok.2 e3 fun σ' fp' E' sm _ _ => k σ' H1 fp' E' (Frm.trans E.rel r (Frm.exp E x) sm.frm)
  | new m => cases e2
  | sl i m => cases e2
  | src => cases e2
  | tm m => cases e2
theorem s_unp {is : List Nat} {g : TG} {fg : D → Rho → Option Rho} {e : Expr} {te : TE} {fe : Fn S W} {st : Stmt} (hp : PE X e te → PS X st (tAsg te g)) (h : PD X 𝒯 e te fe) (hg : DG is g fg) : PDS X 𝒯 st (tAsg te g) (fUnp fg fe) := ⟨hp h.pe, ds_unp h.de hg⟩

/-! ### what is walked -/
abbrev Ix (S : Type) := Rho → S → Option ((List D × Option Nat) × S)
def ExN (H H' : Hp) : Prop := H' = H ∨ ∃ t xs, H t = none ∧ H' = upd H t (.tup xs)
theorem ExN.exv (h : ExN H H') : ExV T H H' := by
  rcases h with h | ⟨t, xs, h1, h2⟩
  · rw [h]; exact ExV.refl T H
  · rw [h2]; exact ExV.new h1
theorem ExN.rel (h : ExN H H') (r : T.rel s H) : T.rel s H' := by
  rcases h with h | ⟨t, xs, h1, h2⟩
  · rw [h]; exact r
  · rw [h2]; exact T.upd r (T.new r h1)
def DI (𝒯 : Fam S) (wi : TI) (fi : Ix S) : Prop := ∀ T, 𝒯 T → ∀ H0 ρ σ H fp s (R : It → Hp → Prop) ds j s', Env T H0 ρ σ H fp s → fi ρ s = some ((ds, j), s') →
  (∀ (J : It) (H1 : Hp) (G : Hp → Prop) (Y : Nat → Hp → V → Hp → Prop) (as : List Addr), Walk J ds.length G Y → ExV T H H1 → T.rel s' H1 → (∀ H2, TK H1 H2 → (∀ a ∈ as, H2 a = H1 a) → G H2) → (∀ a ∈ as, (∃ o, H1 a = some o) ∧ ¬ T.own a ∧ (H a = none ∨ ∃ k, j = some k ∧ a ∈ fp k)) →
    (∀ i d, ds[i]? = some d → ∀ Ha x Hb, TK H1 Ha → Y i Ha x Hb → ExN Ha Hb ∧ RI Hb d x) → R J H1) → wi σ H R
structure PDI (X : Cx) (𝒯 : Fam S) (tg e : Expr) (wi : TI) (fi : Ix S) : Prop where
  pe : PI X tg e wi
  de : DI 𝒯 wi fi
variable {tg e a b : Expr} {te : TE} {fe : Fn S W} {es : List Expr} {ta : TA} {fa : Fn S (List W)} {wi : TI} {fi : Ix S}
def slotW : W → Option Nat
  | .sl j _ => some j
  | _ => none
def xList (fe : Fn S W) : Ix S := fun ρ s => bnd (fe ρ s) fun w s1 => if isLst w = true then lft (seqD w) s1 fun ds => (ds, slotW w) else none
theorem lst_as {Ha Hb : Hp} {w : W} {a : Addr} {g : List Addr} {ds : List D} (E : Env T H0 ρ σ H fp s) (x : ExV T H H1) (r : T.rel s1 H1) (hl : isLst w = true) (ok : Wok T fp H H1 w (.ref a) g) :
    ∃ xs, H1 a = some (.lst xs) ∧ ¬ T.own a ∧ (H a = none ∨ ∃ k, slotW w = some k ∧ a ∈ fp k) := by
  cases w with
  | new m =>
    cases m with
    | lst ms =>
      obtain ⟨b, xs, f, e, ht, rr, _, rfl⟩ := ok.1.inv_lst
      cases e
      have q := ok.2.1 a List.mem_cons_self
      exact ⟨xs, ht, T.new E.rel q, .inl q⟩
    | _ => cases hl
  | sl i m =>
    cases m with
    | lst ms =>
      obtain ⟨b, xs, f, e, ht, rr, _, rfl⟩ := ok.1.inv_lst
      cases e
      have q := ok.2 a List.mem_cons_self
      exact ⟨xs, ht, (E.mu i a q).2, .inr ⟨i, rfl, q⟩⟩
    | _ => cases hl
  | _ => cases hl
theorem tk_sqt {a : Addr} {xs : List V} (t : TK H H') (h : Rd H a (.tup xs)) : SqT K H' a xs := by
  rcases h with h | ⟨o, h⟩
  · exact .inl (.inl (t.t h))
  · exact .inl (.inr ⟨o, t.p h⟩)
theorem di_list (h : DE 𝒯 te fe) : DI 𝒯 (iList K te) (xList fe) := by
  intro T hT H0 ρ σ H fp s R ds j s' E e0 k
  obtain ⟨w, s1, e1, e2⟩ := bnd_of e0
  by_cases hl : isLst w = true
  · rw [if_pos hl] at e2
    obtain ⟨ds', e3, e4, rfl⟩ := lft_of e2
    injection e4 with e4 e5
    subst e4
    subst e5
    refine h T hT H0 ρ σ H fp s _ w _ E e1 fun v H1 g x r ok => ?_
    obtain ⟨a, xs, rfl, rr, hh⟩ := seqD_ok ok e3
    obtain ⟨ys, ha, nt, loc⟩ := lst_as (Ha := H) (Hb := H) (ds := ds) E x r hl ok
    have ha2 : H1 a = some (.lst xs) := by
      rcases hh with ⟨_, q | q⟩ | q
      · subst q; cases hl
      · subst q; cases hl
      · exact q
    refine ⟨a, rfl, ⟨xs, .of ha2⟩, ?_⟩
    have wk := walk_list (K := K) (a := a) (xs := xs)
    rw [rr.length] at wk
    refine k _ H1 _ _ [a] wk x r (fun H2 t q => .of ((q a List.mem_cons_self).trans ha2)) (fun b hb => ?_) fun i d hd Hx y Hy t hy => ?_
    · rw [List.mem_singleton.mp hb]
      exact ⟨⟨_, ha2⟩, nt, loc⟩
    · obtain ⟨e, hy⟩ := hy
      subst e
      obtain ⟨v, hv, rv⟩ := rr.get hd
      rw [hy] at hv
      cases hv
      exact ⟨.inl rfl, rv.keep t⟩
  · rw [if_neg hl] at e2
    cases e2
def tupD : W → Option (List D)
  | .im (.tup ds) => some ds
  | .im (.ptp ds) => some ds
  | _ => none
@[simp] theorem tupD_tup (ds : List D) : tupD (.im (.tup ds)) = some ds := rfl
@[simp] theorem tupD_ptp (ds : List D) : tupD (.im (.ptp ds)) = some ds := rfl
theorem tupD_ok {w : W} {v : V} {g : List Addr} {ds : List D} (ok : Wok T fp H H1 w v g) (e : tupD w = some ds) : ∃ a xs, v = .ref a ∧ Rd H1 a (.tup xs) ∧ RIs H1 ds xs := by
  cases w with
  | im d =>
    cases d with
    | tup es =>
      injection e with e
      subst e
      obtain ⟨a, xs, rfl, ht, rr⟩ := ok.2.inv_tup
      exact ⟨a, xs, rfl, .inl ht, rr⟩
    | ptp es =>
      injection e with e
      subst e
      obtain ⟨a, o, xs, rfl, ht, _, rr⟩ := ok.2.inv_ptp
      exact ⟨a, xs, rfl, .inr ⟨_, ht⟩, rr⟩
    | _ => cases e
  | _ => cases e
def xTup (fe : Fn S W) : Ix S := fun ρ s => bnd (fe ρ s) fun w s1 => lft (tupD w) s1 fun ds => (ds, none)
theorem di_tup (h : DE 𝒯 te fe) : DI 𝒯 (iTup K te) (xTup fe) := by
  intro T hT H0 ρ σ H fp s R ds j s' E e0 k
  obtain ⟨w, s1, e1, e2⟩ := bnd_of e0
  obtain ⟨ds', e3, e4, rfl⟩ := lft_of e2
  injection e4 with e4 e5
  subst e4
  subst e5
  refine h T hT H0 ρ σ H fp s _ w _ E e1 fun v H1 g x r ok => ?_
  obtain ⟨a, xs, rfl, ht, rr⟩ := tupD_ok ok e3
  refine ⟨a, rfl, ⟨xs, .inl ht⟩, ?_⟩
  have wk := walk_tup (K := K) (a := a) (xs := xs)
  rw [rr.length] at wk
  refine k _ H1 _ _ [] wk x r (fun H2 t q => tk_sqt t ht) (fun b hb => by cases hb) fun i d hd Hx y Hy t hy => ?_
  obtain ⟨e, hy⟩ := hy
  subst e
  obtain ⟨v, hv, rv⟩ := rr.get hd
  rw [hy] at hv
  cases hv
  exact ⟨.inl rfl, rv.keep t⟩
/-- the pairs of enumerate -/
def enumD (n : Nat) : List D → List D
  | [] => []
  | d :: ds => .tup [.int (n : Nat), d] :: enumD (n + 1) ds
theorem enumD_length : ∀ (ds : List D) (n : Nat), (enumD n ds).length = ds.length
  | [], _ => rfl
  | d :: ds, n => by rw [enumD, List.length_cons, List.length_cons, enumD_length ds]
theorem enumD_get : ∀ (ds : List D) (n i : Nat) (z : D), (enumD n ds)[i]? = some z → ∃ d, ds[i]? = some d ∧ z = .tup [.int ((n + i : Nat) : Int), d]
  | [], _, _, _, h => by simp [enumD] at h
  | d :: ds, n, 0, z, h => by
    simp only [enumD, List.getElem?_cons_zero, Option.some.injEq] at h
    exact ⟨d, rfl, h.symm⟩
  | d :: ds, n, i + 1, z, h => by
    simp only [enumD, List.getElem?_cons_succ] at h
    obtain ⟨x, h1, h2⟩ := enumD_get ds (n + 1) i z h
    refine ⟨x, by simpa using h1, ?_⟩
    rw [h2]
    congr 4
    omega
theorem walk_enumT {a : Addr} {xs : List V} : Walk (Itu K a) xs.length (fun H => SqT K H a xs) (YPair (fun i => some (.int (i : Nat))) (fun i => xs[i]?)) := by
  refine ⟨fun i _ hi q => ⟨xs, xs[i], q, by simp [hi]⟩, fun _ q => ⟨xs, q, rfl⟩, fun i H v H' _ q y => ?_⟩
  obtain ⟨t, x, h1, h2, h3, h4⟩ := y
  exact ⟨t, .int (i : Nat), x, h1, h2, h3, rfl, h4 xs q⟩
theorem pair_ok {xs : List V} {ds : List D} {i : Nat} {z : D} {Hx Hy : Hp} {y : V} (t : TK H1 Hx) (rr : RIs H1 ds xs) (hd : (enumD 0 ds)[i]? = some z) (hy : YPair (fun i => some (V.int (i : Nat))) (fun i => xs[i]?) i Hx y Hy) : ExN Hx Hy ∧ RI Hy z y := by
  obtain ⟨d, h1, rfl⟩ := enumD_get ds 0 i z hd
  obtain ⟨p, x, w, rfl, hp, rfl, ex, ew⟩ := hy
  obtain ⟨v, hv, rv⟩ := rr.get h1
  have ew : xs[i]? = some w := ew
  rw [hv] at ew
  cases ew
  cases ex
  refine ⟨.inr ⟨p, _, hp, rfl⟩, .tup upd_same (.cons ?_ (.cons ((rv.keep t).keep (new_tk hp)) .nil))⟩
  rw [Nat.zero_add]
  exact .int _
def xEnumT (fa : Fn S (List W)) : Ix S := fun ρ s => bnd (fa ρ s) fun ws s1 => match ws with
  | [w] => lft (tupD w) s1 fun ds => (enumD 0 ds, none)
  | _ => none
theorem di_enumT (h : DA 𝒯 ta fa) : DI 𝒯 (iEnumT K ta) (xEnumT fa) := by
  intro T hT H0 ρ σ H fp s R ds j s' E e0 k
  obtain ⟨ws, s1, e1, e2⟩ := bnd_of e0
  split at e2
  · rename_i w
    obtain ⟨ds', e3, e4, rfl⟩ := lft_of e2
    injection e4 with e4 e5
    subst e4
    subst e5
    refine h T hT H0 ρ σ H fp s _ _ _ E e1 fun vs H1 g x r oks => ?_
    obtain ⟨v, g', rfl, ok⟩ := woks1 oks
    obtain ⟨a, xs, rfl, ht, rr⟩ := tupD_ok ok e3
    refine ⟨a, xs, rfl, .inl ht, ?_⟩
    have wk := walk_enumT (K := K) (a := a) (xs := xs)
    rw [rr.length, ← enumD_length ds' 0] at wk
    refine k _ H1 _ _ [] wk x r (fun H2 t q => tk_sqt t ht) (fun b hb => by cases hb) fun i d hd Hx y Hy t hy => pair_ok t rr hd hy
  · cases e2
def xEnumL (fa : Fn S (List W)) : Ix S := fun ρ s => bnd (fa ρ s) fun ws s1 => match ws with
  | [w] => if isLst w = true then lft (seqD w) s1 fun ds => (enumD 0 ds, slotW w) else none
  | _ => none
theorem di_enumL (h : DA 𝒯 ta fa) : DI 𝒯 (iEnum K ta) (xEnumL fa) := by
  intro T hT H0 ρ σ H fp s R ds j s' E e0 k
  obtain ⟨ws, s1, e1, e2⟩ := bnd_of e0
  split at e2
  · rename_i w
    by_cases hl : isLst w = true
    · rw [if_pos hl] at e2
      obtain ⟨ds', e3, e4, rfl⟩ := lft_of e2
      injection e4 with e4 e5
      subst e4
      subst e5
      refine h T hT H0 ρ σ H fp s _ _ _ E e1 fun vs H1 g x r oks => ?_
      obtain ⟨v, g', rfl, ok⟩ := woks1 oks
      obtain ⟨a, xs, rfl, rr, hh⟩ := seqD_ok ok e3
      obtain ⟨ys, ha, nt, loc⟩ := lst_as (Ha := H) (Hb := H) (ds := ds') E x r hl ok
      have ha2 : H1 a = some (.lst xs) := by
        rcases hh with ⟨_, q | q⟩ | q
        · subst q; cases hl
        · subst q; cases hl
        · exact q
      refine ⟨a, xs, rfl, .of ha2, ?_⟩
      have wk := walk_enum (K := K) (a := a) (xs := xs)
      rw [rr.length, ← enumD_length ds' 0] at wk
      refine k _ H1 _ _ [a] wk x r (fun H2 t q => .of ((q a List.mem_cons_self).trans ha2)) (fun b hb => ?_) fun i d hd Hx y Hy t hy => pair_ok t rr hd hy
      rw [List.mem_singleton.mp hb]
      exact ⟨⟨_, ha2⟩, nt, loc⟩
    · rw [if_neg hl] at e2
      cases e2
  · cases e2
/-- ranges -/
def rngD (lo : Int) (n : Nat) : List D := (List.range n).map fun i => .int (lo + (i : Nat))
theorem rngD_length (lo : Int) (n : Nat) : (rngD lo n).length = n := by simp [rngD]
def smI (i : Int) : Bool := decide (-1000000 ≤ i) && decide (i ≤ 1000000)
theorem smI_of {i : Int} (h : smI i = true) : -1000000 ≤ i ∧ i ≤ 1000000 := by
  unfold smI at h
  simpa using h
def xRng1 (fa : Fn S (List W)) : Ix S := fun ρ s => bnd (fa ρ s) fun ws s1 => match ws with
  | [.im (.int j)] => if smI j = true then some ((rngD 0 j.toNat, none), s1) else none
  | _ => none
def xRng2 (fa : Fn S (List W)) : Ix S := fun ρ s => bnd (fa ρ s) fun ws s1 => match ws with
  | [.im (.int i), .im (.int j)] => if smI i = true ∧ smI j = true then some ((rngD i (j - i).toNat, none), s1) else none
  | _ => none
theorem rng_item {lo : Int} {n : Nat} {i : Nat} {z : D} {Hx Hy : Hp} {y : V} (hd : (rngD lo n)[i]? = some z) (hy : YFn (fun i => .int (lo + (i : Nat))) i Hx y Hy) : ExN Hx Hy ∧ RI Hy z y := by
  obtain ⟨rfl, rfl⟩ := hy
  unfold rngD at hd
  rw [List.getElem?_map] at hd
  obtain ⟨m, h1, rfl⟩ := map_some hd
  have : i < n := by
    have := List.getElem?_eq_some_iff.mp h1
    simpa using this.1
  rw [List.getElem?_range this] at h1
  cases h1
  exact ⟨.inl rfl, .int _⟩
theorem di_rng1 (h : DA 𝒯 ta fa) : DI 𝒯 (iRng1 ta) (xRng1 fa) := by
  intro T hT H0 ρ σ H fp s R ds j s' E e0 k
  obtain ⟨ws, s1, e1, e2⟩ := bnd_of e0
  split at e2
  · rename_i n
    by_cases c : smI n = true
    · rw [if_pos c] at e2
      injection e2 with e2
      injection e2 with e2 e3
      injection e2 with e2 e4
      subst e2
      subst e3
      subst e4
      refine h T hT H0 ρ σ H fp s _ _ _ E e1 fun vs H1 g x r oks => ?_
      obtain ⟨v, g', rfl, ok⟩ := woks1 oks
      have ev := ok.2.inv_int
      subst ev
      have c := smI_of c
      refine ⟨n, rfl, by omega, by omega, ?_⟩
      have wk := walk_range (lo := 0) (n := n.toNat)
      refine k _ H1 _ _ [] (by rw [rngD_length]; exact wk) x r (fun _ _ _ => True.intro) (fun b hb => by cases hb) fun i d hd Hx y Hy t hy => rng_item hd hy
    · rw [if_neg c] at e2
      cases e2
  · cases e2
theorem di_rng2 (h : DA 𝒯 ta fa) : DI 𝒯 (iRng2 ta) (xRng2 fa) := by
  intro T hT H0 ρ σ H fp s R ds j s' E e0 k
  obtain ⟨ws, s1, e1, e2⟩ := bnd_of e0
  split at e2
  · rename_i m n
    by_cases c : smI m = true ∧ smI n = true
    · rw [if_pos c] at e2
      injection e2 with e2
      injection e2 with e2 e3
      injection e2 with e2 e4
      subst e2
      subst e3
      subst e4
      refine h T hT H0 ρ σ H fp s _ _ _ E e1 fun vs H1 g x r oks => ?_
      obtain ⟨v, g', v2, g2, rfl, ok, ok2⟩ := woks2 oks
      have ev := ok.2.inv_int
      subst ev
      have ev := ok2.2.inv_int
      subst ev
      have c1 := smI_of c.1
      have c2 := smI_of c.2
      refine ⟨m, n, rfl, ⟨by omega, by omega, by omega, by omega⟩, ?_⟩
      have wk := walk_range (lo := m) (n := (n - m).toNat)
      refine k _ H1 _ _ [] (by rw [rngD_length]; exact wk) x r (fun _ _ _ => True.intro) (fun b hb => by cases hb) fun i d hd Hx y Hy t hy => rng_item hd hy
    · rw [if_neg c] at e2
      cases e2
  · cases e2
end
end Pl
end

section
set_option Elab.async false
set_option linter.all false
set_option maxRecDepth 100000
set_option maxHeartbeats 1000000
namespace Pl
open PySem PySem.Spec PyProof.Rows L2 StX

section
variable {S : Type} {X : Cx} {𝒯 : Fam S} {pos : Pos} {K : PySem.W.Frag}
variable {T : Vol S} {H0 : Bs} {H H' H1 H2 : Hp} {ρ ρ' ρ1 : Rho} {σ : L2.St} {fp fp' fp1 : Nat → List Addr} {s s' s1 : S}
variable {t : TS} {f : Fn S Out} {e c : Expr} {te : TE} {fe : Fn S W} {wi : TI} {fi : Ix S} {g : TG} {fg : D → Rho → Option Rho} {tc tt : TT} {fc ft : Fn S Bool} {is : List Nat}

theorem Frm.tk (E : Env T H0 ρ σ H fp s) (F : Frm T ρ ρ' H H' fp fp') : TK H H' := fun a u hu e => by
  obtain ⟨xs, q⟩ := hu.rd e
  refine F.keep a u e (fun n => T.ntup E.rel n q) fun i _ hi => ?_
  exact (E.mu i a hi).1.ntup xs q

/-! ### for -/
def frz1 (z : Option Nat) (ρ : Rho) : Rho := match z with
  | none => ρ
  | some k => match cel ρ k with
    | .own m => ρ.set k (.frz true m)
    | _ => ρ
theorem env_frz {z : Option Nat} (E : Env T H0 ρ σ H fp s) : ∃ fp', Env T H0 (frz1 z ρ) σ H fp' s ∧ Frm T ρ (frz1 z ρ) H H fp fp' := by
  cases z with
  | none => exact ⟨fp, E, frm_refl⟩
  | some k =>
    unfold frz1
    cases q : cel ρ k with
    | own m =>
      obtain ⟨fp', E', F, _⟩ := env_weak (i := k) (c := .frz true m) E (by rw [q]; exact ⟨rfl, rfl⟩)
      simp only [q]
      exact ⟨fp', E', F⟩
    | no => simp only [q]; exact ⟨fp, E, frm_refl⟩
    | im d => simp only [q]; exact ⟨fp, E, frm_refl⟩
    | frz l m => simp only [q]; exact ⟨fp, E, frm_refl⟩
    | src => simp only [q]; exact ⟨fp, E, frm_refl⟩
    | lck n m => simp only [q]; exact ⟨fp, E, frm_refl⟩
def forL (fg : D → Rho → Option Rho) (f : Fn S Out) : List D → Rho → S → Option (Out × S)
  | [], ρ, s => some (.nx ρ, s)
  | d :: ds, ρ, s => match fg d ρ with
    | none => none
    | some ρ1 => bnd (f ρ1 s) fun o s1 => match o with
      | .nx ρ2 => forL fg f ds ρ2 s1
      | .ct ρ2 => forL fg f ds ρ2 s1
      | .bk ρ2 => some (.nx ρ2, s1)
      | .rt m => some (.rt m, s1)
def notOwn (ρ : Rho) (j : Option Nat) : Bool := match j with
  | none => true
  | some k => match cel ρ k with
    | .own _ => false
    | _ => true
theorem notOwn_of {k : Nat} (h : notOwn ρ (some k) = true) : ¬ isOwn ρ k := fun ⟨m, q⟩ => by
  unfold notOwn at h
  simp only [q] at h
  cases h
def fFor (z : Option Nat) (fi : Ix S) (fg : D → Rho → Option Rho) (f : Fn S Out) : Fn S Out := fun ρ s => bnd (fi (frz1 z ρ) s) fun p s1 => if notOwn (frz1 z ρ) p.2 = true then forL fg f p.1 (frz1 z ρ) s1 else none
theorem ds_for {z : Option Nat} (hi : DI 𝒯 wi fi) (hg : DG is g fg) (hb : DS 𝒯 t f) : DS 𝒯 (tFor wi g t) (fFor z fi fg f) := by
  intro T hT H0 ρ σ H fp s D o s' E e0 k
  obtain ⟨⟨ds, j⟩, s1, e1, e2⟩ := bnd_of e0
  have e2 : (if notOwn (frz1 z ρ) j = true then forL fg f ds (frz1 z ρ) s1 else none) = some (o, s') := e2
  by_cases no : notOwn (frz1 z ρ) j = true
  · rw [if_pos no] at e2
    obtain ⟨fp0, E0, F0⟩ := env_frz (z := z) E
    have k : OutP T H0 (frz1 z ρ) H fp0 D s' o := OutP.mono E.rel E0.rel F0 k
    clear F0 E
    generalize frz1 z ρ = ρ0 at *
    refine hi T hT H0 ρ0 σ H fp0 s _ ds j s1 E0 e1 fun J H1 G Y as wk x r stab loc item => ?_
    have E1 := E0.step x r
    have k : OutP T H0 ρ0 H1 fp0 D s' o := OutP.mono E0.rel r (Frm.exp E0 x) k
    -- the loop
    refine for_it wk (fun i σi Hi => ∃ ρi si fpi, Env T H0 ρi σi Hi fpi si ∧ Frm T ρ0 ρi H1 Hi fp0 fpi ∧ forL fg f (ds.drop i) ρi si = some (o, s')) ⟨ρ0, s1, fp0, E1, frm_refl, by simpa using e2⟩ ?_ ?_ ?_
    · rintro i σi Hi _ ⟨ρi, si, fpi, Ei, Fi, _⟩
      refine stab Hi (Frm.tk E1 Fi) fun a ha => ?_
      obtain ⟨⟨u, hu⟩, nt, hl⟩ := loc a ha
      rw [hu]
      refine Fi.keep a u hu nt fun n hn hm => ?_
      rcases hl with hl | ⟨kk, rfl, hl⟩
      · exact fp_fresh E0 hl n hm
      · by_cases en : n = kk
        · subst en
          exact notOwn_of no hn
        · exact E0.sep n kk en hn a hm hl
    · rintro i v σi Hi Hi2 hlt ⟨ρi, si, fpi, Ei, Fi, ei⟩ hy
      rw [List.drop_eq_getElem_cons hlt] at ei
      have hd : ds[i]? = some ds[i] := by simp [hlt]
      obtain ⟨xn, ri⟩ := item i ds[i] hd Hi v Hi2 (Frm.tk E1 Fi) hy
      have E2 := Ei.step xn.exv (xn.rel Ei.rel)
      have F2 := Frm.trans r Ei.rel Fi (Frm.exp Ei xn.exv)
      unfold forL at ei
      cases q : fg ds[i] ρi with
      | none => rw [q] at ei; cases ei
      | some ρ1 =>
        rw [q] at ei
        obtain ⟨o1, s2, e3, e4⟩ := bnd_of ei
        refine hg S T H0 ρi σi Hi2 fpi si v ds[i] ρ1 _ E2 ri q fun σ3 fp3 E3 sm _ _ => ?_
        have F3 := Frm.trans r E2.rel F2 sm.frm
        refine hb T hT H0 ρ1 σ3 Hi2 fp3 si _ o1 s2 E3 e3 ?_
        cases o1 with
        | nx ρ2 => exact fun σ4 H4 fp4 E4 F4 => ⟨ρ2, s2, fp4, E4, Frm.trans r E3.rel F3 F4, e4⟩
        | ct ρ2 => exact fun σ4 H4 fp4 E4 F4 => ⟨ρ2, s2, fp4, E4, Frm.trans r E3.rel F3 F4, e4⟩
        | bk ρ2 =>
          injection e4 with e4
          injection e4 with e4 e5
          subst e4
          subst e5
          exact fun σ4 H4 fp4 E4 F4 => k σ4 H4 fp4 E4 (Frm.trans r E3.rel F3 F4)
        | rt m =>
          injection e4 with e4
          injection e4 with e4 e5
          subst e4
          subst e5
          exact k
    · rintro σi Hi ⟨ρi, si, fpi, Ei, Fi, ei⟩
      rw [List.drop_length] at ei
      injection ei with ei
      injection ei with e4 e5
      subst e4
      subst e5
      exact k σi Hi fpi Ei Fi
  · rw [if_neg no] at e2
    cases e2
theorem s_for {z : Option Nat} {tg : Expr} {body : List Stmt} {st : Stmt} (hp : PI X tg e wi → PG X tg g → PSs X body t → PS X st (tFor wi g t)) (hi : PDI X 𝒯 tg e wi fi) (pg : PG X tg g) (hg : DG is g fg) (hb : PDB X 𝒯 body t f) : PDS X 𝒯 st (tFor wi g t) (fFor z fi fg f) :=
  ⟨hp hi.pe pg hb.pe, ds_for hi.de hg hb.de⟩

/-! ### while -/
def fWh (fc : Fn S Bool) (f : Fn S Out) : Nat → Rho → S → Option (Out × S)
  | 0, _, _ => none
  | n + 1, ρ, s => bnd (fc ρ s) fun b s1 => if b = true then bnd (f ρ s1) fun o s2 => match o with
      | .nx ρ2 => fWh fc f n ρ2 s2
      | .ct ρ2 => fWh fc f n ρ2 s2
      | .bk ρ2 => some (.nx ρ2, s2)
      | .rt m => some (.rt m, s2)
    else some (.nx ρ, s1)
theorem ds_wh {n : Nat} (hc : DT 𝒯 tc fc) (hb : DS 𝒯 t f) : DS 𝒯 (tWhile tc t) (fWh fc f n) := by
  intro T hT H0 ρ σ H fp s D o s' E e0 k
  refine ⟨fun m σi Hi => ∃ ρi si fpi, Env T H0 ρi σi Hi fpi si ∧ Frm T ρ ρi H Hi fp fpi ∧ fWh fc f m ρi si = some (o, s'), ⟨n, ρ, s, fp, E, frm_refl, e0⟩, ?_⟩
  rintro m σi Hi ⟨ρi, si, fpi, Ei, Fi, ei⟩
  cases m with
  | zero => cases ei
  | succ m =>
    obtain ⟨b, s1, e1, e2⟩ := bnd_of ei
    refine hc T hT H0 ρi σi Hi fpi si _ b s1 Ei e1 fun H1 x r => ?_
    have E1 := Ei.step x r
    have F1 := Frm.trans E.rel Ei.rel Fi (Frm.exp Ei x)
    cases b with
    | false =>
      rw [if_neg Bool.false_ne_true] at e2 ⊢
      injection e2 with e2
      injection e2 with e2 e3
      subst e2
      subst e3
      exact k σi H1 fpi E1 F1
    | true =>
      rw [if_pos rfl] at e2 ⊢
      obtain ⟨o1, s2, e3, e4⟩ := bnd_of e2
      refine ⟨fun σ' H' => ∃ ρ2 s2 fp2, Env T H0 ρ2 σ' H' fp2 s2 ∧ Frm T ρ ρ2 H H' fp fp2 ∧ fWh fc f m ρ2 s2 = some (o, s'), fun σ' H' h => ⟨m, Nat.lt_succ_self m, h⟩, ?_⟩
      refine hb T hT H0 ρi σi H1 fpi s1 _ o1 s2 E1 e3 ?_
      cases o1 with
      | nx ρ2 => exact fun σ4 H4 fp4 E4 F4 => ⟨ρ2, s2, fp4, E4, Frm.trans E.rel r F1 F4, e4⟩
      | ct ρ2 => exact fun σ4 H4 fp4 E4 F4 => ⟨ρ2, s2, fp4, E4, Frm.trans E.rel r F1 F4, e4⟩
      | bk ρ2 =>
        injection e4 with e4
        injection e4 with e4 e5
        subst e4
        subst e5
        exact fun σ4 H4 fp4 E4 F4 => k σ4 H4 fp4 E4 (Frm.trans E.rel r F1 F4)
      | rt m =>
        injection e4 with e4
        injection e4 with e4 e5
        subst e4
        subst e5
        exact k
theorem s_wh {n : Nat} {body : List Stmt} (hp : PassesOwn (model X.prog X.w) X.A X.env X.xe) (hc : PDT X 𝒯 c tc fc) (hb : PDB X 𝒯 body t f) : PDS X 𝒯 (.While c body [] pos) (tWhile tc t) (fWh fc f n) := ⟨ps_while hp hc.pe hb.pe, ds_wh hc.de hb.de⟩

/-! ### list comprehensions -/
def wipeR (ρ : Rho) : List Nat → Rho
  | [] => ρ
  | v :: vs => (wipeR ρ vs).set v .no
theorem env_wipe : ∀ {vs : List Nat} (E : Env T H0 ρ σ H fp s), ∃ fp', Env T H0 (wipeR ρ vs) (wipe σ vs) H fp' s
  | [], E => ⟨fp, E⟩
  | v :: vs, E => by
    obtain ⟨fp1, E1⟩ := env_wipe (vs := vs) E
    obtain ⟨fp2, E2, _⟩ := env_weak (i := v) (c := .no) E1 True.intro
    refine ⟨fp2, by unfold wipeR wipe; rw [List.length_set, List.length_set]; exact E1.len, E2.rel, E2.ex, fun j => ?_, E2.sep, E2.lkd⟩
    by_cases e : j = v
    · subst e
      have ok := E2.ok j
      unfold wipeR wipe
      by_cases hj : j < (wipeR ρ vs).length
      · rw [cel_set_self hj] at ok ⊢
        exact ok
      · rw [List.set_eq_of_length_le (by omega)] at ok ⊢
        rw [List.set_eq_of_length_le (by rw [E1.len]; omega)]
        exact ok
    · have ok := E2.ok j
      unfold wipe
      rw [List.getElem?_set_ne (Ne.symm e)]
      exact ok
theorem wipe_get (σ : L2.St) : ∀ (vs : List Nat) (j : Nat), j ∈ vs → (wipe σ vs)[j]? = if j < σ.length then some none else none
  | v :: vs, j, h => by
    unfold wipe
    by_cases e : j = v
    · subst e
      by_cases hj : j < σ.length
      · rw [if_pos hj, List.getElem?_set_self (by rw [wipe_length]; exact hj)]
      · rw [if_neg hj, List.getElem?_eq_none (by rw [List.length_set, wipe_length]; omega)]
    · rw [List.getElem?_set_ne (Ne.symm e)]
      rcases List.mem_cons.mp h with q | q
      · exact absurd q e
      · exact wipe_get σ vs j q
theorem wipe_eq {σ σ' : L2.St} {vs : List Nat} (hl : σ'.length = σ.length) (h : ∀ j, j ∉ vs → σ'[j]? = (wipe σ vs)[j]?) : wipe σ' vs = wipe σ vs := by
  apply List.ext_getElem?
  intro j
  by_cases hj : j ∈ vs
  · rw [wipe_get _ _ _ hj, wipe_get _ _ _ hj, hl]
  · rw [wipe_out hj, h j hj]
def lcL (fg : D → Rho → Option Rho) (ft : Fn S Bool) (fe : Fn S W) (ρ : Rho) : List D → S → Option (List M × S)
  | [], s => some ([], s)
  | d :: ds, s => match fg d ρ with
    | none => none
    | some ρ1 => bnd (ft ρ1 s) fun b s1 => if b = true then bnd (fe ρ1 s1) fun w s2 => match sto w with
        | none => none
        | some m => bnd (lcL fg ft fe ρ ds s2) fun ms s3 => some (m :: ms, s3)
      else lcL fg ft fe ρ ds s1
def fLc (fi : Ix S) (fg : D → Rho → Option Rho) (ft : Fn S Bool) (fe : Fn S W) (vs : List Nat) : Fn S W := fun ρ s => bnd (fi ρ s) fun p s1 => if szOk p.1.length = true then bnd (lcL fg ft fe (wipeR ρ vs) p.1 s1) fun ms s2 => some (.new (.lst ms), s2) else none
theorem de_lc {vs : List Nat} (hi : DI 𝒯 wi fi) (hg : DG is g fg) (hs : ∀ i ∈ is, i ∈ vs) (ht : DT 𝒯 tt ft) (he : DE 𝒯 te fe) : DE 𝒯 (tLc wi g tt te vs) (fLc fi fg ft fe vs) := by
  intro T hT H0 ρ σ H fp s Q w s' E e0 k
  obtain ⟨⟨ds, j⟩, s1, e1, e2⟩ := bnd_of e0
  have e2 : (if szOk ds.length = true then bnd (lcL fg ft fe (wipeR ρ vs) ds s1) fun ms s2 => some (W.new (.lst ms), s2) else none) = some (w, s') := e2
  by_cases hz : szOk ds.length = true
  · rw [if_pos hz] at e2
    obtain ⟨msF, s2, e3, e4⟩ := bnd_of e2
    injection e4 with e4
    injection e4 with e4 e5
    subst e4
    subst e5
    refine hi T hT H0 ρ σ H fp s _ ds j s1 E e1 fun J H1 G Y as wk x r stab loc item => ?_
    have E1 := E.step x r
    intro p hp
    have kept : ∀ Hi, (∀ a o, ¬ T.own a → a ≠ p → H1 a = some o → Hi a = some o) → TK H1 Hi ∧ G Hi := fun Hi h => by
      have tk : TK H1 Hi := fun a u hu e => by
        obtain ⟨xs, q⟩ := hu.rd e
        refine h a u (fun n => T.ntup r n q) (fun z => ?_) e
        rw [z, hp] at e
        cases e
      refine ⟨tk, stab Hi tk fun a ha => ?_⟩
      obtain ⟨⟨u, hu⟩, nt, _⟩ := loc a ha
      rw [hu]
      exact h a u nt (fun z => by rw [z, hp] at hu; cases hu) hu
    refine lc_it wk (fun i Hi => ∃ acc ms0 f si rest, T.rel si Hi ∧ (∀ a o, ¬ T.own a → a ≠ p → H1 a = some o → Hi a = some o) ∧ Hi p = some (.lst acc) ∧ RMs Hi ms0 acc f ∧ (∀ a ∈ f, H1 a = none ∧ a ≠ p) ∧ ms0.length ≤ i ∧ lcL fg ft fe (wipeR ρ vs) (ds.drop i) si = some (rest, s2) ∧ ms0 ++ rest = msF) ?_ ?_ ?_ ?_
    · refine ⟨[], [], [], s1, msF, T.upd r (T.new r hp), fun a o _ n e => by rw [upd_ne n]; exact e, upd_same, .nil, (fun _ z => by cases z), Nat.zero_le _, by simpa using e3, rfl⟩
    · rintro i Hi _ ⟨acc, ms0, f, si, rest, r1, ex1, _⟩
      exact (kept Hi ex1).2
    · rintro i v Hi Hi2 hlt ⟨acc, ms0, f, si, rest, r1, ex1, hacc, rms, fr, hlen, el, emf⟩ hy
      obtain ⟨tk1, _⟩ := kept Hi ex1
      rw [List.drop_eq_getElem_cons hlt] at el
      have hd : ds[i]? = some ds[i] := by simp [hlt]
      obtain ⟨xn, ri⟩ := item i ds[i] hd Hi v Hi2 tk1 hy
      -- the environment here
      have Ei : Env T H0 ρ σ Hi fp si := by
        have x1 : ExV T H1 (fun a => if a = p then none else Hi a) := fun a o n e => by
          by_cases q : a = p
          · subst q; rw [hp] at e; cases e
          · simp only [if_neg q]
            exact ex1 a o n q e
        refine ⟨E1.len, r1, fun a o n e => ?_, fun n => (E1.ok n).keep E1.lkd tk1 fun a ha => ?_, E1.sep, fun q hq => ?_⟩
        · exact ex1 a o n (fun q => by subst q; rw [E1.ex a o n e] at hp; cases hp) (E1.ex a o n e)
        · obtain ⟨mu, nt⟩ := E1.mu n a ha
          obtain ⟨o, q⟩ := mu.some
          rw [q]
          exact ex1 a o nt (fun z => by subst z; rw [hp] at q; cases q) q
        · obtain ⟨⟨ob, h1⟩, h2⟩ := E1.lkd q hq
          exact ⟨⟨ob, ex1 _ _ h2.1 (fun z => by rw [z, hp] at h1; cases h1) h1⟩, h2⟩
      obtain ⟨fpw, Ew⟩ := env_wipe (vs := vs) Ei
      have E2 := Ew.step xn.exv (xn.rel r1)
      unfold lcL at el
      cases q : fg ds[i] (wipeR ρ vs) with
      | none => rw [q] at el; cases el
      | some ρ1 =>
        rw [q] at el
        refine hg S T H0 _ _ Hi2 fpw si v ds[i] ρ1 _ E2 ri q fun σ3 fp3 E3 sm same ln => ?_
        have lenw : σ3.length = σ.length := by
          rw [ln, wipe_length]
        refine ⟨wipe_eq lenw fun n hn => same n fun z => hn (hs n z), ?_⟩
        obtain ⟨b, s3, e5, e6⟩ := bnd_of el
        refine ht T hT H0 ρ1 σ3 Hi2 fp3 si _ b s3 E3 e5 fun H4 x4 r4 => ?_
        have E4 := E3.step x4 r4
        have keep2 : ∀ {Hz : Hp}, ExV T Hi Hz → ∀ a o, ¬ T.own a → a ≠ p → H1 a = some o → Hz a = some o := fun xz a o n np e => xz a o n (ex1 a o n np e)
        have nop : ¬ T.own p := T.new r hp
        have nof : ∀ a ∈ f, ¬ T.own a := fun a ha => T.new r (fr a ha).1
        have fk : ∀ {Hz : Hp}, ExV T Hi Hz → RMs Hz ms0 acc f := fun {Hz} xz => rms.keep (xz.tk r1) fun a ha => by
          obtain ⟨o, q⟩ := (rms.mu a ha).some
          rw [q]
          exact xz a o (nof a ha) q
        cases b with
        | false =>
          rw [if_neg Bool.false_ne_true] at e6 ⊢
          have xz : ExV T Hi H4 := xn.exv.trans x4
          exact ⟨acc, ms0, f, s3, rest, r4, keep2 xz, xz p _ nop hacc, fk xz, fr, by omega, e6, emf⟩
        | true =>
          rw [if_pos rfl] at e6 ⊢
          obtain ⟨w, s4, e7, e8⟩ := bnd_of e6
          refine he T hT H0 ρ1 σ3 H4 fp3 s3 _ w s4 E4 e7 fun u H5 gw x5 r5 ok => ?_
          cases q2 : sto w with
          | none => rw [q2] at e8; cases e8
          | some m =>
            rw [q2] at e8
            obtain ⟨ms1, s5, e9, e10⟩ := bnd_of e8
            injection e10 with e10
            injection e10 with e10 e11
            subst e10
            subst e11
            have xz : ExV T Hi H5 := xn.exv.trans (x4.trans x5)
            have hp5 : H5 p = some (.lst acc) := xz p _ nop hacc
            have fw : ∀ a ∈ nwf w gw, H4 a = none := nwf_fresh ok
            have fwi : ∀ a ∈ nwf w gw, Hi a = none := fun a ha => by
              cases z : Hi a with
              | none => rfl
              | some o =>
                have := (xn.exv.trans x4) a o (T.new r4 (fw a ha)) z
                rw [fw a ha] at this
                cases this
            have rmN : RMs H5 (ms0 ++ [m]) (acc ++ [u]) (f ++ (nwf w gw ++ [])) := RMs.append (fk xz) (RMs.cons (sto_ok ok q2) .nil (fun _ _ z => by cases z)) fun a ha hb => by
              rw [List.append_nil] at hb
              obtain ⟨o, z⟩ := (rms.mu a ha).some
              rw [fwi a hb] at z
              cases z
            rw [List.append_nil] at rmN
            have fr2 : ∀ a ∈ f ++ nwf w gw, H1 a = none ∧ a ≠ p := fun a ha => by
              rcases List.mem_append.mp ha with ha | ha
              · exact fr a ha
              · have np : a ≠ p := fun z => by
                  subst z
                  rw [fwi a ha] at hacc
                  cases hacc
                refine ⟨?_, np⟩
                cases z : H1 a with
                | none => rfl
                | some o =>
                  have := ex1 a o (T.new r1 (fwi a ha)) np z
                  rw [fwi a ha] at this
                  cases this
            refine ⟨acc, hp5, ?_, acc ++ [u], ms0 ++ [m], f ++ nwf w gw, s4, ms1, T.upd r5 nop, fun a o n np e => ?_, upd_same, rmN.keep (tk_upd fun xs z => ?_) (fun a ha => upd_ne (fr2 a ha).2), fr2, by rw [List.length_append]; simp; omega, e9, by rw [List.append_assoc]; exact emf⟩
            · have h1 := rms.length
              have h2 := szOk_lt hz
              omega
            · rw [upd_ne np]
              exact keep2 xz a o n np e
            · rcases z with z | ⟨_, z⟩ <;> (rw [hp5] at z; cases z)
    · rintro Hi ⟨acc, ms0, f, si, rest, r1, ex1, hacc, rms, fr, hlen, el, emf⟩
      rw [List.drop_length] at el
      injection el with el
      injection el with e4 e5
      subst e4
      subst e5
      rw [List.append_nil] at emf
      subst emf
      have x1 : ExV T H Hi := fun a o n e => ex1 a o n (fun z => by subst z; rw [x a o n e] at hp; cases hp) (x a o n e)
      refine k (.ref p) Hi (p :: f) x1 r1 ⟨.lst hacc rms fun z => (fr p z).2 rfl, fun a ha => ?_, True.intro⟩
      rcases List.mem_cons.mp ha with z | ha
      · rw [z]; exact x.back E.rel hp r
      · exact x.back E.rel (fr a ha).1 r
  · rw [if_neg hz] at e2
    cases e2
end
end Pl
end

section
set_option Elab.async false
set_option linter.all false
set_option maxRecDepth 100000
set_option maxHeartbeats 4000000
namespace Pl
open PySem PySem.Spec PyProof.Rows L2 StX

section
variable {S : Type} {X : Cx} {𝒯 : Fam S} {pos : Pos} {K : PySem.W.Frag}
variable {a b e : Expr} {ta tb te : TE} {fa fb fe : Fn S W} {r : R2}
/-! ### operations whose answer may be new -/
def OpW (r : R2) (o : W → W → Option W) : Prop := ∀ (S : Type) (T : Vol S) (H0 : Bs) (ρ : Rho) (σ : L2.St) (H Ha : Hp) (fp : Nat → List Addr) (s : S) (x y : W) (u v : V) (g g' : List Addr) (w : W) (Q : VK),
  Env T H0 ρ σ H fp s → (∀ a, H a = none → Ha a = none) → Wok T fp Ha H x u g → Wok T fp Ha H y v g' → o x y = some w → (∀ z H' g, ExV T H H' → T.rel s H' → Wok T fp Ha H' w z g → Q z H') → r u v H Q
def fOpW (o : W → W → Option W) (fa fb : Fn S W) : Fn S W := fun ρ s => bnd (fa ρ s) fun x s1 => bnd (fb ρ s1) fun y s2 => lft (o x y) s2 fun w => w
theorem de_opW {o : W → W → Option W} (hr : OpW r o) (ha : DE 𝒯 ta fa) (hb : DE 𝒯 tb fb) : DE 𝒯 (tOp r ta tb) (fOpW o fa fb) := by
  intro T hT H0 ρ σ H fp s Q w s' E e0 k
  obtain ⟨x, s1, e1, e2⟩ := bnd_of e0
  obtain ⟨y, s2, e3, e4⟩ := bnd_of e2
  obtain ⟨w', e5, e6, rfl⟩ := lft_of e4
  have e6 : w = w' := e6
  subst e6
  refine ha T hT H0 ρ σ H fp s _ x s1 E e1 fun u H1 g xx r1 ok1 => ?_
  have E1 := E.step xx r1
  refine hb T hT H0 ρ σ H1 fp s1 _ y _ E1 e3 fun v H2 g' yy r2 ok2 => ?_
  refine hr S T H0 ρ σ H2 H fp _ x y u v g g' w _ (E1.step yy r2) (fun p hp => (xx.trans yy).back E.rel hp r2) (ok1.keep E xx r1 yy) (ok2.early xx E.rel r1) e5 fun z H3 g3 zz r3 ok => ?_
  exact k z H3 g3 ((xx.trans yy).trans zz) r3 ok
theorem d_opW {o : W → W → Option W} {op : Operator} (ho : OpR X (binaryOp op) r) (hr : OpW r o) (ha : PD X 𝒯 a ta fa) (hb : PD X 𝒯 b tb fb) : PD X 𝒯 (.BinOp a op b pos) (tOp r ta tb) (fOpW o fa fb) := ⟨pe_op ho ha.pe hb.pe, de_opW hr ha.de hb.de⟩

/-! ### tuple + tuple -/
def tupKeep (x y : W) (ds es : List D) : W := if ds.isEmpty = true then y else if es.isEmpty = true then x else .im (.tup (ds ++ es))
def oCatT (x y : W) : Option W := match tupD x, tupD y with
  | some ds, some es => if szOk (ds.length + es.length) then some (tupKeep x y ds es) else none
  | _, _ => none
theorem opw_catT : OpW (rCatA K) oCatT := by
  intro S T H0 ρ σ H Ha fp s x y u v g g' w Q E hb ok1 ok2 e k
  unfold oCatT at e
  cases q1 : tupD x with
  | none => rw [q1] at e; cases e
  | some ds =>
    cases q2 : tupD y with
    | none => rw [q1, q2] at e; cases e
    | some es =>
      rw [q1, q2] at e
      have e : (if szOk (ds.length + es.length) then some (tupKeep x y ds es) else none) = some w := e
      by_cases hz : szOk (ds.length + es.length) = true
      · rw [if_pos hz] at e
        injection e with e
        obtain ⟨p, xs, rfl, hp, rr⟩ := tupD_ok ok1 q1
        obtain ⟨q, ys, rfl, hq, rr2⟩ := tupD_ok ok2 q2
        have l1 := rr.length
        have l2 := rr2.length
        refine ⟨p, q, xs, ys, rfl, rfl, .inl hp, .inl hq, by rw [l1, l2]; exact szOk_le hz, fun h => ?_, fun h1 h2 => ?_, fun h1 h2 l hl => ?_⟩
        · have : ds.isEmpty = true := by
            cases ds with
            | nil => rfl
            | cons d ds => rw [h] at l1; simp at l1
          unfold tupKeep at e
          rw [if_pos this] at e
          subst e
          exact k _ H g' (ExV.refl T H) E.rel ok2
        · have n1 : ¬ ds.isEmpty = true := by
            cases ds with
            | nil => exact absurd (List.eq_nil_of_length_eq_zero (by simpa using l1)) h1
            | cons d ds => simp
          have n2 : es.isEmpty = true := by
            cases es with
            | nil => rfl
            | cons d es => rw [h2] at l2; simp at l2
          unfold tupKeep at e
          rw [if_neg n1, if_pos n2] at e
          subst e
          exact k _ H g (ExV.refl T H) E.rel ok1
        · have n1 : ¬ ds.isEmpty = true := by
            cases ds with
            | nil => exact absurd (List.eq_nil_of_length_eq_zero (by simpa using l1)) h1
            | cons d ds => simp
          have n2 : ¬ es.isEmpty = true := by
            cases es with
            | nil => exact absurd (List.eq_nil_of_length_eq_zero (by simpa using l2)) h2
            | cons d es => simp
          unfold tupKeep at e
          rw [if_neg n1, if_neg n2] at e
          subst e
          obtain ⟨x1, r1⟩ := newly (o := .tup (xs ++ ys)) E hl
          exact k _ _ [] x1 r1 (wok_im (.tup upd_same ((rr.append rr2).keep (new_tk hl))))
      · rw [if_neg hz] at e
        cases e
/-! ### list + list, of fixed data -/
def oCatL (x y : W) : Option W := if isLst x = true ∧ isLst y = true then match seqD x, seqD y with
  | some ds, some es => if szOk (ds.length + es.length) then some (.new (.lst ((ds ++ es).map M.im))) else none
  | _, _ => none else none
theorem seqL_ok {T : Vol S} {fp : Nat → List Addr} {H H' : Hp} {w : W} {v : V} {g : List Addr} {ds : List D} (h : Wok T fp H H' w v g) (hl : isLst w = true) (e : seqD w = some ds) : ∃ a xs, v = .ref a ∧ H' a = some (.lst xs) ∧ RIs H' ds xs := by
  obtain ⟨a, xs, rfl, rr, hh⟩ := seqD_ok h e
  refine ⟨a, xs, rfl, ?_, rr⟩
  rcases hh with ⟨_, q | q⟩ | q
  · subst q; cases hl
  · subst q; cases hl
  · exact q
theorem opw_catL : OpW rCat oCatL := by
  intro S T H0 ρ σ H Ha fp s x y u v g g' w Q E hb ok1 ok2 e k
  unfold oCatL at e
  by_cases hl : isLst x = true ∧ isLst y = true
  · rw [if_pos hl] at e
    cases q1 : seqD x with
    | none => rw [q1] at e; cases e
    | some ds =>
      cases q2 : seqD y with
      | none => rw [q1, q2] at e; cases e
      | some es =>
        rw [q1, q2] at e
        have e : (if szOk (ds.length + es.length) then some (W.new (.lst ((ds ++ es).map M.im))) else none) = some w := e
        by_cases hz : szOk (ds.length + es.length) = true
        · rw [if_pos hz] at e
          injection e with e
          subst e
          obtain ⟨p, xs, rfl, hp, rr⟩ := seqL_ok ok1 hl.1 q1
          obtain ⟨q, ys, rfl, hq, rr2⟩ := seqL_ok ok2 hl.2 q2
          refine ⟨p, q, xs, ys, rfl, rfl, hp, hq, by rw [rr.length, rr2.length]; exact szOk_le hz, fun l hl => ?_⟩
          obtain ⟨x1, r1⟩ := newly (o := .lst (xs ++ ys)) E hl
          exact k _ _ [l] x1 r1 (new_ims hl (hb l hl) (rr.append rr2))
        · rw [if_neg hz] at e
          cases e
  · rw [if_neg hl] at e
    cases e
/-! ### list * int -/
theorem RIs.rep {H : Hp} {ds : List D} {vs : List V} (h : RIs H ds vs) : ∀ n : Nat, RIs H (List.replicate n ds).flatten (List.replicate n vs).flatten
  | 0 => .nil
  | n + 1 => by
    rw [List.replicate_succ, List.flatten_cons, List.replicate_succ, List.flatten_cons]
    exact h.append (RIs.rep h n)
def oRepL (x y : W) : Option W := if isLst x = true then match seqD x, intW y with
  | some ds, some k => if smI k = true ∧ szOk (ds.length * k.toNat) = true then some (.new (.lst ((List.replicate k.toNat ds).flatten.map M.im))) else none
  | _, _ => none else none
theorem opw_repL : OpW rRep oRepL := by
  intro S T H0 ρ σ H Ha fp s x y u v g g' w Q E hb ok1 ok2 e k
  unfold oRepL at e
  by_cases hl : isLst x = true
  · rw [if_pos hl] at e
    cases q1 : seqD x with
    | none => rw [q1] at e; cases e
    | some ds =>
      cases q2 : intW y with
      | none => rw [q1, q2] at e; cases e
      | some n =>
        rw [q1, q2] at e
        have e : (if smI n = true ∧ szOk (ds.length * n.toNat) = true then some (W.new (.lst ((List.replicate n.toNat ds).flatten.map M.im))) else none) = some w := e
        by_cases hz : smI n = true ∧ szOk (ds.length * n.toNat) = true
        · rw [if_pos hz] at e
          injection e with e
          subst e
          obtain ⟨p, xs, rfl, hp, rr⟩ := seqL_ok ok1 hl q1
          obtain rfl := intW_of q2
          have ev := ok2.2.inv_int
          subst ev
          have sm := smI_of hz.1
          refine ⟨p, n, xs, rfl, rfl, hp, by omega, by omega, by rw [rr.length]; exact szOk_le hz.2, fun l hl => ?_⟩
          obtain ⟨x1, r1⟩ := newly (o := .lst (List.replicate n.toNat xs).flatten) E hl
          exact k _ _ [l] x1 r1 (new_ims hl (hb l hl) (rr.rep n.toNat))
        · rw [if_neg hz] at e
          cases e
  · rw [if_neg hl] at e
    cases e
end
end Pl
namespace PySem
open PySem PySem.Spec PyProof.Rows
theorem pl_mul_one (l : Addr) (items : Array Value) (n : Nat) (dd : Option Addr) (sl : Array (Option Value)) (u : Tok) :
    Meets (Builtin.«tuple.__mul__» ⟨[.ref l, .int 1 u], []⟩) (fun _ R s => s.heap.get? l = some { cls := .type "tuple", dict := dd, data := .seq items n, slots := sl } ∧ R (.ok (.ret (Value.ref l))) s) := by
  refine .of_wp fun prog w A R s h => ?_
  obtain ⟨hp, g, d, tk, os⟩ := s
  obtain ⟨hl, h⟩ := h
  have f1 := AutoSeq1.idx_int
  have c0 : (decide ((1 : Int) < -(2 ^ 63)) || decide ((1 : Int) ≥ 2 ^ 63)) = false := by decide
  have c1 : (items.isEmpty || (1 : Int) == 1) = true := by
    rw [show ((1 : Int) == 1) = true from rfl, Bool.or_true]
  wp_walk using wpAny_loadPart' hl
  exact ⟨_, rfl, h⟩
end PySem
namespace Pl
open PySem PySem.Spec PyProof.Rows L2 StX
section
variable {S : Type} {X : Cx} {𝒯 : Fam S} {pos : Pos} {K : PySem.W.Frag}
theorem OpR.or {f : Value → Value → Sem Value} {r r' : R2} (h : OpR X f r) (h' : OpR X f r') : OpR X f (fun x y H Q => r x y H Q ∨ r' x y H Q) := by
  intro pins s σ H x y v u Q I rx ry q
  rcases q with q | q
  · exact h pins s σ H x y v u Q I rx ry q
  · exact h' pins s σ H x y v u Q I rx ry q
def rRep1 (K : PySem.W.Frag) : R2 := fun x y H Q => ∃ l xs, x = .ref l ∧ y = .int 1 ∧ SqT K H l xs ∧ Q (.ref l) H
theorem op_rep1 : OpR X (binaryOp .Mult) (rRep1 X.K) := by
  intro pins s σ H x y v u Q I rx ry h
  obtain ⟨l, xs, rfl, rfl, hT, q⟩ := h
  cases rx
  obtain ⟨t, rfl⟩ := ry
  obtain ⟨its, rv, ⟨⟨cl, dd, da, sl⟩, ho, hc, n, hd⟩, hs⟩ := I.tuple hT
  simp only at hc hd
  subst hc
  subst hd
  have isI : s.TypeIs (.int 1 t) "int" := typeIs_int s 1 t
  refine wpAny_binaryOp_repeat_ref (T := "tuple") (U := "int") (by decide) ⟨_, ho, rfl⟩ (fun z => typeIs_int z 1 t) noFill_tuple_mul F.fills_int_mul F.slot_int_rmul repeat_tuple F.slot_int_index.lookup ?_
  refine call_meets F.slot_int_rmul isI F.entry_int_rmul (F.args_int_rmul_2 _ _) (int_rmul_tuple 1 t l its.toArray n dd sl) ⟨ho, rfl, ⟨_, ho, rfl⟩, ?_⟩
  exact call_meets F.slot_tuple_mul ⟨_, ho, rfl⟩ F.entry_tuple_mul (F.args_tuple_mul_2 _ _) (pl_mul_one l its.toArray n dd sl t) ⟨ho, ⟨.ref l, H, I, rfl, q⟩⟩
def rRepTA (K : PySem.W.Frag) : R2 := fun x y H Q => rRep1 K x y H Q ∨ rRepT K x y H Q
theorem op_repTA : OpR X (binaryOp .Mult) (rRepTA X.K) := OpR.or op_rep1 op_repT
def oRepT (x y : W) : Option W := match tupD x, intW y with
  | some ds, some k => if k = 1 then some x else if 2 ≤ k ∧ k ≤ 1000 ∧ ds.length ≤ 1000 ∧ ds.isEmpty = false then some (.im (.tup (List.replicate k.toNat ds).flatten)) else none
  | _, _ => none
theorem opw_repT : OpW (rRepTA K) oRepT := by
  intro S T H0 ρ σ H Ha fp s x y u v g g' w Q E hb ok1 ok2 e k
  unfold oRepT at e
  cases q1 : tupD x with
  | none => rw [q1] at e; cases e
  | some ds =>
    cases q2 : intW y with
    | none => rw [q1, q2] at e; cases e
    | some n =>
      rw [q1, q2] at e
      obtain ⟨p, xs, rfl, hp, rr⟩ := tupD_ok ok1 q1
      obtain rfl := intW_of q2
      have ev := ok2.2.inv_int
      subst ev
      have e : (if n = 1 then some x else if 2 ≤ n ∧ n ≤ 1000 ∧ ds.length ≤ 1000 ∧ ds.isEmpty = false then some (W.im (.tup (List.replicate n.toNat ds).flatten)) else none) = some w := e
      by_cases h1 : n = 1
      · rw [if_pos h1] at e
        injection e with e
        subst e
        exact .inl ⟨p, xs, rfl, by rw [h1], .inl hp, k _ H g (ExV.refl T H) E.rel ok1⟩
      · rw [if_neg h1] at e
        by_cases c : 2 ≤ n ∧ n ≤ 1000 ∧ ds.length ≤ 1000 ∧ ds.isEmpty = false
        · rw [if_pos c] at e
          injection e with e
          subst e
          refine .inr ⟨p, n, xs, rfl, rfl, .inl hp, fun z => ?_, c.1, c.2.1, by rw [rr.length]; exact c.2.2.1, fun l hl => ?_⟩
          · have := rr.length
            rw [z] at this
            cases ds with
            | nil => simp at c
            | cons d ds => simp at this
          · obtain ⟨x1, r1⟩ := newly (o := .tup (List.replicate n.toNat xs).flatten) E hl
            exact k _ _ [] x1 r1 (wok_im (.tup upd_same ((rr.rep n.toNat).keep (new_tk hl))))
        · rw [if_neg c] at e
          cases e
end
end Pl
end

section
set_option Elab.async false
set_option linter.all false
set_option maxRecDepth 100000
set_option maxHeartbeats 4000000
namespace Pl
open PySem PySem.Spec PyProof.Rows L2 StX

section
variable {S : Type} {X : Cx} {𝒯 : Fam S} {pos : Pos} {K : PySem.W.Frag}
variable {T : Vol S} {H0 : Bs} {H H' H1 H2 : Hp} {ρ ρ' : Rho} {σ : L2.St} {fp fp' : Nat → List Addr} {s s' s1 : S}
variable {a b e : Expr} {ta tb te tk tv : TE} {fa fb fe fk fv : Fn S W}

/-! ### keys -/
def keyD : D → Option L2.Key
  | .int i => some (.inl i)
  | .str s => some (.inr s)
  | _ => none
def keysD : List D → Option (List L2.Key)
  | [] => some []
  | d :: ds => match keyD d, keysD ds with
    | some k, some ks => some (k :: ks)
    | _, _ => none
def keyT : D → Option (List L2.Key)
  | .tup ds => keysD ds
  | _ => none
theorem keyD_ok {d : D} {v : V} {k : L2.Key} (r : RI H d v) (e : keyD d = some k) : v = kV k := by
  cases d with
  | int i => injection e with e; subst e; exact r.inv_int
  | str s => injection e with e; subst e; exact r.inv_str
  | _ => cases e
theorem keysD_ok : ∀ {ds : List D} {vs : List V} {ks : List L2.Key}, RIs H ds vs → keysD ds = some ks → vs = ks.map kV
  | [], _, _, .nil, e => by
    injection e with e
    subst e
    rfl
  | d :: ds, _, ks, .cons r rr, e => by
    unfold keysD at e
    cases q1 : keyD d with
    | none => rw [q1] at e; cases e
    | some k =>
      cases q2 : keysD ds with
      | none => rw [q1, q2] at e; cases e
      | some ks' =>
        rw [q1, q2] at e
        injection e with e
        subst e
        rw [keyD_ok r q1, keysD_ok rr q2]
        rfl
theorem keyT_ok {d : D} {v : V} {k : List L2.Key} (r : RI H d v) (e : keyT d = some k) : ∃ b, v = .ref b ∧ H b = some (.tup (k.map kV)) := by
  cases d with
  | tup ds =>
    obtain ⟨b, xs, rfl, hb, rr⟩ := r.inv_tup
    rw [keysD_ok rr e] at hb
    exact ⟨b, rfl, hb⟩
  | _ => cases e

/-! ### dicts of fixed data -/
section
variable {κ : Type} [DecidableEq κ]
def dimg (l : List (κ × D)) : List (κ × M) := l.map fun p => (p.1, .im p.2)
def dof : List (κ × M) → Option (List (κ × D))
  | [] => some []
  | (k, .im d) :: r => (dof r).map ((k, d) :: ·)
  | _ :: _ => none
@[simp] theorem dof_dimg (l : List (κ × D)) : dof (dimg l) = some l := by
  induction l with
  | nil => rfl
  | cons p l ih =>
    show (dof (dimg l)).map ((p.1, p.2) :: ·) = _
    rw [ih]
    rfl
theorem dof_eq : ∀ {l : List (κ × M)} {r : List (κ × D)}, dof l = some r → l = dimg r
  | [], r, e => by
    injection e with e
    subst e
    rfl
  | (k, m) :: l, r, e => by
    cases m with
    | im d =>
      obtain ⟨r', q, rfl⟩ := map_some (show (dof l).map ((k, d) :: ·) = some r from e)
      rw [dof_eq q]
      rfl
    | _ => cases e
def dget (l : List (κ × D)) (k : κ) : Option D := match l with
  | [] => none
  | p :: r => if p.1 = k then some p.2 else dget r k
def dput (l : List (κ × D)) (k : κ) (d : D) : List (κ × D) := if (l.any fun p => decide (p.1 = k)) = true then l.map (fun p => if p.1 = k then (p.1, d) else p) else l ++ [(k, d)]
/-- pairs with the same keys -/
inductive RKV (H : Hp) : List (κ × D) → List (κ × V) → Prop
  | nil : RKV H [] []
  | cons {k : κ} {d : D} {v : V} {l : List (κ × D)} {r : List (κ × V)} : RI H d v → RKV H l r → RKV H ((k, d) :: l) ((k, v) :: r)
theorem rkv_of : ∀ {l : List (κ × D)} {kvs : List (κ × V)} {f : List Addr}, kvs.map (·.1) = (dimg l).map (·.1) → RMs H ((dimg l).map (·.2)) (kvs.map (·.2)) f → RKV H l kvs ∧ f = []
  | [], [], _, _, r => by
    cases r
    exact ⟨.nil, rfl⟩
  | [], p :: r, _, e, _ => by cases e
  | p :: l, [], _, e, _ => by cases e
  | (k, d) :: l, (k', v) :: r, f, e, rr => by
    injection e with e1 e2
    have e1 : k' = k := e1
    subst e1
    match rr with
    | .cons' (.im h1) r2 _ w =>
      obtain ⟨q, e3⟩ := rkv_of e2 r2
      exact ⟨.cons h1 q, by rw [w, e3]; rfl⟩
theorem RKV.keys {l : List (κ × D)} {kvs : List (κ × V)} (h : RKV H l kvs) : kvs.map (·.1) = (dimg l).map (·.1) := by
  induction h with
  | nil => rfl
  | cons _ _ ih =>
    rw [List.map_cons, ih]
    rfl
theorem RKV.vals {l : List (κ × D)} {kvs : List (κ × V)} (h : RKV H l kvs) : RMs H ((dimg l).map (·.2)) (kvs.map (·.2)) [] := by
  induction h with
  | nil => exact .nil
  | cons r _ ih => exact .cons' (.im r) ih (fun _ z => by cases z) rfl
theorem RKV.length {l : List (κ × D)} {kvs : List (κ × V)} (h : RKV H l kvs) : kvs.length = l.length := by
  induction h with
  | nil => rfl
  | cons _ _ ih => rw [List.length_cons, List.length_cons, ih]
theorem RKV.get {l : List (κ × D)} {kvs : List (κ × V)} (h : RKV H l kvs) (k : κ) : match dget l k with
    | none => valV kvs k = none
    | some d => ∃ v, valV kvs k = some v ∧ RI H d v := by
  induction h with
  | nil => rfl
  | @cons k' d v l r rd _ ih =>
    unfold dget
    by_cases e : k' = k
    · rw [if_pos e]
      exact ⟨v, valV_pos (p := (k', v)) e, rd⟩
    · rw [if_neg e]
      have q := valV_neg (p := (k', v)) (r := r) e
      rw [q]
      exact ih
theorem RKV.any {l : List (κ × D)} {kvs : List (κ × V)} (h : RKV H l kvs) (k : κ) : (kvs.any fun p => decide (p.1 = k)) = (l.any fun p => decide (p.1 = k)) := by
  induction h with
  | nil => rfl
  | cons _ _ ih => rw [List.any_cons, List.any_cons, ih]
theorem RKV.setAll {l : List (κ × D)} {kvs : List (κ × V)} (h : RKV H l kvs) (k : κ) {d : D} {v : V} (r : RI H d v) : RKV H (l.map fun p => if p.1 = k then (p.1, d) else p) (kvs.map fun p => if p.1 = k then (p.1, v) else p) := by
  induction h with
  | nil => exact .nil
  | @cons k' d' v' l r' rd hr ih =>
    rw [List.map_cons, List.map_cons]
    by_cases e : k' = k
    · rw [if_pos e, if_pos e]
      exact .cons r ih
    · rw [if_neg e, if_neg e]
      exact .cons rd ih
theorem RKV.snoc {l : List (κ × D)} {kvs : List (κ × V)} (h : RKV H l kvs) (k : κ) {d : D} {v : V} (r : RI H d v) : RKV H (l ++ [(k, d)]) (kvs ++ [(k, v)]) := by
  induction h with
  | nil => exact .cons r .nil
  | cons rd _ ih => exact .cons rd ih
theorem RKV.put {l : List (κ × D)} {kvs : List (κ × V)} (h : RKV H l kvs) (k : κ) {d : D} {v : V} (r : RI H d v) : RKV H (dput l k d) (putK kvs k v) := by
  unfold dput putK
  rw [h.any k]
  by_cases c : (l.any fun p => decide (p.1 = k)) = true
  · rw [if_pos c, if_pos c]
    exact h.setAll k r
  · rw [if_neg c, if_neg c]
    exact h.snoc k r
theorem RKV.keep {l : List (κ × D)} {kvs : List (κ × V)} (h : RKV H l kvs) (t : TK H H') : RKV H' l kvs := by
  induction h with
  | nil => exact .nil
  | cons rd _ ih => exact .cons (rd.keep t) ih
end
/-! ### what a dict holds -/
def dtW : W → Option (List (List L2.Key × M))
  | .new (.dt l) => some l
  | .sl _ (.dt l) => some l
  | .tm (.dt l) => some l
  | _ => none
@[simp] theorem dtW_new (l) : dtW (.new (.dt l)) = some l := rfl
@[simp] theorem dtW_sl (i l) : dtW (.sl i (.dt l)) = some l := rfl
@[simp] theorem dtW_tm (l) : dtW (.tm (.dt l)) = some l := rfl
@[simp] theorem dkW_tm (l) : dkW (.tm (.dk l)) = some l := rfl
theorem dtW_ok {w : W} {v : V} {g : List Addr} {l : List (List L2.Key × M)} (h : Wok T fp H H' w v g) (e : dtW w = some l) :
    ∃ a kvs f, v = .ref a ∧ H' a = some (.dT kvs) ∧ kvs.map (·.1) = l.map (·.1) ∧ RMs H' (l.map (·.2)) (kvs.map (·.2)) f ∧ a ∉ f ∧ g = a :: f := by
  cases w with
  | new m =>
    cases m with
    | dt l' =>
      injection e with e
      subst e
      exact h.1.inv_dt
    | _ => cases e
  | sl i m =>
    cases m with
    | dt l' =>
      injection e with e
      subst e
      exact h.1.inv_dt
    | _ => cases e
  | tm m =>
    cases m with
    | dt l' =>
      injection e with e
      subst e
      exact h.1.inv_dt
    | _ => cases e
  | im d => cases e
  | src => cases e
/-- the answer of a look: none, nothing there, a thing -/
def lookW (x y : W) : Option (Option D) := match y with
  | .im d => match dkW x with
    | some l => match dof l, keyD d with
      | some r, some k => some (dget r k)
      | _, _ => none
    | none => match dtW x with
      | some l => match dof l, keyT d with
        | some r, some k => some (dget r k)
        | _, _ => none
      | none => none
  | _ => none
def LkR (H : Hp) (od : Option D) (ov : Option V) : Prop := match od with
  | none => ov = none
  | some d => ∃ z, ov = some z ∧ RI H d z
theorem look_ok {Ha : Hp} {x y : W} {u v : V} {g g' : List Addr} {od : Option D} (ok1 : Wok T fp Ha H x u g) (ok2 : Wok T fp Ha H y v g') (e : lookW x y = some od) :
    ∃ a, u = .ref a ∧ IsD H a ∧ ∃ ov, DGet H a v ov ∧ LkR H od ov := by
  unfold lookW at e
  cases y with
  | im d =>
    simp only at e
    cases q : dkW x with
    | some l =>
      simp only [q] at e
      cases q1 : dof l with
      | none => simp only [q1] at e; cases e
      | some r =>
        cases q2 : keyD d with
        | none => simp only [q1, q2] at e; cases e
        | some k =>
          simp only [q1, q2] at e
          injection e with e
          obtain ⟨a, kvs, f, rfl, ha, ek, rr, _, _⟩ := dkW_ok ok1 q
          have el := dof_eq q1
          subst el
          obtain ⟨rk, _⟩ := rkv_of ek rr
          refine ⟨a, rfl, .inl ⟨kvs, .inl ha⟩, valV kvs k, .inl ⟨kvs, k, .inl ha, keyD_ok ok2.2 q2, rfl⟩, ?_⟩
          have := rk.get k
          subst e
          show LkR H (dget r k) _
          cases z : dget r k with
          | none => rw [z] at this; exact this
          | some d => rw [z] at this; exact this
    | none =>
      simp only [q] at e
      cases q0 : dtW x with
      | none => simp only [q0] at e; cases e
      | some l =>
        simp only [q0] at e
        cases q1 : dof l with
        | none => simp only [q1] at e; cases e
        | some r =>
          cases q2 : keyT d with
          | none => simp only [q1, q2] at e; cases e
          | some k =>
            simp only [q1, q2] at e
            injection e with e
            obtain ⟨a, kvs, f, rfl, ha, ek, rr, _, _⟩ := dtW_ok ok1 q0
            have el := dof_eq q1
            subst el
            obtain ⟨rk, _⟩ := rkv_of ek rr
            obtain ⟨b, rfl, hb⟩ := keyT_ok ok2.2 q2
            refine ⟨a, rfl, .inr ⟨kvs, .inl ha⟩, valV kvs k, .inr ⟨kvs, k, b, .inl ha, rfl, hb, rfl⟩, ?_⟩
            have := rk.get k
            subst e
            show LkR H (dget r k) _
            cases z : dget r k with
            | none => rw [z] at this; exact this
            | some d => rw [z] at this; exact this
  | new m => cases e
  | sl i m => cases e
  | src => cases e
  | tm m => cases e
/-- d[k] -/
def thereW (o : Option (Option D)) : Option W := match o with
  | some (some d) => some (.im d)
  | _ => none
def fDIx (fa fb : Fn S W) : Fn S W := fun ρ s => bnd (fa ρ s) fun x s1 => bnd (fb ρ s1) fun y s2 => lft (thereW (lookW x y)) s2 fun w => w
theorem de_dix (ha : DE 𝒯 ta fa) (hb : DE 𝒯 tb fb) : DE 𝒯 (tDGet ta tb) (fDIx fa fb) := by
  intro T hT H0 ρ σ H fp s Q w s' E e0 k
  obtain ⟨x, s1, e1, e2⟩ := bnd_of e0
  obtain ⟨y, s2, e3, e4⟩ := bnd_of e2
  obtain ⟨w', e5, e6, rfl⟩ := lft_of e4
  have e6 : w = w' := e6
  subst e6
  refine ha T hT H0 ρ σ H fp s _ x s1 E e1 fun u H1 g xx r1 ok1 => ?_
  have E1 := E.step xx r1
  refine hb T hT H0 ρ σ H1 fp s1 _ y _ E1 e3 fun v H2 g' yy r2 ok2 => ?_
  cases q : lookW x y with
  | none => rw [q] at e5; cases e5
  | some od =>
    cases od with
    | none => rw [q] at e5; cases e5
    | some d =>
      rw [q] at e5
      injection e5 with e5
      subst e5
      obtain ⟨a, rfl, _, ov, dg, z, rfl, rz⟩ := look_ok (ok1.keep E xx r1 yy) (ok2.early xx E.rel r1) q
      exact ⟨a, z, rfl, dg, k z H2 [] (xx.trans yy) r2 (wok_im rz)⟩
theorem d_dix (hu : X.A.units + 1 < cLine) (ha : PD X 𝒯 a ta fa) (hb : PD X 𝒯 b tb fb) (hs : NoSl b) : PD X 𝒯 (.Subscript a b pos) (tDGet ta tb) (fDIx fa fb) := ⟨pe_dget hu ha.pe hb.pe hs, de_dix ha.de hb.de⟩
/-- k in d, k not in d -/
def fDIn (neg : Bool) (fb fa : Fn S W) : Fn S W := fun ρ s => bnd (fb ρ s) fun y s1 => bnd (fa ρ s1) fun x s2 => lft (lookW x y) s2 fun od => .im (.bl (if neg then !od.isSome else od.isSome))
theorem look_some {Ha : Hp} {x y : W} {u v : V} {g g' : List Addr} {od : Option D} (ok1 : Wok T fp Ha H x u g) (ok2 : Wok T fp Ha H y v g') (e : lookW x y = some od) : ∃ a ov, u = .ref a ∧ DGet H a v ov ∧ ov.isSome = od.isSome := by
  obtain ⟨a, rfl, _, ov, dg, h⟩ := look_ok ok1 ok2 e
  refine ⟨a, ov, rfl, dg, ?_⟩
  cases od with
  | none =>
    have h : ov = none := h
    rw [h]
    rfl
  | some d =>
    obtain ⟨z, h, _⟩ := (show ∃ z, ov = some z ∧ RI H d z from h)
    rw [h]
    rfl
theorem de_din (hb : DE 𝒯 tb fb) (ha : DE 𝒯 ta fa) : DE 𝒯 (tDIn tb ta) (fDIn false fb fa) := by
  intro T hT H0 ρ σ H fp s Q w s' E e0 k
  obtain ⟨y, s1, e1, e2⟩ := bnd_of e0
  obtain ⟨x, s2, e3, e4⟩ := bnd_of e2
  obtain ⟨od, e5, rfl, rfl⟩ := lft_of e4
  refine hb T hT H0 ρ σ H fp s _ y s1 E e1 fun v H1 g' xx r1 ok2 => ?_
  have E1 := E.step xx r1
  refine ha T hT H0 ρ σ H1 fp s1 _ x _ E1 e3 fun u H2 g yy r2 ok1 => ?_
  obtain ⟨a, ov, rfl, dg, h⟩ := look_some (ok1.early xx E.rel r1) (ok2.keep E xx r1 yy) e5
  refine ⟨a, ov, rfl, dg, k _ H2 [] (xx.trans yy) r2 (wok_im ?_)⟩
  rw [h]
  exact .bl _
theorem de_dnin (hb : DE 𝒯 tb fb) (ha : DE 𝒯 ta fa) : DE 𝒯 (tDNotIn tb ta) (fDIn true fb fa) := by
  intro T hT H0 ρ σ H fp s Q w s' E e0 k
  obtain ⟨y, s1, e1, e2⟩ := bnd_of e0
  obtain ⟨x, s2, e3, e4⟩ := bnd_of e2
  obtain ⟨od, e5, rfl, rfl⟩ := lft_of e4
  refine hb T hT H0 ρ σ H fp s _ y s1 E e1 fun v H1 g' xx r1 ok2 => ?_
  have E1 := E.step xx r1
  refine ha T hT H0 ρ σ H1 fp s1 _ x _ E1 e3 fun u H2 g yy r2 ok1 => ?_
  obtain ⟨a, ov, rfl, dg, h⟩ := look_some (ok1.early xx E.rel r1) (ok2.keep E xx r1 yy) e5
  refine ⟨a, ov, rfl, dg, k _ H2 [] (xx.trans yy) r2 (wok_im ?_)⟩
  rw [h]
  exact .bl _
/-- d.get(k, z) -/
def fDGt (fa fb fe : Fn S W) : Fn S W := fun ρ s => bnd (fa ρ s) fun x s1 => bnd (fb ρ s1) fun y s2 => bnd (fe ρ s2) fun z s3 => match lookW x y, z with
  | some od, .im d => some (.im (od.getD d), s3)
  | _, _ => none
theorem isD_keep {x : W} {u : V} {g : List Addr} {a : Addr} : True := True.intro
theorem de_dgt (ha : DE 𝒯 ta fa) (hb : DE 𝒯 tb fb) (he : DE 𝒯 te fe) : DE 𝒯 (tDGet2 ta tb te) (fDGt fa fb fe) := by
  intro T hT H0 ρ σ H fp s Q w s' E e0 k
  obtain ⟨x, s1, e1, e2⟩ := bnd_of e0
  obtain ⟨y, s2, e3, e4⟩ := bnd_of e2
  obtain ⟨z, s3, e5, e6⟩ := bnd_of e4
  cases q : lookW x y with
  | none => simp only [q] at e6; cases e6
  | some od =>
    cases z with
    | im d =>
      simp only [q] at e6
      injection e6 with e6
      injection e6 with e6 e7
      subst e6
      subst e7
      refine ha T hT H0 ρ σ H fp s _ x s1 E e1 fun u H1 g xx r1 ok1 => ?_
      have E1 := E.step xx r1
      have isd : ∃ a, u = .ref a ∧ IsD H1 a := by
        unfold lookW at q
        cases y with
        | im dy =>
          simp only at q
          cases q1 : dkW x with
          | some l =>
            obtain ⟨a, kvs, f, rfl, ha, _⟩ := dkW_ok ok1 q1
            exact ⟨a, rfl, .inl ⟨kvs, .inl ha⟩⟩
          | none =>
            simp only [q1] at q
            cases q2 : dtW x with
            | none => simp only [q2] at q; cases q
            | some l =>
              obtain ⟨a, kvs, f, rfl, ha, _⟩ := dtW_ok ok1 q2
              exact ⟨a, rfl, .inr ⟨kvs, .inl ha⟩⟩
        | new m => cases q
        | sl i m => cases q
        | src => cases q
        | tm m => cases q
      obtain ⟨a, rfl, isd⟩ := isd
      refine ⟨a, rfl, isd, ?_⟩
      refine hb T hT H0 ρ σ H1 fp s1 _ y s2 E1 e3 fun v H2 g' yy r2 ok2 => ?_
      have E2 := E1.step yy r2
      refine he T hT H0 ρ σ H2 fp s2 _ _ _ E2 e5 fun z H3 g3 zz r3 ok3 => ?_
      obtain ⟨a', ea, _, ov, dg, h⟩ := look_ok (ok1.keep E xx r1 (yy.trans zz)) ((ok2.keep E1 yy r2 zz).early xx E.rel r1) q
      cases ea
      refine ⟨ov, dg, k _ H3 [] (xx.trans (yy.trans zz)) r3 (wok_im ?_)⟩
      cases od with
      | none =>
        have h : ov = none := h
        rw [h]
        exact ok3.2
      | some d' =>
        obtain ⟨z', h, rz⟩ := (show ∃ z, ov = some z ∧ RI H3 d' z from h)
        rw [h]
        exact rz
    | new m => simp only [q] at e6; cases e6
    | sl i m => simp only [q] at e6; cases e6
    | src => simp only [q] at e6; cases e6
    | tm m => simp only [q] at e6; cases e6
/-! ### {}, {k: v} -/
def fDnK : Fn S W := fun _ s => some (.new (.dk []), s)
def fDnT : Fn S W := fun _ s => some (.new (.dt []), s)
theorem pln_newK {p : Addr} {kvs : List (L2.Key × V)} {l : List (L2.Key × M)} : Pln (upd H p (.dK kvs)) (.dk l) (.ref p) := by
  intro a e o u
  cases e
  rw [upd_same]
  exact fun z => nomatch z
theorem pln_newT {p : Addr} {kvs : List (List L2.Key × V)} {l : List (List L2.Key × M)} : Pln (upd H p (.dT kvs)) (.dt l) (.ref p) := by
  intro a e o u
  cases e
  rw [upd_same]
  exact fun z => nomatch z
theorem de_dnK : DE 𝒯 tDNewK (fDnK : Fn S W) := by
  intro T hT H0 ρ σ H fp s Q w s' E e0 k p hp
  injection e0 with e0
  injection e0 with e1 e2
  subst e1
  subst e2
  obtain ⟨x, r⟩ := newly (o := .dK []) E hp
  refine k _ _ [p] x r ⟨.dk (kvs := []) upd_same rfl .nil (fun z => by cases z), fun a ha => ?_, pln_newK⟩
  rw [List.mem_singleton.mp ha]
  exact hp
theorem de_dnT : DE 𝒯 tDNewT (fDnT : Fn S W) := by
  intro T hT H0 ρ σ H fp s Q w s' E e0 k p hp
  injection e0 with e0
  injection e0 with e1 e2
  subst e1
  subst e2
  obtain ⟨x, r⟩ := newly (o := .dT []) E hp
  refine k _ _ [p] x r ⟨.dt (kvs := []) upd_same rfl .nil (fun z => by cases z), fun a ha => ?_, pln_newT⟩
  rw [List.mem_singleton.mp ha]
  exact hp
theorem d_dnK : PD X 𝒯 (.Dict [] [] pos) tDNewK (fDnK : Fn S W) := ⟨pe_dnewK, de_dnK⟩
theorem d_dnT : PD X 𝒯 (.Dict [] [] pos) tDNewT (fDnT : Fn S W) := ⟨pe_dnewT, de_dnT⟩
end
end Pl
end

section
set_option Elab.async false
set_option linter.all false
set_option maxRecDepth 100000
set_option maxHeartbeats 4000000
namespace Pl
open PySem PySem.Spec PyProof.Rows L2 StX

section
variable {S : Type} {X : Cx} {𝒯 : Fam S} {pos : Pos} {K : PySem.W.Frag}
variable {T : Vol S} {H0 : Bs} {H H' H1 H2 : Hp} {ρ ρ' : Rho} {σ : L2.St} {fp fp' : Nat → List Addr} {s s' s1 : S}
variable {a b e : Expr} {ta tb te tk tv : TE} {fa fb fe fk fv : Fn S W}

/-! ### {k: v} -/
def imW : W → Option D
  | .im d => some d
  | _ => none
theorem imW_of {w : W} {d : D} (h : imW w = some d) : w = .im d := by
  cases w with
  | im e =>
    injection h with h
    rw [h]
  | _ => cases h
def fDsK (fk fv : Fn S W) : Fn S W := fun ρ s => bnd (fk ρ s) fun x s1 => bnd (fv ρ s1) fun y s2 => match (imW x).bind keyD, imW y with
  | some k, some d => some (.new (.dk [(k, .im d)]), s2)
  | _, _ => none
theorem de_dsK (hk : DE 𝒯 tk fk) (hv : DE 𝒯 tv fv) : DE 𝒯 (tDisp [(tk, tv)]) (fDsK fk fv) := by
  intro T hT H0 ρ σ H fp s Q w s' E e0 kk p hp
  obtain ⟨x, s1, e1, e2⟩ := bnd_of e0
  obtain ⟨y, s2, e3, e4⟩ := bnd_of e2
  split at e4
  · rename_i k d q1 q2
    injection e4 with e4
    injection e4 with e4 e5
    subst e4
    subst e5
    obtain ⟨dk, q3, q4⟩ := bind_of q1
    obtain rfl := imW_of q3
    obtain rfl := imW_of q2
    obtain ⟨x0, r0⟩ := newly (o := .dK []) E hp
    have E0 := E.step x0 r0
    refine hk T hT H0 ρ σ _ fp s _ _ s1 E0 e1 fun u H1 g1 x1 r1 ok1 => ?_
    have E1 := E0.step x1 r1
    refine hv T hT H0 ρ σ H1 fp s1 _ _ _ E1 e3 fun v H2 g2 x2 r2 ok2 => ?_
    have E2 := E1.step x2 r2
    have np : ¬ T.own p := T.new E.rel hp
    have h2 : H2 p = some (.dK []) := x2 p _ np (x1 p _ np upd_same)
    obtain rfl := keyD_ok ok1.2 q4
    refine ⟨h2, [(k, v)], rfl, by simp, ?_⟩
    have tk2 : TK H2 (upd H2 p (.dK (mergeK [] [(k, v)]))) := tk_upd fun xs z => by rcases z with z | ⟨_, z⟩ <;> (rw [h2] at z; cases z)
    have xz : ExV T H (upd H2 p (.dK (mergeK [] [(k, v)]))) := fun c o n e => by
      rw [upd_ne (ne_of_none e hp)]
      exact (x0.trans (x1.trans x2)) c o n e
    refine kk _ _ [p] xz (T.upd r2 np) ⟨.dk (kvs := [(k, v)]) upd_same rfl (.cons' (.im (ok2.2.keep tk2)) .nil (fun _ z => by cases z) rfl) (fun z => by cases z), fun c hc => ?_, pln_newK⟩
    rw [List.mem_singleton.mp hc]
    exact hp
  · cases e4
/-- with a tuple as its key -/
def tDispT (tk tv : TE) : TE := fun σ H Q => ∀ p, H p = none → tk σ (upd H p (.dT [])) fun x H1 => tv σ H1 fun y H2 => H2 p = some (.dT []) ∧ ∃ b k, x = .ref b ∧ H2 b = some (.tup (k.map kV)) ∧ Q (.ref p) (upd H2 p (.dT [(k, y)]))
theorem pe_dispT {ek ev : Expr} (hu : X.A.units + 1 < cLine) (hk : PE X ek tk) (hv : PE X ev tv) : PE X (.Dict [some ek] [ev] pos) (tDispT tk tv) := by
  refine ⟨fun pins s σ H Q I q => ?_⟩
  have fresh := I.hok.fresh (Nat.le_refl s.heap.objs.size)
  have I1 := I.laid (a := s.heap.objs.size) (o := .dT []) (h' := s.heap.push { cls := .type "dict", data := .dict #[] }) (t' := s.toks) (fun _ _ z => Heap.get?_push_of_some _ z) (Nat.le_refl _) (dt_empty s.heap I.big)
  rw [arm_eval_Dict]
  have sh : (evalEachOpt [some ek] X.env).zip ((evalEach [ev] X.env).map fun v => do let x ← v; standAt pos; pure x) = (pairTrees [some ek] [ev] X.env pos).map fun p => (some p.1, p.2) := rfl
  rw [sh, dictDisplay_pairs (pairTrees [some ek] [ev] X.env pos) (by unfold pairTrees; exact List.cons_ne_nil _ _) (by show (1 : Nat) < 17; decide)]
  refine wpAny_bind (wpAny_standAt (wpAny_bind (wpAny_subDictH (knd := tupleKind (mixKind X.prog X.w)) (Q := fun d s' => wpAny (model X.prog X.w) X.A (pure (Value.ref d)) (EP X pins σ Q) X.xe s') (show X.A.units < cLine from Nat.lt_of_succ_lt hu) (by show (1 : Nat) ≤ 15; decide) ?_)))
  refine pairTrees_cons_walk (thn (hk.run pins _ σ _ _ I1 (q _ fresh)) fun u s1 ⟨x, H1, I2, rx, q1⟩ => ?_)
  refine thn (hv.run pins s1 σ H1 _ I2 q1) fun z s2 ⟨y, H2, I3, ry, h2, b, k, ex, hb, q2⟩ => ?_
  subst ex
  cases rx
  refine pairTrees_nil_walk ?_
  obtain ⟨zl, hd, xs0, r0, dd⟩ := dt_of I3.hok h2
  cases r0
  refine ⟨[(k, b, z)], ⟨rfl, rfl, key_of I3.hok hb, True.intro⟩, dd, fun h' tk' dd' sb => wpAny_pure ?_⟩
  have dd2 : h'.DictOfH (tupleKind (mixKind X.prog X.w)) s.heap.objs.size [(k, b, z)] := dd'
  obtain ⟨o, es, ep, ho, h3, h4, h5, _, h6⟩ := dd2
  refine ⟨.ref s.heap.objs.size, _, ?_, rfl, q2⟩
  refine d_write I3 (by rw [h2]; exact True.intro) sb ⟨o, ho⟩ ⟨by show (1 : Nat) ≤ sizeLine; decide, hd, [(k, b, z)], .cons ⟨rfl, ?_, ry⟩ .nil, o, es, ep, ho, h3, h4, h5, h6⟩
  rw [upd_ne (ne_of hb h2 fun z => nomatch z)]
  exact hb
def fDsT (fk fv : Fn S W) : Fn S W := fun ρ s => bnd (fk ρ s) fun x s1 => bnd (fv ρ s1) fun y s2 => match (imW x).bind keyT, imW y with
  | some k, some d => some (.new (.dt [(k, .im d)]), s2)
  | _, _ => none
theorem de_dsT (hk : DE 𝒯 tk fk) (hv : DE 𝒯 tv fv) : DE 𝒯 (tDispT tk tv) (fDsT fk fv) := by
  intro T hT H0 ρ σ H fp s Q w s' E e0 kk p hp
  obtain ⟨x, s1, e1, e2⟩ := bnd_of e0
  obtain ⟨y, s2, e3, e4⟩ := bnd_of e2
  split at e4
  · rename_i k d q1 q2
    injection e4 with e4
    injection e4 with e4 e5
    subst e4
    subst e5
    obtain ⟨dk, q3, q4⟩ := bind_of q1
    obtain rfl := imW_of q3
    obtain rfl := imW_of q2
    obtain ⟨x0, r0⟩ := newly (o := .dT []) E hp
    have E0 := E.step x0 r0
    refine hk T hT H0 ρ σ _ fp s _ _ s1 E0 e1 fun u H1 g1 x1 r1 ok1 => ?_
    have E1 := E0.step x1 r1
    refine hv T hT H0 ρ σ H1 fp s1 _ _ _ E1 e3 fun v H2 g2 x2 r2 ok2 => ?_
    have np : ¬ T.own p := T.new E.rel hp
    have h2 : H2 p = some (.dT []) := x2 p _ np (x1 p _ np upd_same)
    obtain ⟨b, rfl, hb⟩ := keyT_ok (ok1.2.keep (x2.tk r1)) q4
    refine ⟨h2, b, k, rfl, hb, ?_⟩
    have tk2 : TK H2 (upd H2 p (.dT [(k, v)])) := tk_upd fun xs z => by rcases z with z | ⟨_, z⟩ <;> (rw [h2] at z; cases z)
    have xz : ExV T H (upd H2 p (.dT [(k, v)])) := fun c o n e => by
      rw [upd_ne (ne_of_none e hp)]
      exact (x0.trans (x1.trans x2)) c o n e
    refine kk _ _ [p] xz (T.upd r2 np) ⟨.dt (kvs := [(k, v)]) upd_same rfl (.cons' (.im (ok2.2.keep tk2)) .nil (fun _ z => by cases z) rfl) (fun z => by cases z), fun c hc => ?_, pln_newT⟩
    rw [List.mem_singleton.mp hc]
    exact hp
  · cases e4
theorem d_dsK {ek ev : Expr} (hp : PE X ek tk → PE X ev tv → PE X (.Dict [some ek] [ev] pos) (tDisp [(tk, tv)])) (hk : PD X 𝒯 ek tk fk) (hv : PD X 𝒯 ev tv fv) : PD X 𝒯 (.Dict [some ek] [ev] pos) (tDisp [(tk, tv)]) (fDsK fk fv) := ⟨hp hk.pe hv.pe, de_dsK hk.de hv.de⟩
theorem d_dsT {ek ev : Expr} (hu : X.A.units + 1 < cLine) (hk : PD X 𝒯 ek tk fk) (hv : PD X 𝒯 ev tv fv) : PD X 𝒯 (.Dict [some ek] [ev] pos) (tDispT tk tv) (fDsT fk fv) := ⟨pe_dispT hu hk.pe hv.pe, de_dsT hk.de hv.de⟩

/-! ### d[k] = v -/
def putC (c : C) (y w : W) : Option C := match imW y, imW w with
  | some ky, some d => match c with
    | .own (.dk l) => match dof l, keyD ky with
      | some r, some k => if szOk r.length = true then some (.own (.dk (dimg (dput r k d)))) else none
      | _, _ => none
    | .own (.dt l) => match dof l, keyT ky with
      | some r, some k => if szOk r.length = true then some (.own (.dt (dimg (dput r k d)))) else none
      | _, _ => none
    | _ => none
  | _, _ => none
def fPutD (i : Nat) (fv fk : Fn S W) : Fn S Out := fun ρ s => bnd (fv ρ s) fun w s1 => bnd (fk ρ s1) fun y s2 => lft (putC (cel ρ i) y w) s2 fun c => .nx (ρ.set i c)
theorem ds_putD {i : Nat} (hv : DE 𝒯 tv fv) (hk : DE 𝒯 tk fk) : DS 𝒯 (sDPut (tVar i) tk tv) (fPutD i fv fk) := by
  intro T hT H0 ρ σ H fp s D o s' E e0 kk
  obtain ⟨w, s1, e1, e2⟩ := bnd_of e0
  obtain ⟨y, s2, e3, e4⟩ := bnd_of e2
  obtain ⟨c, e5, rfl, rfl⟩ := lft_of e4
  unfold putC at e5
  split at e5
  · rename_i ky d q1 q2
    obtain rfl := imW_of q1
    obtain rfl := imW_of q2
    refine hv T hT H0 ρ σ H fp s _ _ s1 E e1 fun v H1 g1 x1 r1 ok1 => ?_
    have E1 := E.step x1 r1
    split at e5
    · rename_i l qc
      split at e5
      · rename_i r k q3 q4
        by_cases hz : szOk r.length = true
        · rw [if_pos hz] at e5
          injection e5 with e5
          subst e5
          have okc := E1.ok i
          rw [qc] at okc
          obtain ⟨⟨z, ez, rz, pl⟩, nw⟩ := okc
          refine ⟨z, ez, ?_⟩
          refine hk T hT H0 ρ σ H1 fp s1 _ _ _ E1 e3 fun u H2 g2 x2 r2 ok2 => ?_
          have E2 := E1.step x2 r2
          have okc := E2.ok i
          rw [qc] at okc
          obtain ⟨⟨z', ez', rz', pl'⟩, nw'⟩ := okc
          rw [ez] at ez'
          cases ez'
          have el := dof_eq q3
          subst el
          obtain ⟨p, kvs, f, rfl, hp, ek, rr, nf, ef⟩ := rz'.inv_dk
          obtain ⟨rk, rfl⟩ := rkv_of ek rr
          have hp2 : H2 p = some (.dK kvs) := hp
          have hm : p ∈ fp i := by rw [ef]; exact List.mem_cons_self
          have rv := ok1.2.keep (x2.tk r1)
          obtain rfl := keyD_ok ok2.2 q4
          have tk2 : TK H2 (upd H2 p (.dK (putK kvs k v))) := tk_upd fun xs z => by rcases z with z | ⟨_, z⟩ <;> (rw [hp2] at z; cases z)
          have rk2 := (rk.put k rv).keep tk2
          refine ⟨p, _, rfl, .inl ⟨kvs, k, hp2, rfl, by rw [rk.length]; exact szOk_lt hz, rfl⟩, ?_⟩
          refine kk _ _ _ (env_mod E2 qc ez hm (.dk upd_same rk2.keys rk2.vals (fun z => by cases z)) pln_newK fun b hb => .inl (by rw [List.mem_singleton.mp hb]; exact hm)) (frm_mod E2 (x1.trans x2) qc hm fun b hb => .inl (by rw [List.mem_singleton.mp hb]; exact hm))
        · rw [if_neg hz] at e5
          cases e5
      · cases e5
    · rename_i l qc
      split at e5
      · rename_i r k q3 q4
        by_cases hz : szOk r.length = true
        · rw [if_pos hz] at e5
          injection e5 with e5
          subst e5
          have okc := E1.ok i
          rw [qc] at okc
          obtain ⟨⟨z, ez, rz, pl⟩, nw⟩ := okc
          refine ⟨z, ez, ?_⟩
          refine hk T hT H0 ρ σ H1 fp s1 _ _ _ E1 e3 fun u H2 g2 x2 r2 ok2 => ?_
          have E2 := E1.step x2 r2
          have okc := E2.ok i
          rw [qc] at okc
          obtain ⟨⟨z', ez', rz', pl'⟩, nw'⟩ := okc
          rw [ez] at ez'
          cases ez'
          have el := dof_eq q3
          subst el
          obtain ⟨p, kvs, f, rfl, hp, ek, rr, nf, ef⟩ := rz'.inv_dt
          obtain ⟨rk, rfl⟩ := rkv_of ek rr
          have hp2 : H2 p = some (.dT kvs) := hp
          have hm : p ∈ fp i := by rw [ef]; exact List.mem_cons_self
          have rv := ok1.2.keep (x2.tk r1)
          obtain ⟨b, rfl, hb⟩ := keyT_ok ok2.2 q4
          have tk2 : TK H2 (upd H2 p (.dT (putK kvs k v))) := tk_upd fun xs z => by rcases z with z | ⟨_, z⟩ <;> (rw [hp2] at z; cases z)
          have rk2 := (rk.put k rv).keep tk2
          refine ⟨p, _, rfl, .inr ⟨kvs, k, b, hp2, rfl, hb, by rw [rk.length]; exact szOk_lt hz, rfl⟩, ?_⟩
          refine kk _ _ _ (env_mod E2 qc ez hm (.dt upd_same rk2.keys rk2.vals (fun z => by cases z)) pln_newT fun b hb => .inl (by rw [List.mem_singleton.mp hb]; exact hm)) (frm_mod E2 (x1.trans x2) qc hm fun b hb => .inl (by rw [List.mem_singleton.mp hb]; exact hm))
        · rw [if_neg hz] at e5
          cases e5
      · cases e5
    · cases e5
  · cases e5
theorem s_putD {i : Nat} {st : Stmt} {ek ev : Expr} (hp : PE X ek tk → PE X ev tv → PS X st (sDPut (tVar i) tk tv)) (hv : PD X 𝒯 ev tv fv) (hk : PD X 𝒯 ek tk fk) : PDS X 𝒯 st (sDPut (tVar i) tk tv) (fPutD i fv fk) := ⟨hp hk.pe hv.pe, ds_putD hv.de hk.de⟩
end
end Pl
end

section
set_option Elab.async false
set_option linter.all false
set_option maxRecDepth 100000
set_option maxHeartbeats 4000000
namespace Pl
open PySem PySem.Spec PyProof.Rows L2 StX

/-! ### d.items() of a dict with tuple keys, walked -/
section
variable {X : Cx} {pins : List (Addr × Obj)} {σ : L2.St} {H : Hp} {s : Shared} {d : Addr} {o : Obj}
theorem frzT2 {kvs : List (List L2.Key × V)} (I : L2.Inv X pins σ H s) (h : H d = some (.frz o (.dT kvs))) :
    (d == sysModules) = false ∧ s.heap.get? d = some o ∧ o.ExactDict ∧ ∃ (es : Array DictEntry) (ep : Nat), o.data = .dict es ep ∧ es.size = kvs.length ∧
      ∀ (i : Nat) (k : List L2.Key) (v : V), kvs[i]? = some (k, v) → ∃ (en : DictEntry) (q : Addr), es[i]? = some en ∧ en.key = .ref q ∧ H q = some (.tup (k.map kV)) ∧ RelV v en.val := by
  obtain ⟨hd, z, hs, xs, pr, ob, es, ep, ho, hx, hdt, he, _⟩ := I.hok d _ h
  rw [hd] at ho
  cases ho
  have n1 : es.size = xs.length := size_of_entries he
  have n2 : kvs.length = xs.length := Paired.length pr
  refine ⟨hs, hd, hx, es, ep, hdt, by omega, fun i k v e => ?_⟩
  obtain ⟨b, hb, _, e2, e3⟩ := paired_get pr e
  have q := entry_at he i
  rw [hb] at q
  exact ⟨_, b.2.1, q, rfl, e2, e3⟩
end
/-- the pairs, each a new tuple; the key's own tuple in it -/
def Itit (d : Addr) (o : Obj) (kvs : List (List L2.Key × V)) : It :=
  ⟨fun i H => H d = some (.frz o (.dT kvs)) ∧ i < kvs.length,
   fun i H x H' => ∃ (t : Addr) (k : List L2.Key) (v : V) (q : Addr), kvs[i]? = some (k, v) ∧ x = .ref t ∧ H t = none ∧ H q = some (.tup (k.map kV)) ∧ H' = upd H t (.tup [.ref q, v]),
   fun i H => H d = some (.frz o (.dT kvs)) ∧ kvs.length ≤ i⟩
theorem turn_itT {P : Program} {w : World} {K : PySem.W.Frag} {d : Addr} {o : Obj} {es : Array DictEntry} {ep : Nat} {kvs : List (List L2.Key × V)} {elts : List Expr} {kk : Nat} {tp : Pos} (it : Addr) (hod : o.data = .dict es ep) :
    Turn P w K (.Tuple elts kk tp) (Itit d o kvs) [it] it (fun i h => ∃ ok ov, IsItemIter h it d i es.size ep ok ov) where
  mem := List.mem_cons_self
  obj := by
    rintro i h ⟨ok, ov, e⟩ b hb
    rw [List.mem_singleton.mp hb]
    exact ⟨_, e, fun v z => nomatch z⟩
  keep := by
    rintro i h h' ⟨ok, ov, e⟩ k
    exact ⟨ok, ov, k it List.mem_cons_self _ e⟩
  item := by
    intro X hP hw hK hc i pins s σ H E I hf st hg
    subst hP hw hK
    obtain ⟨hd, hi⟩ := hg
    obtain ⟨hs, hgd, hx, es2, ep2, hdt, hsz, ent⟩ := frzT2 I hd
    obtain ⟨rfl, rfl⟩ := dict_ep hod hdt
    obtain ⟨⟨k, v⟩, hkv⟩ : ∃ p, kvs[i]? = some p := ⟨kvs[i], List.getElem?_eq_getElem hi⟩
    obtain ⟨en, q, hen, hkey, hq, rv⟩ := ent i k v hkv
    obtain ⟨ok, ov, he⟩ := st
    have hlt : it < s.heap.objs.size := Heap.lt_size he
    have hlt2 : i < es2.size := by rw [hsz]; exact hi
    have een : es2[i] = en := by
      rw [Array.getElem?_eq_getElem hlt2] at hen
      exact Option.some.inj hen
    refine DT.nextI he (⟨o, hgd, hx, hdt⟩ : DT.Raw s.heap d es2 ep2) hlt2 fun h' ho hT hz hk => ?_
    rw [een, hkey] at ho hT
    refine ⟨_, rfl, wpAny_letOwnedTupleGo_items (s := { s with heap := h' }) ho fun h2 he2 sb => ?_⟩
    have hT2 : h2.get? s.heap.objs.size = some { cls := .type "tuple", data := .seq #[.ref q, en.val] } := (sb.2 _ (Nat.ne_of_gt hlt)).trans hT
    have fresh : ObjOk X.prog X.w (upd H s.heap.objs.size (.tup [.ref q, v])) h2 s.heap.objs.size (.tup [.ref q, v]) :=
      ⟨by show 2 ≤ sizeLine; decide, [.ref q, en.val], .cons rfl (.cons rv .nil), ⟨_, hT2, rfl, _, rfl⟩⟩
    have I1 : L2.Inv X pins σ (upd H s.heap.objs.size (.tup [.ref q, v])) { s with heap := h2 } :=
      I.turnedNew (t' := s.toks) (ch := [it]) (fun b ob hb e => (sb.2 b (by simpa using hb)).trans (hk b ob (by simpa using hb) e)) hf (Nat.le_refl _) fresh
    refine ⟨.ref s.heap.objs.size, _, I1, rfl, ⟨_, k, v, q, hkv, rfl, I.hok.fresh (Nat.le_refl _), hq, rfl⟩, ⟨.ref q, en.val, he2⟩, fun b hb => ?_⟩
    rw [List.mem_singleton.mp hb, upd_ne (Nat.ne_of_lt hlt)]
    exact (hf it List.mem_cons_self).1
  done := by
    intro X hP hw hK hc i pins s σ H E I hf st hg
    subst hP hw hK
    obtain ⟨hd, hi⟩ := hg
    obtain ⟨f0, f1, f2, f3, f4, f5⟩ := hf it List.mem_cons_self
    obtain ⟨hs, hgd, hx, es2, ep2, hdt, hsz, ent⟩ := frzT2 I hd
    obtain ⟨rfl, rfl⟩ := dict_ep hod hdt
    obtain ⟨ok, ov, he⟩ := st
    exact DT.endI (I.ok.hd hc) he (⟨o, hgd, hx, hdt⟩ : DT.Raw s.heap d es2 ep2) (by rw [hsz]; exact hi) fun h' eb => ⟨rfl, I.turned (t' := s.toks) (fun b ob hb e => eb b ob hb e) f0 f1 f3 f4 f5⟩
  self := fun A i s Q E st h => let ⟨_, _, e⟩ := st; wpAny_pyIter_itemiter e h
def iItT (td : TE) : TI := fun σ H R => td σ H fun x H1 => ∃ d o kvs, x = .ref d ∧ H1 d = some (.frz o (.dT kvs)) ∧ R (Itit d o kvs) H1
theorem pi_itT {X : Cx} {e : Expr} {td : TE} {ap cp : Pos} {elts : List Expr} {kk : Nat} {tp : Pos} (he : PE X e td) (hbase : attributeBase e "items" X.env (eval e X.env) = eval e X.env := by rfl) (hline : (ap.endLine == cp.line) = true := by rfl) :
    PI X (.Tuple elts kk tp) (.Call (.Attribute e "items" ap) [] [] cp) (iItT td) := by
  constructor
  intro pins s σ H R I h
  refine wpAny_Call_method (T := "dict") (id := "dict.items") hbase rfl hline F.plainAttrs_dict F.slot_dict_items F.type_dict_items (thn (he.run pins s σ H _ I h) fun u s1 ⟨x, H1, I1, rx, d, o, kvs, ex, hd, q⟩ => ?_)
  subst ex
  obtain rfl : u = Value.ref d := rx
  obtain ⟨hs, hgd, hx, es, ep, hdt, hsz, ent⟩ := frzT2 I1 hd
  have raw : DT.Raw s1.heap d es ep := ⟨o, hgd, hx, hdt⟩
  refine ⟨raw.typeIs, fun b eb => ?_, ?_⟩
  · cases eb
    exact ⟨o, hgd, hx.2.1⟩
  · have I2 : L2.Inv X pins σ H1 { s1 with heap := s1.heap.push { cls := .type "dict_items", data := .fields #[.ref d] } } := I1.kept (t' := s1.toks) fun b ob q => Heap.get?_push_of_some _ q
    have fin : wpAny (model X.prog X.w) X.A (pyIter (.ref s1.heap.objs.size)) (PIE X pins σ (.Tuple elts kk tp) R) X.xe { s1 with heap := s1.heap.push { cls := .type "dict_items", data := .fields #[.ref d] } } := by
      refine DT.iterI (v := s1.heap.objs.size) (d := d) ⟨_, Heap.get?_push_size _ rfl, rfl, rfl⟩ (raw.push _) (pi_one (tk := s1.toks) I2 _ (turn_itT _ hdt) ⟨.none, .none, Heap.get?_push_size _ rfl⟩ q)
    exact Calls.callWith_builtin rfl (PySem.evalArgs_none (DT.callItems hs raw fin))
end Pl
end

section
set_option Elab.async false
set_option linter.all false
set_option maxRecDepth 100000
set_option maxHeartbeats 4000000
namespace Pl
open PySem PySem.Spec PyProof.Rows L2 StX

section
variable {S : Type} {X : Cx} {𝒯 : Fam S} {pos : Pos} {K : PySem.W.Frag}
variable {T : Vol S} {H0 : Bs} {H H' H1 H2 : Hp} {ρ ρ' ρ1 : Rho} {σ : L2.St} {fp fp' fp1 : Nat → List Addr} {s s' s1 : S}
variable {t : TS} {f : Fn S Out} {te td : TE} {fe : Fn S W} {wi : TI} {g : TG} {fg : D → Rho → Option Rho} {is : List Nat}

/-! ### the turns of a loop, whatever is walked -/
theorem for_core {J : It} {G : Hp → Prop} {Y : Nat → Hp → V → Hp → Prop} {ds : List D} {o : Out} {D : Ends} (hT : 𝒯 T) (wk : Walk J ds.length G Y) (E1 : Env T H0 ρ σ H1 fp s1)
    (stab : ∀ Hi ρi fpi, Frm T ρ ρi H1 Hi fp fpi → TK H1 Hi → G Hi) (item : ∀ i d, ds[i]? = some d → ∀ Ha x Hb, TK H1 Ha → Y i Ha x Hb → ExN Ha Hb ∧ RI Hb d x)
    (hg : DG is g fg) (hb : DS 𝒯 t f) (e2 : forL fg f ds ρ s1 = some (o, s')) (k : OutP T H0 ρ H1 fp D s' o) :
    ∃ W : Nat → Nat → L2.St → Hp → Prop, (∃ m, W 0 m σ H1) ∧ ∀ i m σ H, W i m σ H →
      (J.stop i H ∧ D.nx σ H) ∨ (J.go i H ∧ ∃ N : L2.St → Hp → Prop, (∀ σ' H', N σ' H' → ∃ m', m' < m ∧ W (i + 1) m' σ' H') ∧ ∀ x H', J.yld i H x H' → g x σ H' fun σ2 H2 => t { D with nx := N, ct := N, bk := D.nx } σ2 H2) := by
  have r := E1.rel
  refine for_it wk (fun i σi Hi => ∃ ρi si fpi, Env T H0 ρi σi Hi fpi si ∧ Frm T ρ ρi H1 Hi fp fpi ∧ forL fg f (ds.drop i) ρi si = some (o, s')) ⟨ρ, s1, fp, E1, frm_refl, by simpa using e2⟩ ?_ ?_ ?_
  · rintro i σi Hi _ ⟨ρi, si, fpi, Ei, Fi, _⟩
    exact stab Hi ρi fpi Fi (Frm.tk E1 Fi)
  · rintro i v σi Hi Hi2 hlt ⟨ρi, si, fpi, Ei, Fi, ei⟩ hy
    rw [List.drop_eq_getElem_cons hlt] at ei
    have hd : ds[i]? = some ds[i] := by simp [hlt]
    obtain ⟨xn, ri⟩ := item i ds[i] hd Hi v Hi2 (Frm.tk E1 Fi) hy
    have E2 := Ei.step xn.exv (xn.rel Ei.rel)
    have F2 := Frm.trans r Ei.rel Fi (Frm.exp Ei xn.exv)
    unfold forL at ei
    cases q : fg ds[i] ρi with
    | none => rw [q] at ei; cases ei
    | some ρ1 =>
      rw [q] at ei
      obtain ⟨o1, s2, e3, e4⟩ := bnd_of ei
      refine hg S T H0 ρi σi Hi2 fpi si v ds[i] ρ1 _ E2 ri q fun σ3 fp3 E3 sm _ _ => ?_
      have F3 := Frm.trans r E2.rel F2 sm.frm
      refine hb T hT H0 ρ1 σ3 Hi2 fp3 si _ o1 s2 E3 e3 ?_
      cases o1 with
      | nx ρ2 => exact fun σ4 H4 fp4 E4 F4 => ⟨ρ2, s2, fp4, E4, Frm.trans r E3.rel F3 F4, e4⟩
      | ct ρ2 => exact fun σ4 H4 fp4 E4 F4 => ⟨ρ2, s2, fp4, E4, Frm.trans r E3.rel F3 F4, e4⟩
      | bk ρ2 =>
        injection e4 with e4
        injection e4 with e4 e5
        subst e4
        subst e5
        exact fun σ4 H4 fp4 E4 F4 => k σ4 H4 fp4 E4 (Frm.trans r E3.rel F3 F4)
      | rt m =>
        injection e4 with e4
        injection e4 with e4 e5
        subst e4
        subst e5
        exact k
  · rintro σi Hi ⟨ρi, si, fpi, Ei, Fi, ei⟩
    rw [List.drop_length] at ei
    injection ei with ei
    injection ei with e4 e5
    subst e4
    subst e5
    exact k σi Hi fpi Ei Fi

/-! ### a walk locks its dict -/
def lckC : C → C
  | .frz true m => .lck 1 m
  | .frz false _ => .no
  | .lck n m => .lck (n + 1) m
  | c => c
def unlC : C → C
  | .lck 1 m => .frz true m
  | .lck (n + 2) m => .lck (n + 1) m
  | .lck 0 _ => .no
  | c => c
theorem cel_map {f : C → C} (h : f .no = .no) (ρ : Rho) (i : Nat) : cel (ρ.map f) i = f (cel ρ i) := by
  unfold cel
  rw [List.getElem?_map]
  cases ρ[i]? with
  | none => exact h.symm
  | some c => rfl
theorem own_lck {i : Nat} : isOwn (ρ.map lckC) i ↔ isOwn ρ i := by
  unfold isOwn
  rw [cel_map rfl]
  constructor
  · rintro ⟨m, e⟩
    cases q : cel ρ i with
    | own m' => exact ⟨m', rfl⟩
    | no => rw [q] at e; cases e
    | im d => rw [q] at e; cases e
    | frz l m' => rw [q] at e; cases l <;> cases e
    | src => rw [q] at e; cases e
    | lck n m' => rw [q] at e; cases e
  · rintro ⟨m, e⟩
    exact ⟨m, by rw [e]; rfl⟩
theorem own_unl {i : Nat} : isOwn (ρ.map unlC) i ↔ isOwn ρ i := by
  unfold isOwn
  rw [cel_map rfl]
  constructor
  · rintro ⟨m, e⟩
    cases q : cel ρ i with
    | own m' => exact ⟨m', rfl⟩
    | no => rw [q] at e; cases e
    | im d => rw [q] at e; cases e
    | frz l m' => rw [q] at e; cases e
    | src => rw [q] at e; cases e
    | lck n m' =>
      rw [q] at e
      match n, e with
      | 0, e => cases e
      | 1, e => cases e
      | n + 2, e => cases e
  · rintro ⟨m, e⟩
    exact ⟨m, by rw [e]; rfl⟩
theorem undo_push {lk : List (Addr × HO)} {d : Addr} {u : HO} (n : Nat) (H Hl : Hp) (hd : ∀ p ∈ lk, p.1 ≠ d) (h : H d = some u) (e : ∀ a, a ≠ d → Hl a = H a) : undo ((d, u) :: lk) (n + 1) Hl = undo lk n H := by
  funext a
  unfold undo
  rw [List.take_succ_cons, List.find?_cons]
  by_cases q : d = a
  · subst q
    rw [show decide ((d, u).1 = d) = true from decide_eq_true rfl]
    have z : (lk.take n).find? (fun p => decide (p.1 = d)) = none := by
      rw [List.find?_eq_none]
      intro p hp
      simp [hd p (List.mem_of_mem_take hp)]
    rw [z]
    exact h.symm
  · rw [show decide ((d, u).1 = a) = false from decide_eq_false q]
    cases (lk.take n).find? (fun p => decide (p.1 = a)) with
    | none => exact e a (Ne.symm q)
    | some p => rfl
def Bs.push (B : Bs) (d : Addr) (u : HO) : Bs := ⟨B.h, (d, u) :: B.lk⟩
def lfp (f : C → C) (ρ : Rho) (fp : Nat → List Addr) : Nat → List Addr := fun i => keepF (f (cel ρ i)) (fp i)
theorem lfp_sub {f : C → C} {i : Nat} {a : Addr} (h : a ∈ lfp f ρ fp i) : a ∈ fp i := keepF_sub h
theorem env_lock {d : Addr} {u : HO} {od : Obj} (E : Env T H0 ρ σ H fp s) (hd : H d = some u) (hu : IsDct u) (nt : ¬ T.own d) (h0 : H0 d = none) (no : ∀ j, isOwn ρ j → d ∉ fp j) :
    Env T (H0.push d u) (ρ.map lckC) σ (upd H d (.frz od u)) (lfp lckC ρ fp) s := by
  have ndl : ∀ p ∈ H0.lk, p.1 ≠ d := fun p hp e => by
    obtain ⟨⟨o, q⟩, _⟩ := E.lkd p hp
    rw [e, hd] at q
    rcases hu with ⟨kvs, hu⟩ | ⟨kvs, hu⟩ <;> (rw [hu] at q; cases q)
  have tk : TK H (upd H d (.frz od u)) := tk_upd fun xs q => by
    rcases q with q | ⟨_, q⟩ <;> (rw [hd] at q; rcases hu with ⟨kvs, hu⟩ | ⟨kvs, hu⟩ <;> (rw [hu] at q; cases q))
  have up : ∀ n, undo ((d, u) :: H0.lk) (n + 1) (upd H d (.frz od u)) = undo H0.lk n H := fun n => undo_push n H _ ndl hd fun a ha => upd_ne ha
  refine ⟨by rw [List.length_map]; exact E.len, T.upd E.rel nt, fun a o n e => ?_, fun i => ?_, fun i j hij ho a ha hb => ?_, fun p hp => ?_⟩
  · have e : H0.h a = some o := e
    rw [upd_ne fun q => by rw [q, h0] at e; cases e]
    exact E.ex a o n e
  · have ok := E.ok i
    unfold lfp
    rw [cel_map rfl]
    cases q : cel ρ i with
    | no => rfl
    | im x =>
      rw [q] at ok
      obtain ⟨e, v, ev, r⟩ := ok
      exact ⟨e, v, ev, r.keep tk⟩
    | own m =>
      rw [q] at ok
      obtain ⟨⟨v, ev, r, pl⟩, nw⟩ := ok
      have ne : ∀ a ∈ fp i, upd H d (.frz od u) a = H a := fun a ha => upd_ne fun z => no i ⟨m, q⟩ (z ▸ ha)
      exact ⟨⟨v, ev, r.keep tk ne, pl.keep r ne⟩, nw⟩
    | frz l m =>
      rw [q] at ok
      cases l with
      | false => rfl
      | true =>
        obtain ⟨⟨v, ev, r⟩, nw⟩ := ok
        refine ⟨⟨v, ev, ?_⟩, fun a ha => ⟨(nw a ha).1, (nw a ha).2 rfl⟩⟩
        show RM (undo ((d, u) :: H0.lk) 1 _) m v (fp i)
        rw [up 0]
        exact r
    | src => rw [q] at ok; exact ok
    | lck n m =>
      rw [q] at ok
      obtain ⟨⟨v, ev, r⟩, nw⟩ := ok
      refine ⟨⟨v, ev, ?_⟩, nw⟩
      show RM (undo ((d, u) :: H0.lk) (n + 1) _) m v (fp i)
      rw [up n]
      exact r
  · exact E.sep i j hij (own_lck.mp ho) a (lfp_sub ha) (lfp_sub hb)
  · rcases List.mem_cons.mp hp with e | hp
    · subst e
      exact ⟨⟨od, upd_same⟩, nt, hu⟩
    · obtain ⟨⟨o, q⟩, h2⟩ := E.lkd p hp
      exact ⟨⟨o, by rw [upd_ne (ndl p hp)]; exact q⟩, h2⟩
theorem env_unlock {d : Addr} {u : HO} (E : Env T (H0.push d u) ρ σ H fp s) (h0 : H0 d = none) (ndl : ∀ p ∈ H0.lk, p.1 ≠ d) : Env T H0 (ρ.map unlC) σ (upd H d u) (lfp unlC ρ fp) s := by
  obtain ⟨⟨od, hd⟩, nt, hu⟩ := E.lkd (d, u) List.mem_cons_self
  have hd : H d = some (.frz od u) := hd
  have tk : TK H (upd H d u) := tk_upd fun xs q => by
    rcases q with q | ⟨_, q⟩
    · rw [hd] at q; cases q
    · rw [hd] at q
      rcases hu with ⟨kvs, hu⟩ | ⟨kvs, hu⟩ <;> (rw [show u = _ from hu] at q; cases q)
  have pl : ∀ {m : M} {v : V} {f : List Addr}, RM H m v f → ∀ a ∈ f, upd H d u a = H a := fun {m v f} r a ha => upd_ne fun z => by
    subst z
    exact r.plain a ha _ _ hd
  have up : ∀ n, undo ((d, u) :: H0.lk) (n + 1) H = undo H0.lk n (upd H d u) := fun n => undo_push n _ H ndl upd_same fun a ha => (upd_ne ha).symm
  refine ⟨by rw [List.length_map]; exact E.len, T.upd E.rel nt, fun a o n e => ?_, fun i => ?_, fun i j hij ho a ha hb => ?_, fun p hp => ?_⟩
  · rw [upd_ne fun q => by rw [q, h0] at e; cases e]
    exact E.ex a o n e
  · have ok := E.ok i
    unfold lfp
    rw [cel_map rfl]
    cases q : cel ρ i with
    | no => rfl
    | im x =>
      rw [q] at ok
      obtain ⟨e, v, ev, r⟩ := ok
      exact ⟨e, v, ev, r.keep tk⟩
    | own m =>
      rw [q] at ok
      obtain ⟨⟨v, ev, r, p⟩, nw⟩ := ok
      exact ⟨⟨v, ev, r.keep tk (pl r), p.keep r (pl r)⟩, nw⟩
    | frz l m =>
      rw [q] at ok
      obtain ⟨⟨v, ev, r⟩, nw⟩ := ok
      exact ⟨⟨v, ev, r.keep tk (pl r)⟩, nw⟩
    | src => rw [q] at ok; exact ok
    | lck n m =>
      rw [q] at ok
      obtain ⟨⟨v, ev, r⟩, nw⟩ := ok
      match n, r with
      | 0, _ => rfl
      | 1, r =>
        refine ⟨⟨v, ev, ?_⟩, fun a ha => ⟨(nw a ha).1, fun _ => (nw a ha).2⟩⟩
        have e : undo ((d, u) :: H0.lk) (0 + 1) H = upd H d u := up 0
        rw [← e]
        exact r
      | n + 2, r =>
        refine ⟨⟨v, ev, ?_⟩, nw⟩
        rw [← up (n + 1)]
        exact r
  · exact E.sep i j hij (own_unl.mp ho) a (lfp_sub ha) (lfp_sub hb)
  · obtain ⟨⟨o, q⟩, h2⟩ := E.lkd p (List.mem_cons_of_mem _ hp)
    exact ⟨⟨o, by rw [upd_ne (ndl p hp)]; exact q⟩, h2⟩
end
end Pl
end

section
set_option Elab.async false
set_option linter.all false
set_option maxRecDepth 100000
set_option maxHeartbeats 4000000
namespace Pl
open PySem PySem.Spec PyProof.Rows L2 StX

section
variable {S : Type} {X : Cx} {𝒯 : Fam S} {pos : Pos} {K : PySem.W.Frag}
variable {T : Vol S} {H0 : Bs} {H H' H1 H2 : Hp} {ρ ρ' ρ1 : Rho} {σ : L2.St} {fp fp' fp1 : Nat → List Addr} {s s' s1 : S}
variable {t : TS} {f : Fn S Out} {te td : TE} {fe : Fn S W} {wi : TI} {g : TG} {fg : D → Rho → Option Rho} {is : List Nat}

/-! ### where the walked dict stands -/
def DP (k : Nat) (td : TE) (sel : M → Option M) : Prop := ∀ (S : Type) (T : Vol S) (H0 : Bs) (ρ : Rho) (σ : L2.St) (H : Hp) (fp : Nat → List Addr) (s : S) (l : Bool) (m0 mm : M), Env T H0 ρ σ H fp s → cel ρ k = .frz l m0 → sel m0 = some mm →
  ∃ v g, RM H mm v g ∧ (∀ x ∈ g, x ∈ fp k) ∧ ∀ (Hl : Hp) (Q : VK), (∀ x, v = .ref x → ∀ y, y ≠ x → Hl y = H y) → (∃ x, v = .ref x ∧ x ∈ g) → Q v Hl → td σ Hl Q
theorem dp_var {k : Nat} : DP k (tVar k) (fun m => some m) := by
  intro S T H0 ρ σ H fp s l m0 mm E hc e
  injection e with e
  subst e
  have ok := E.ok k
  rw [hc] at ok
  obtain ⟨⟨v, ev, r⟩, _⟩ := ok
  exact ⟨v, fp k, r, fun _ z => z, fun Hl Q _ _ q => ⟨v, ev, q⟩⟩
def selIx (n : Nat) (m : M) : Option M := match m with
  | .lst ms => ms[n]?
  | _ => none
theorem dp_ix {k n : Nat} : DP k (tOp (rIx K) (tVar k) (tC (.int (n : Nat)))) (selIx n) := by
  intro S T H0 ρ σ H fp s l m0 mm E hc e
  have ok := E.ok k
  rw [hc] at ok
  obtain ⟨⟨v, ev, r⟩, _⟩ := ok
  cases m0 with
  | lst ms =>
    obtain ⟨a, vs, f, rfl, ha, rr, na, ef⟩ := r.inv_lst
    have e : ms[n]? = some mm := e
    obtain ⟨w, g, hw, rw', sub⟩ := rr.get e
    refine ⟨w, g, rw', fun x hx => by rw [ef]; exact List.mem_cons_of_mem _ (sub x hx), fun Hl Q hl ⟨x, ex, hx⟩ q => ⟨.ref a, ev, ?_⟩⟩
    refine .inl ⟨a, vs, (n : Nat), w, rfl, rfl, .of ?_, ?_, q⟩
    · rw [hl x ex a fun z => na (sub a (by rw [z]; exact hx))]
      exact ha
    · have hlt : n < vs.length := by
        rcases Nat.lt_or_ge n vs.length with h | h
        · exact h
        · rw [List.getElem?_eq_none h] at hw
          cases hw
      refine atI_mk (j := n) ?_ hw
      unfold ixN
      rw [if_pos (by omega), if_pos (by omega)]
      simp
  | _ => cases e
/-- the outcome behind the walk -/
def unlO : Out → Option Out
  | .nx ρ => some (.nx (ρ.map unlC))
  | _ => none
theorem frm_lock {d : Addr} {u : HO} {od : Obj} {Hl : Hp} {fpl : Nat → List Addr} (E : Env T H0 ρ σ H fp s) (hd : H d = some u) (no : ∀ j, isOwn ρ j → d ∉ fp j) (nd : ¬ T.own d)
    (F : Frm T (ρ.map lckC) ρ1 (upd H d (.frz od u)) Hl (lfp lckC ρ fp) fpl) : Frm T ρ (ρ1.map unlC) H (upd Hl d u) fp (lfp unlC ρ1 fpl) where
  keep := fun a o e n h => by
    by_cases z : a = d
    · subst z
      rw [hd] at e
      cases e
      exact upd_same
    · rw [upd_ne z]
      exact F.keep a o (by rw [upd_ne z]; exact e) n fun i hi hm => h i (own_lck.mp hi) (lfp_sub hm)
  anew := fun i hi a ha => by
    rcases F.anew i (own_unl.mp hi) a (lfp_sub ha) with ⟨j, hj, hm⟩ | e
    · exact .inl ⟨j, own_lck.mp hj, lfp_sub hm⟩
    · right
      by_cases z : a = d
      · rw [z, upd_same] at e
        cases e
      · rw [upd_ne z] at e
        exact e
theorem out_unlock {d : Addr} {u : HO} {od : Obj} {o1 o : Out} {D : Ends} (E : Env T H0 ρ σ H fp s) (hd : H d = some u) (hu : IsDct u) (no : ∀ j, isOwn ρ j → d ∉ fp j) (nd : ¬ T.own d) (h0 : H0 d = none) (eo : unlO o1 = some o) (k : OutP T H0 ρ H fp D s' o) :
    OutP T (H0.push d u) (ρ.map lckC) (upd H d (.frz od u)) (lfp lckC ρ fp)
      ⟨fun σ' H' => H' d = some (.frz od u) ∧ D.nx σ' (upd H' d u), fun v H' => H' d = some (.frz od u) ∧ D.rt v (upd H' d u), fun σ' H' => H' d = some (.frz od u) ∧ D.bk σ' (upd H' d u), fun σ' H' => H' d = some (.frz od u) ∧ D.ct σ' (upd H' d u)⟩ s' o1 := by
  have ndl : ∀ p ∈ H0.lk, p.1 ≠ d := fun p hp e => by
    obtain ⟨⟨o, q⟩, _⟩ := E.lkd p hp
    rw [e, hd] at q
    rcases hu with ⟨kvs, hu⟩ | ⟨kvs, hu⟩ <;> (rw [hu] at q; cases q)
  have nol : ∀ i, isOwn (ρ.map lckC) i → d ∉ lfp lckC ρ fp i := fun i hi hm => no i (own_lck.mp hi) (lfp_sub hm)
  cases o1 with
  | nx ρ1 =>
    injection eo with eo
    subst eo
    intro σl Hl fpl El Fl
    refine ⟨Fl.keep d _ upd_same nd nol, ?_⟩
    exact k σl _ _ (env_unlock El h0 ndl) (frm_lock E hd no nd Fl)
  | rt m => cases eo
  | bk ρ1 => cases eo
  | ct ρ1 => cases eo
def kD : L2.Key → D
  | .inl i => .int i
  | .inr x => .str x
theorem ri_key {k : L2.Key} : RI H (kD k) (kV k) := by
  cases k with
  | inl i => exact .int i
  | inr x => exact .str x
theorem ris_keys : ∀ (ks : List L2.Key), RIs H (ks.map kD) (ks.map kV)
  | [] => .nil
  | k :: ks => .cons ri_key (ris_keys ks)
def keysT (r : List (List L2.Key × D)) : List D := r.map fun p => .tup (p.1.map kD)
def itsT (r : List (List L2.Key × D)) : List D := r.map fun p => .tup [.tup (p.1.map kD), p.2]
def theT : M → Option (List (List L2.Key × D))
  | .dt l => dof l
  | _ => none
def locM (ρ : Rho) (k : Nat) : Option M := match cel ρ k with
  | .frz true m => some m
  | _ => none
def fForD (k : Nat) (sel : M → Option M) (ky : List (List L2.Key × D) → List D) (fg : D → Rho → Option Rho) (f : Fn S Out) : Fn S Out := fun ρ s =>
  match ((locM (frz1 (some k) ρ) k).bind sel).bind theT with
  | none => none
  | some r => bnd (forL fg f (ky r) ((frz1 (some k) ρ).map lckC) s) fun o s1 => lft (unlO o) s1 fun o => o
/-- the walks of keys and of pairs -/
def KW (wi : TE → TI) (ky : List (List L2.Key × D) → List D) : Prop := ∀ (td : TE) (σ : L2.St) (H : Hp) (R : It → Hp → Prop) (d : Addr) (od : Obj) (kvs : List (List L2.Key × V)) (r : List (List L2.Key × D)),
  H d = some (.frz od (.dT kvs)) → RKV H r kvs → (∀ Q : VK, Q (.ref d) H → td σ H Q) →
  (∀ J (G : Hp → Prop) Y, Walk J (ky r).length G Y → (∀ Hi, Hi d = some (.frz od (.dT kvs)) → G Hi) → (∀ i z, (ky r)[i]? = some z → ∀ Ha x Hb, TK H Ha → Y i Ha x Hb → ExN Ha Hb ∧ RI Hb z x) → R J H) → wi td σ H R
theorem RKV.at' {l : List (List L2.Key × D)} {kvs : List (List L2.Key × V)} (h : RKV H l kvs) : ∀ {i : Nat} {p : List L2.Key × D}, l[i]? = some p → ∃ v, kvs[i]? = some (p.1, v) ∧ RI H p.2 v := by
  induction h with
  | nil => intro i p e; simp at e
  | @cons k d v l r rd _ ih =>
    intro i p e
    cases i with
    | zero =>
      simp at e
      subst e
      exact ⟨v, rfl, rd⟩
    | succ i => exact ih (by simpa using e)
theorem kw_keys : KW iKeys keysT := by
  intro td σ H R d od kvs r hd rk ht k
  refine ht _ ⟨d, od, rfl, .inr ⟨kvs, hd, ?_⟩⟩
  have wk := walk_keysT (d := d) (o := od) (kvs := kvs)
  have el : kvs.length = (keysT r).length := by rw [rk.length]; simp [keysT]
  rw [el] at wk
  refine k _ _ _ wk (fun _ h => h) fun i z hz Ha x Hb t y => ?_
  obtain ⟨e, ks, v, q, h1, rfl, h2⟩ := y
  subst e
  unfold keysT at hz
  rw [List.getElem?_map] at hz
  obtain ⟨p, h3, rfl⟩ := map_some hz
  obtain ⟨v', h4, _⟩ := rk.at' h3
  rw [h4] at h1
  cases h1
  exact ⟨.inl rfl, .tup h2 (ris_keys _)⟩
theorem walk_itT {d : Addr} {o : Obj} {kvs : List (List L2.Key × V)} : Walk (Itit d o kvs) kvs.length (fun H => H d = some (.frz o (.dT kvs))) (Itit d o kvs).yld :=
  ⟨fun _ _ hi q => ⟨q, hi⟩, fun _ q => ⟨q, Nat.le_refl _⟩, fun _ _ _ _ _ _ y => y⟩
theorem kw_its : KW iItT itsT := by
  intro td σ H R d od kvs r hd rk ht k
  refine ht _ ⟨d, od, kvs, rfl, hd, ?_⟩
  have wk := walk_itT (d := d) (o := od) (kvs := kvs)
  have el : kvs.length = (itsT r).length := by rw [rk.length]; simp [itsT]
  have wk : Walk (Itit d od kvs) (itsT r).length (fun H => H d = some (.frz od (.dT kvs))) (Itit d od kvs).yld := by rw [← el]; exact wk
  refine k _ _ _ wk (fun _ h => h) fun i z hz Ha x Hb t y => ?_
  obtain ⟨p, ks, v, q, h1, rfl, hp, hq, rfl⟩ := y
  unfold itsT at hz
  rw [List.getElem?_map] at hz
  obtain ⟨pr, h3, rfl⟩ := map_some hz
  obtain ⟨v', h4, rv⟩ := rk.at' h3
  rw [h4] at h1
  cases h1
  have tn := new_tk (o := .tup [.ref q, v]) hp
  exact ⟨.inr ⟨p, _, hp, rfl⟩, .tup upd_same (.cons (.tup (tn.t hq) (ris_keys _)) (.cons ((rv.keep t).keep tn) .nil))⟩
theorem ds_forD {k : Nat} {sel : M → Option M} {ky : List (List L2.Key × D) → List D} {wi : TE → TI} (hp : DP k td sel) (hw : KW wi ky) (hg : DG is g fg) (hb : DS 𝒯 t f) : DS 𝒯 (tLock (tFor (wi td) g t)) (fForD k sel ky fg f) := by
  intro T hT H0 ρ σ H fp s D o s' E e0 kk
  unfold fForD at e0
  obtain ⟨fp0, E0, F0⟩ := env_frz (z := some k) E
  have kk : OutP T H0 (frz1 (some k) ρ) H fp0 D s' o := OutP.mono E.rel E0.rel F0 kk
  clear F0 E
  generalize frz1 (some k) ρ = ρ0 at *
  cases q : ((locM ρ0 k).bind sel).bind theT with
  | none => rw [q] at e0; cases e0
  | some r =>
    rw [q] at e0
    obtain ⟨o1, s1, e1, e2⟩ := bnd_of e0
    obtain ⟨o2, e3, e4, rfl⟩ := lft_of e2
    have e4 : o = o2 := e4
    subst e4
    obtain ⟨mm, q1, q2⟩ := bind_of q
    obtain ⟨m0, q3, q4⟩ := bind_of q1
    have hc : cel ρ0 k = .frz true m0 := by
      unfold locM at q3
      split at q3
      · rename_i m h
        injection q3 with q3
        rw [h, q3]
      · cases q3
    obtain ⟨v, gd, rm, sub, run⟩ := hp S T H0 ρ0 σ H fp0 s true m0 mm E0 hc q4
    cases mm with
    | dt l =>
      have el := dof_eq (show dof l = some r from q2)
      subst el
      obtain ⟨d, kvs, fd, rfl, hd, ek, rr, _, ef⟩ := rm.inv_dt
      obtain ⟨rk, _⟩ := rkv_of ek rr
      have dk : d ∈ fp0 k := sub d (by rw [ef]; exact List.mem_cons_self)
      have okk := E0.ok k
      rw [hc] at okk
      obtain ⟨_, nw⟩ := okk
      have nt : ¬ T.own d := (nw d dk).1
      have h0 : H0 d = none := (nw d dk).2 rfl
      have no : ∀ j, isOwn ρ0 j → d ∉ fp0 j := fun j hj hm => by
        by_cases e : j = k
        · subst e
          exact isOwn_frz hc hj
        · exact E0.sep j k e hj d hm dk
      refine ⟨d, .dT kvs, hd, True.intro, fun od => ?_⟩
      have El := env_lock (od := od) E0 hd (.inr ⟨kvs, rfl⟩) nt h0 no
      have kl := out_unlock (od := od) E0 hd (.inr ⟨kvs, rfl⟩) no nt h0 e3 kk
      have tk : TK H (upd H d (.frz od (.dT kvs))) := tk_upd fun xs z => by rcases z with z | ⟨_, z⟩ <;> (rw [hd] at z; cases z)
      refine hw td σ _ _ d od kvs r upd_same (rk.keep tk) (fun Q hq => run _ Q (fun x ex y hy => ?_) ⟨d, rfl, by rw [ef]; exact List.mem_cons_self⟩ hq) fun J G Y wk hG item => ?_
      · cases ex
        exact upd_ne hy
      · have nol : ∀ i, isOwn (ρ0.map lckC) i → d ∉ lfp lckC ρ0 fp0 i := fun i hi hm => no i (own_lck.mp hi) (lfp_sub hm)
        exact for_core (fp := lfp lckC ρ0 fp0) hT wk El (fun Hi ρi fpi Fi _ => hG Hi (Fi.keep d _ upd_same nt nol)) item hg hb e1 kl
    | im _ => cases q2
    | lst _ => cases q2
    | mtp _ => cases q2
    | dk _ => cases q2
theorem s_forD {k : Nat} {sel : M → Option M} {ky : List (List L2.Key × D) → List D} {wi : TE → TI} {st : Stmt} {body : List Stmt} (h : PSs X body t → PS X st (tFor (wi td) g t)) (hp : DP k td sel) (hw : KW wi ky) (hg : DG is g fg) (hb : PDB X 𝒯 body t f) : PDS X 𝒯 st (tLock (tFor (wi td) g t)) (fForD k sel ky fg f) := ⟨ps_lock (h hb.pe), ds_forD hp hw hg hb.de⟩
end
end Pl
end

section
set_option Elab.async false
set_option linter.all false
set_option maxRecDepth 100000
set_option maxHeartbeats 4000000
namespace Pl
open PySem PySem.Spec PyProof.Rows L2 StX

section
variable {S : Type} {X : Cx} {𝒯 : Fam S} {pos : Pos} {K : PySem.W.Frag}
variable {T : Vol S} {H0 : Bs} {H H' H1 H2 : Hp} {ρ ρ' ρ1 : Rho} {σ : L2.St} {fp fp' fp1 : Nat → List Addr} {s s' s1 : S}
variable {t : TS} {f : Fn S Out} {te td : TE} {fe : Fn S W}

/-! ### x = [y] + x -/
theorem env_drop {j : Nat} (E : Env T H0 ρ σ H fp s) : Env T H0 (ρ.set j .no) σ H (fpu fp j []) s := by
  refine ⟨by rw [List.length_set, E.len], E.rel, E.ex, fun k => ?_, fun a b hab ho x hx hy => ?_, E.lkd⟩
  · by_cases e : k = j
    · subst e
      unfold fpu
      rw [if_pos rfl]
      by_cases hk : k < ρ.length
      · rw [cel_set_self hk]
        rfl
      · rw [List.set_eq_of_length_le (by omega)]
        unfold cel
        rw [List.getElem?_eq_none (by omega)]
        rfl
    · rw [cel_set_ne e]
      unfold fpu
      rw [if_neg e]
      exact E.ok k
  · have sub : ∀ k y, y ∈ fpu fp j [] k → y ∈ fp k ∧ k ≠ j := fun k y hy => by
      unfold fpu at hy
      by_cases e : k = j
      · rw [if_pos e] at hy; cases hy
      · rw [if_neg e] at hy
        exact ⟨hy, e⟩
    obtain ⟨h1, h2⟩ := sub a x hx
    exact E.sep a b hab (isOwn_set ho h2) x h1 (sub b x hy).1
def consC (ρ : Rho) (i j : Nat) : Option Rho := match cel ρ j, cel ρ i with
  | .own m, .frz true (.lst ms) => if szOk (ms.length + 1) = true ∧ i ≠ j then some ((ρ.set j .no).set i (.frz true (.lst (m :: ms)))) else none
  | _, _ => none
def fConsMv (i j : Nat) : Fn S Out := fun ρ s => lft (consC ρ i j) s Out.nx
theorem lt_cel {i : Nat} (h : cel ρ i ≠ .no) : i < ρ.length := by
  by_cases hi : i < ρ.length
  · exact hi
  · exfalso
    apply h
    unfold cel
    rw [List.getElem?_eq_none (by omega)]
    rfl
theorem ds_consMv {i j : Nat} : DS 𝒯 (tAsg (tOp rCat (tLst (tCons (tVar j) tNil)) (tVar i)) (gName i)) (fConsMv i j : Fn S Out) := by
  intro T hT H0 ρ σ H fp s D o s' E e0 k
  obtain ⟨ρ', e1, rfl, rfl⟩ := lft_of e0
  unfold consC at e1
  split at e1
  · rename_i m ms hj hi
    by_cases c : szOk (ms.length + 1) = true ∧ i ≠ j
    · rw [if_pos c] at e1
      injection e1 with e1
      subst e1
      obtain ⟨hz, hij⟩ := c
      have okj := E.ok j
      rw [hj] at okj
      obtain ⟨⟨vj, evj, rj, plj⟩, nj⟩ := okj
      have oki := E.ok i
      rw [hi] at oki
      obtain ⟨⟨vi, evi, ri⟩, ni⟩ := oki
      obtain ⟨l, vs, f, rfl, hl, rr, nl, ef⟩ := ri.inv_lst
      have lti : i < ρ.length := lt_cel (by rw [hi]; exact fun z => nomatch z)
      refine ⟨vj, evj, by show 1 ≤ sizeLine; decide, fun p hp => ⟨.ref l, evi, ?_⟩⟩
      have npl : p ≠ l := fun z => by rw [z, hl] at hp; cases hp
      refine ⟨p, l, [vj], vs, rfl, rfl, upd_same, by rw [upd_ne (Ne.symm npl)]; exact hl, by
        have := rr.length
        have := szOk_le hz
        simp only [List.length_cons, List.length_nil]
        omega, fun q hq => ?_⟩
      obtain ⟨x1, r1⟩ := newly (o := .lst [vj]) E hp
      have E1 := E.step x1 r1
      obtain ⟨x2, r2⟩ := newly (o := .lst (vj :: vs)) E1 hq
      have E2 := E1.step x2 r2
      have hqH : H q = none := x1.back E.rel hq r1
      have xx := x1.trans x2
      have kj := E.kept xx j
      have ki := E.kept xx i
      have tk := xx.tk E.rel
      have E3 := env_drop (j := j) E2
      have nqf : ∀ k, q ∉ fp k := fun k => fp_fresh E hqH k
      have rms : RMs (upd (upd H p (.lst [vj])) q (.lst (vj :: vs))) (m :: ms) (vj :: vs) (fp j ++ f) := .cons' (rj.keep tk kj) (rr.keep tk fun a ha => ki a (by rw [ef]; exact List.mem_cons_of_mem _ ha)) (fun a ha hb => E.sep j i (Ne.symm hij) ⟨m, hj⟩ a ha (by rw [ef]; exact List.mem_cons_of_mem _ hb)) rfl
      have subI : ∀ a ∈ f, a ∈ fp i := fun a ha => by rw [ef]; exact List.mem_cons_of_mem _ ha
      have rml : RM (upd (upd H p (.lst [vj])) q (.lst (vj :: vs))) (.lst (m :: ms)) (.ref q) (q :: (fp j ++ f)) := .lst upd_same rms fun z => by
        rcases List.mem_append.mp z with z | z
        · exact nqf j z
        · exact nqf i (subI q z)
      have ok : CellOk T H0 (upd (upd H p (.lst [vj])) q (.lst (vj :: vs))) (.frz true (.lst (m :: ms))) (some (some (.ref q))) (q :: (fp j ++ f)) := by
        refine ⟨⟨_, rfl, rml⟩, fun a ha => ?_⟩
        rcases List.mem_cons.mp ha with z | ha
        · rw [z]
          exact ⟨T.new E.rel hqH, fun _ => E.fr0 hqH⟩
        · rcases List.mem_append.mp ha with z | z
          · exact ⟨(nj a z).2, fun _ => (nj a z).1⟩
          · exact ni a (subI a z)
      have E4 := env_cell (i := i) E3 ok (fun k hk ho a ha hg => ?_) (fun ⟨_, e⟩ => by cases e) (by rw [List.length_set]; exact lti)
      · refine k _ _ _ E4 ⟨fun a u e n _ => xx a u n e, fun n hn a ha => ?_⟩
        unfold fpu at ha
        by_cases e : n = i
        · subst e
          obtain ⟨m', z⟩ := hn
          rw [cel_set_self (by rw [List.length_set]; exact lti)] at z
          cases z
        · rw [if_neg e] at ha
          by_cases e2 : n = j
          · rw [if_pos e2] at ha; cases ha
          · rw [if_neg e2] at ha
            exact .inl ⟨n, isOwn_set (isOwn_set hn e) e2, ha⟩
      · unfold fpu at ha
        by_cases e : k = j
        · rw [if_pos e] at ha; cases ha
        · rw [if_neg e] at ha
          have ho' := isOwn_set ho e
          rcases List.mem_cons.mp hg with z | hg
          · exact nqf k (z ▸ ha)
          · rcases List.mem_append.mp hg with z | z
            · exact E.sep k j e ho' a ha z
            · exact E.sep k i hk ho' a ha (subI a z)
    · rw [if_neg c] at e1
      cases e1
  · cases e1
theorem s_consMv {i j : Nat} {st : Stmt} (hp : PS X st (tAsg (tOp rCat (tLst (tCons (tVar j) tNil)) (tVar i)) (gName i))) : PDS X 𝒯 st (tAsg (tOp rCat (tLst (tCons (tVar j) tNil)) (tVar i)) (gName i)) (fConsMv i j : Fn S Out) := ⟨hp, ds_consMv⟩

/-! ### xs[::-1] -/
def revW (w : W) : Option W := if isLst w = true then (seqD w).map fun ds => .new (.lst (ds.reverse.map M.im)) else none
def fRevL (fe : Fn S W) : Fn S W := fun ρ s => bnd (fe ρ s) fun w s1 => lft (revW w) s1 fun w => w
theorem RIs.reverse {H : Hp} {ds : List D} {vs : List V} (h : RIs H ds vs) : RIs H ds.reverse vs.reverse := by
  have go : ∀ {ds : List D} {vs : List V} {es : List D} {ws : List V}, RIs H ds vs → RIs H es ws → RIs H (ds.reverseAux es) (vs.reverseAux ws) := by
    intro ds
    induction ds with
    | nil =>
      intro vs es ws h k
      cases h
      exact k
    | cons d ds ih =>
      intro vs es ws h k
      cases h with
      | cons r rr =>
        have z := ih rr (RIs.cons r k)
        exact z
  exact go h .nil
theorem de_revL (h : DE 𝒯 te fe) : DE 𝒯 (tRevL K te) (fRevL fe) := by
  intro T hT H0 ρ σ H fp s Q w s' E e0 k
  obtain ⟨x, s1, e1, e2⟩ := bnd_of e0
  obtain ⟨w', e3, e4, rfl⟩ := lft_of e2
  have e4 : w = w' := e4
  subst e4
  refine h T hT H0 ρ σ H fp s _ x _ E e1 fun v H1 g xx r ok => ?_
  unfold revW at e3
  by_cases hl : isLst x = true
  · rw [if_pos hl] at e3
    obtain ⟨ds, q, rfl⟩ := map_some e3
    obtain ⟨a, xs, rfl, ha, rr⟩ := seqL_ok ok hl q
    refine ⟨a, xs, rfl, .of ha, fun p hp => ?_⟩
    obtain ⟨x1, r1⟩ := newly (o := .lst xs.reverse) (E.step xx r) hp
    exact k _ _ [p] (xx.trans x1) r1 (new_ims hp (xx.back E.rel hp r) rr.reverse)
  · rw [if_neg hl] at e3
    cases e3
end
end Pl
end

section
set_option Elab.async false
set_option linter.all false
set_option maxRecDepth 100000
set_option maxHeartbeats 4000000
namespace Pl
open PySem PySem.Spec PyProof.Rows L2 StX

/-! ### a def's promise: what it gives, by its arguments, all else kept -/
def Keeps (H H' : Hp) : Prop := ∀ a o, H a = some o → H' a = some o
def spG (P : Nat) (g : List M → Option M) : Sp := fun vs H Q _ => ∃ ms m, vs.length = P ∧ AllRM H ms vs ∧ g ms = some m ∧ ∀ v H' f, Keeps H H' → RM H' m v f → Pln H' m v → (∀ a ∈ f, H a = none) → Q v H'
/-- the cells at a def's start -/
def parC : M → C
  | .im d => .im d
  | m => .frz false m
def rho0 (n : Nat) (ms : List M) : Rho := ms.map parC ++ List.replicate (n - ms.length) .no
/-- what the body gives -/
def outM : Option (Out × Unit) → Option M
  | some (.rt m, _) => some m
  | some (.nx _, _) => some (.im .non)
  | _ => none
def runF (n : Nat) (f : Fn Unit Out) (ms : List M) : Option M := outM (f (rho0 n ms) ())
section
variable {H : Hp}
theorem par_ok {m : M} {v : V} {f : List Addr} (r : RM H m v f) : ∃ g, CellOk Vol.nil ⟨H, []⟩ H (parC m) (some (some v)) g := by
  cases m with
  | im d =>
    obtain ⟨_, q⟩ := r.inv_im
    exact ⟨[], rfl, v, rfl, q⟩
  | lst x => exact ⟨f, ⟨v, rfl, r⟩, fun a _ => ⟨fun z => z, fun z => nomatch z⟩⟩
  | mtp x => exact ⟨f, ⟨v, rfl, r⟩, fun a _ => ⟨fun z => z, fun z => nomatch z⟩⟩
  | dk x => exact ⟨f, ⟨v, rfl, r⟩, fun a _ => ⟨fun z => z, fun z => nomatch z⟩⟩
  | dt x => exact ⟨f, ⟨v, rfl, r⟩, fun a _ => ⟨fun z => z, fun z => nomatch z⟩⟩
theorem AllRM.get {ms : List M} {vs : List V} (h : AllRM H ms vs) : ∀ {i : Nat} {m : M}, ms[i]? = some m → ∃ v f, vs[i]? = some v ∧ RM H m v f := by
  induction h with
  | nil => intro i m e; simp at e
  | cons r _ ih =>
    intro i m e
    cases i with
    | zero =>
      simp at e
      subst e
      exact ⟨_, _, rfl, r⟩
    | succ i => exact ih (by simpa using e)
theorem parC_own {m : M} {x : M} : parC m ≠ .own x := by
  cases m <;> exact fun z => nomatch z
theorem rho0_cel {n : Nat} {ms : List M} {i : Nat} : cel (rho0 n ms) i = match ms[i]? with
    | some m => parC m
    | none => .no := by
  unfold rho0 cel
  by_cases hi : i < ms.length
  · rw [List.getElem?_append_left (by rw [List.length_map]; exact hi), List.getElem?_map]
    rw [List.getElem?_eq_getElem hi]
    rfl
  · rw [List.getElem?_append_right (by rw [List.length_map]; omega), List.getElem?_eq_none (by omega : ms.length ≤ i)]
    rw [List.getElem?_replicate]
    split <;> rfl
theorem env_start {N : List Str} {ms : List M} {vs : List V} (h : AllRM H ms vs) : ∃ fp, Env Vol.nil ⟨H, []⟩ (rho0 N.length ms) (L2.start N vs) H fp () := by
  have ok : ∀ i, ∃ g, CellOk Vol.nil ⟨H, []⟩ H (cel (rho0 N.length ms) i) ((L2.start N vs)[i]?) g := fun i => by
    rw [rho0_cel]
    cases q : ms[i]? with
    | none => exact ⟨[], rfl⟩
    | some m =>
      obtain ⟨v, f, e, r⟩ := h.get q
      have e2 : (L2.start N vs)[i]? = some (some v) := by
        unfold L2.start
        have hl : i < vs.length := by
          rcases Nat.lt_or_ge i vs.length with z | z
          · exact z
          · rw [List.getElem?_eq_none z] at e
            cases e
        rw [List.getElem?_append_left (by rw [List.length_map]; exact hl), List.getElem?_map, e]
        rfl
      rw [e2]
      exact par_ok r
  refine ⟨fun i => Classical.choose (ok i), ?_, True.intro, fun a o _ e => e, fun i => Classical.choose_spec (ok i), fun i j _ ho => ?_, fun p hp => by cases hp⟩
  · unfold L2.start rho0
    rw [List.length_append, List.length_append, List.length_map, List.length_map, List.length_replicate, List.length_replicate, h.length]
  · obtain ⟨m, e⟩ := ho
    rw [rho0_cel] at e
    cases q : ms[i]? with
    | none => rw [q] at e; cases e
    | some m' => rw [q] at e; exact absurd e parC_own
end
theorem keeps_nil {H H' : Hp} (x : ExV Vol.nil H H') : Keeps H H' := fun a o e => x a o (fun z => z) e
section
variable {P : Program} {w : World} {K : PySem.W.Frag} {mg : Str → Option Value} {base : Heap}
/-- a def, by its body's derivation -/
theorem ok_def {x qual : Str} {st : Stmt} {f : Addr} {fd : FuncData} {N ps : List Str} {k : Nat} {fn : Fn Unit Out} {n np : Nat} (F : Fun K x qual st f fd) (S : FnScope N ps (defScope st)) (hn : N.length = n) (hp : ps.length = np)
    (body : ∀ (cdv : Value) (A : Around) (outer : List PySem.Env) (s : Shared) (H : Hp) (E : XK), Room k (A.deeper (envOfC qual (defScope st) s.heap.objs.size f cdv)) →
      ∃ t, PDB (cxOf CX0 P w K mg base N qual (defScope st) f cdv A outer s H E).nox Fam.nil (defBody st) t fn) : FnOk P w K mg base CX0 (k + 1) f fd ps (spG np (runF n fn)) := by
  subst hn
  subst hp
  refine F.ok S (fun vs H Q E h => ?_) (fun cdv A outer s H vs Q E hr h => ?_)
  · obtain ⟨ms, m, hl, _⟩ := h
    exact hl
  · obtain ⟨ms, m, hl, hm, hg, q⟩ := h
    obtain ⟨t, pd⟩ := body cdv A outer s H E hr
    refine ⟨t, pd.pe, ?_⟩
    obtain ⟨fp, E0⟩ := env_start (N := N) hm
    unfold runF at hg
    cases e : fn (rho0 N.length ms) () with
    | none => rw [e] at hg; cases hg
    | some r =>
      obtain ⟨o, u⟩ := r
      rw [e] at hg
      refine pd.de Vol.nil rfl ⟨H, []⟩ _ _ H fp () _ o u E0 e ?_
      cases o with
      | rt m' =>
        injection hg with hg
        subst hg
        exact fun v H' g x _ _ rm pl fr => q v H' g (keeps_nil x) rm pl fr
      | nx ρ' =>
        injection hg with hg
        subst hg
        exact fun σ' H' fp' E' _ => q .non H' [] (fun a o e => E'.ex a o (fun z => z) e) (.im .non) True.intro (fun _ z => by cases z)
      | bk ρ' => cases hg
      | ct ρ' => cases hg
end
section
variable {S : Type} {X : Cx} {𝒯 : Fam S} {pos : Pos} {es : List Expr} {ts : TA} {fs : Fn S (List W)} {E : XK}
/-! ### calls of such defs -/
def fCall (np : Nat) (g : List M → Option M) (fs : Fn S (List W)) : Fn S W := fun ρ s => bnd (fs ρ s) fun ws s1 => if ws.length = np then lft ((args ws).bind g) s1 ofM else none
theorem de_call {np : Nat} {g : List M → Option M} (h : DA 𝒯 ts fs) : DE 𝒯 (tCall (spG np g) [] E ts) (fCall np g fs) := by
  intro T hT H0 ρ σ H fp s Q w s' E0 e0 k
  obtain ⟨ws, s1, e1, e2⟩ := bnd_of e0
  by_cases hl : ws.length = np
  · rw [if_pos hl] at e2
    obtain ⟨m, e3, rfl, rfl⟩ := lft_of e2
    obtain ⟨ms, e4, e5⟩ := bind_of e3
    refine h T hT H0 ρ σ H fp s _ ws _ E0 e1 fun vs H1 G x r oks => ?_
    refine ⟨ms, m, by rw [List.append_nil, oks.length]; exact hl, by rw [List.append_nil]; exact args_ok oks e4, e5, fun v H' f kp rm pl fr => ?_⟩
    have r' : T.rel s' H' := T.loc (fun a ha => by
      obtain ⟨o, q, _⟩ := T.at_ r ha
      rw [q]
      exact kp a o q) r
    have x2 : ExV T H1 H' := fun a o _ q => kp a o q
    exact k v H' f (x.trans x2) r' (ofM_ok rm (fun a ha => x.back E0.rel (fr a ha) r) pl)
  · rw [if_neg hl] at e2
    cases e2
theorem d_call {np : Nat} {g : List M → Option M} {e : Expr} {x : Str} {p : Pos} (hp : PA X (e :: es) ts → PE X (.Call (.Name x p) (e :: es) [] pos) (tCall (spG np g) [] E ts)) (h : PDA X 𝒯 (e :: es) ts fs) : PD X 𝒯 (.Call (.Name x p) (e :: es) [] pos) (tCall (spG np g) [] E ts) (fCall np g fs) := ⟨hp h.pe, de_call h.de⟩
end
end Pl
end

section
set_option Elab.async false
set_option linter.all false
set_option maxRecDepth 100000
set_option maxHeartbeats 4000000
namespace Pl
open PySem PySem.Spec PyProof.Rows L2 StX

/-! ### a context's facts; the rules as a text uses them -/
structure Bl (mg : Str → Option Value) : Prop where
  len : mg "len" = none
  sorted : mg "sorted" = none
  tuple : mg "tuple" = none
  sum : mg "sum" = none
  min : mg "min" = none
  max : mg "max" = none
  all : mg "all" = none
  abs : mg "abs" = none
  int : mg "int" = none
  bool : mg "bool" = none
  str : mg "str" = none
  set : mg "set" = none
  list : mg "list" = none
  repr : mg "repr" = none
  range : mg "range" = none
  enumerate : mg "enumerate" = none
  reversed : mg "reversed" = none
  isinstance : mg "isinstance" = none
class Fx (X : Cx) (K : outParam PySem.W.Frag) : Prop where
  hK : X.K = K
  calm : X.calm = true
  hu : X.A.units + 65 < cLine
  nd : X.N.Nodup
  bl : Bl X.mg
section
variable {S : Type} {X : Cx} {K : PySem.W.Frag} {𝒯 : Fam S} {pos p p2 : Pos} {e e2 : Expr} {es : List Expr} {te t2 : TE} {ts : TA} {f f2 : Fn S W} {fs : Fn S (List W)}
instance Fx.blk {s : Shared} {H : Hp} {sc : Scope} {en : PySem.Env} {fp : List Addr} [F : Fx X K] : Fx (X.blk s H sc en fp) K := ⟨F.hK, F.calm, F.hu, F.nd, F.bl⟩
theorem g_nm {i : Nat} {x : Str} [F : Fx X K] (hi : X.N[i]? = some x) (hx : Loc X.env.scope x := by first | exact .inl rfl | exact .inr rfl) (hf : X.fn x = true ∨ X.env.scope.names.lookup x = some .local := by first | exact .inl rfl | exact .inr rfl) : PG X (.Name x pos) (gName i) := pg_name F.nd hi hx hf
theorem g_tup {es : List Expr} {k n : Nat} {t : TGs} [F : Fx X K] (h : PGs X es t) (hn : (assignEach es X.env).length = n := by rfl) (hst : (assignEach es X.env).findIdx? (·.1) = none := by rfl) : PG X (.Tuple es k pos) (gTup K n t) := by
  obtain rfl := F.hK
  exact pg_tup F.calm h hn hst
theorem r_len [F : Fx X K] (h : PDA X 𝒯 [e] ts fs) (hg : Gl X "len" := by rfl) (he : starEach [e] X.env = (false, eval e X.env) :: starEach [] X.env := by rfl) (hpl : (backTo pos (starEach [] X.env)).any (·.1) = false := by rfl) :
    PD X 𝒯 (.Call (.Name "len" p) [e] [] pos) (tCB (rLen K) ts) (fCal oLen fs) := by
  obtain rfl := F.hK
  exact d_callB (id := "len") cal_len h fun z => pe_callB call_lenA hg F.bl.len PySem.boot_len z (by decide) (by decide) he hpl
theorem r_sorted [F : Fx X K] (h : PDA X 𝒯 [e] ts fs) (hg : Gl X "sorted" := by rfl) (he : starEach [e] X.env = (false, eval e X.env) :: starEach [] X.env := by rfl) (hpl : (backTo pos (starEach [] X.env)).any (·.1) = false := by rfl) :
    PD X 𝒯 (.Call (.Name "sorted" p) [e] [] pos) (tCB rSortD ts) (fCal oSortD fs) := d_callB (id := "sorted") cal_sortD h fun z => pe_callB (cr_sortD (by have := F.hu; omega)) hg F.bl.sorted PyProof.Rows.boot_sorted z (by decide) (by decide) he hpl
theorem r_sortK [F : Fx X K] (h : PDA X 𝒯 [e] ts fs) (hg : Gl X "sorted" := by rfl) (he : starEach [e] X.env = (false, eval e X.env) :: starEach [] X.env := by rfl) (hpl : (backTo pos (starEach [] X.env)).any (·.1) = false := by rfl) :
    PD X 𝒯 (.Call (.Name "sorted" p) [e] [] pos) (tCB rSortK ts) (fCal oSortK fs) := d_callB (id := "sorted") cal_sortK h fun z => pe_callB (call_sortedDI F.calm) hg F.bl.sorted PyProof.Rows.boot_sorted z (by decide) (by decide) he hpl
theorem r_sum [F : Fx X K] (h : PDA X 𝒯 [e] ts fs) (hg : Gl X "sum" := by rfl) (he : starEach [e] X.env = (false, eval e X.env) :: starEach [] X.env := by rfl) (hpl : (backTo pos (starEach [] X.env)).any (·.1) = false := by rfl) :
    PD X 𝒯 (.Call (.Name "sum" p) [e] [] pos) (tCB (rSumA K) ts) (fCal oSum fs) := by
  obtain rfl := F.hK
  exact d_callB (id := "sum") cal_sum h fun z => pe_callB (cr_sumA F.calm) hg F.bl.sum PyProof.Rows.boot_sum z (by decide) (by decide) he hpl
theorem r_min [F : Fx X K] (h : PDA X 𝒯 [e] ts fs) (hg : Gl X "min" := by rfl) (he : starEach [e] X.env = (false, eval e X.env) :: starEach [] X.env := by rfl) (hpl : (backTo pos (starEach [] X.env)).any (·.1) = false := by rfl) :
    PD X 𝒯 (.Call (.Name "min" p) [e] [] pos) (tCB (rMinA K) ts) (fCal oMin fs) := by
  obtain rfl := F.hK
  exact d_callB (id := "min") cal_min h fun z => pe_callB (cr_minA F.calm) hg F.bl.min PyProof.Rows.boot_min z (by decide) (by decide) he hpl
theorem r_max2 [F : Fx X K] (h : PDA X 𝒯 [e, e2] ts fs) (hg : Gl X "max" := by rfl) (he : starEach [e, e2] X.env = (false, eval e X.env) :: starEach [e2] X.env := by rfl) (hpl : (backTo pos (starEach [e2] X.env)).any (·.1) = false := by rfl) :
    PD X 𝒯 (.Call (.Name "max" p) [e, e2] [] pos) (tCB (fun xs H Q => ∃ i j, xs = [.int i, .int j] ∧ Q (.int (if j > i then j else i)) H) ts) (fCal (oD oMax2) fs) := d_callB (id := "max") cal_max2.w h fun z => pe_callB (call_max2 F.calm) hg F.bl.max PyProof.Rows.boot_max z (by decide) (by decide) he hpl
theorem r_all [F : Fx X K] (h : PDA X 𝒯 [e] ts fs) (hg : Gl X "all" := by rfl) (he : starEach [e] X.env = (false, eval e X.env) :: starEach [] X.env := by rfl) (hpl : (backTo pos (starEach [] X.env)).any (·.1) = false := by rfl) :
    PD X 𝒯 (.Call (.Name "all" p) [e] [] pos) (tCB (rAll K) ts) (fCal (oD (oBol fun bs => bs.all id)) fs) := by
  obtain rfl := F.hK
  exact d_callB (id := "all") cal_all.w h fun z => pe_callB (cr_all F.calm) hg F.bl.all PyProof.Rows.boot_all z (by decide) (by decide) he hpl
theorem r_abs [F : Fx X K] (h : PDA X 𝒯 [e] ts fs) (hg : Gl X "abs" := by rfl) (he : starEach [e] X.env = (false, eval e X.env) :: starEach [] X.env := by rfl) (hpl : (backTo pos (starEach [] X.env)).any (·.1) = false := by rfl) :
    PD X 𝒯 (.Call (.Name "abs" p) [e] [] pos) (tCB (fun xs H Q => ∃ i, xs = [.int i] ∧ Q (.int (if i < 0 then -i else i)) H) ts) (fCal (oD oAbs) fs) := d_callB (id := "abs") cal_abs.w h fun z => pe_callB call_abs hg F.bl.abs PyProof.Rows.boot_abs z (by decide) (by decide) he hpl
theorem r_int [F : Fx X K] (h : PDA X 𝒯 [e] ts fs) (hg : Gl X "int" := by rfl) (he : starEach [e] X.env = (false, eval e X.env) :: starEach [] X.env := by rfl) (hpl : (backTo pos (starEach [] X.env)).any (·.1) = false := by rfl) :
    PD X 𝒯 (.Call (.Name "int" p) [e] [] pos) (tCB (fun xs H Q => (∃ i, xs = [.int i] ∧ Q (.int i) H) ∨ ∃ k, xs = [.bl k] ∧ Q (.int (if k then 1 else 0)) H) ts) (fCal (oD oInt) fs) := d_callB (id := "int") cal_int.w h fun z => pe_callTy call_int1 hg F.bl.int PyProof.Rows.boot_int z (by decide) (by decide) he hpl
theorem r_tuple [F : Fx X K] (h : PDA X 𝒯 [e] ts fs) (hg : Gl X "tuple" := by rfl) (he : starEach [e] X.env = (false, eval e X.env) :: starEach [] X.env := by rfl) (hpl : (backTo pos (starEach [] X.env)).any (·.1) = false := by rfl) :
    PD X 𝒯 (.Call (.Name "tuple" p) [e] [] pos) (tCB (fun xs H Q => ∃ p ys, xs = [.ref p] ∧ ((SqL K H p ys ∧ ∀ l, H l = none → Q (.ref l) (upd H l (.tup ys))) ∨ (SqT K H p ys ∧ Q (.ref p) H))) ts) (fCal oTuple fs) := by
  obtain rfl := F.hK
  exact d_callB (id := "tuple") cal_tuple h fun z => pe_callTy call_tuple_of hg F.bl.tuple PyProof.Rows.boot_tuple z (by decide) (by decide) he hpl
theorem r_tupleP [F : Fx X K] (h : PDA X 𝒯 [e] ts fs) (hg : Gl X "tuple" := by rfl) (he : starEach [e] X.env = (false, eval e X.env) :: starEach [] X.env := by rfl) (hpl : (backTo pos (starEach [] X.env)).any (·.1) = false := by rfl) :
    PD X 𝒯 (.Call (.Name "tuple" p) [e] [] pos) (tCB rTupP ts) (fCal oTupP fs) := d_callB (id := "tuple") cal_tupP h fun z => pe_callTy cr_tupP hg F.bl.tuple PyProof.Rows.boot_tuple z (by decide) (by decide) he hpl
theorem r_list [F : Fx X K] (h : PDA X 𝒯 [e] ts fs) (hg : Gl X "list" := by rfl) (he : starEach [e] X.env = (false, eval e X.env) :: starEach [] X.env := by rfl) (hpl : (backTo pos (starEach [] X.env)).any (·.1) = false := by rfl) :
    PD X 𝒯 (.Call (.Name "list" p) [e] [] pos) (tCB (fun xs H Q => ∃ p ys, xs = [.ref p] ∧ (SqL K H p ys ∨ SqT K H p ys) ∧ ∀ l, H l = none → Q (.ref l) (upd H l (.lst ys))) ts) (fCal oList fs) := by
  obtain rfl := F.hK
  exact d_callB (id := "list") cal_list h fun z => pe_callTy call_list_of hg F.bl.list PyProof.Rows.boot_list z (by decide) (by decide) he hpl
theorem r_isi {T : String} {x : Str} [F : Fx X K] (h : PD X 𝒯 e te f) (hx : Gl X x) (hm : X.mg x = none) (hv : bootBuiltins x = some (.type T)) (hn : x ≠ "__name__" := by decide) (hd : (x == ("__debug__" : Str)) = false := by decide) (hg : Gl X "isinstance" := by rfl) (he : starEach [e, .Name x p2] X.env = (false, eval e X.env) :: starEach [.Name x p2] X.env := by rfl)
    (he2 : starEach [.Name x p2] X.env = (false, eval (.Name x p2) X.env) :: starEach [] X.env := by rfl) (hpl : (backTo pos (starEach [.Name x p2] X.env)).any (·.1) = false := by rfl) :
    PD X 𝒯 (.Call (.Name "isinstance" p) [e, .Name x p2] [] pos) (tCB (rIsi K) (tCons te (tCons (tC (.ty T)) tNil))) (fIsi T f) := by
  obtain rfl := F.hK
  exact ⟨pe_callB call_isi hg F.bl.isinstance PyProof.Rows.boot_isinstance (pa_cons h.pe (pa_cons (pe_bltn hx hm hv rfl hn hd) pa_nil he2) he) (by decide) (by decide) he hpl, de_isi h.de⟩
/-- operators -/
theorem r_add (a : PD X 𝒯 e te f) (b : PD X 𝒯 e2 t2 f2) : PD X 𝒯 (.BinOp e .Add e2 pos) (tOp (rI0 fun i j => .int (i + j)) te t2) (fOp oAdd f f2) := d_op op_add opd_add a b
theorem r_sub (a : PD X 𝒯 e te f) (b : PD X 𝒯 e2 t2 f2) : PD X 𝒯 (.BinOp e .Sub e2 pos) (tOp (rI0 fun i j => .int (i - j)) te t2) (fOp oSub f f2) := d_op op_sub opd_sub a b
theorem r_mul (a : PD X 𝒯 e te f) (b : PD X 𝒯 e2 t2 f2) : PD X 𝒯 (.BinOp e .Mult e2 pos) (tOp (rI CMul fun i j => .int (i * j)) te t2) (fOp oMul f f2) := d_op op_mul opd_mul a b
theorem r_mod (a : PD X 𝒯 e te f) (b : PD X 𝒯 e2 t2 f2) : PD X 𝒯 (.BinOp e .Mod e2 pos) (tOp (rI (fun _ j => 0 < j) fun i j => .int (i % j)) te t2) (fOp oMod f f2) := d_op op_mod opd_mod a b
theorem r_catT [F : Fx X K] (a : PD X 𝒯 e te f) (b : PD X 𝒯 e2 t2 f2) : PD X 𝒯 (.BinOp e .Add e2 pos) (tOp (rCatA K) te t2) (fOpW oCatT f f2) := by
  obtain rfl := F.hK
  exact d_opW op_catA opw_catT a b
theorem r_catL (a : PD X 𝒯 e te f) (b : PD X 𝒯 e2 t2 f2) : PD X 𝒯 (.BinOp e .Add e2 pos) (tOp rCat te t2) (fOpW oCatL f f2) := d_opW op_cat opw_catL a b
theorem r_repL (a : PD X 𝒯 e te f) (b : PD X 𝒯 e2 t2 f2) : PD X 𝒯 (.BinOp e .Mult e2 pos) (tOp rRep te t2) (fOpW oRepL f f2) := d_opW op_rep opw_repL a b
theorem r_repT [F : Fx X K] (a : PD X 𝒯 e te f) (b : PD X 𝒯 e2 t2 f2) : PD X 𝒯 (.BinOp e .Mult e2 pos) (tOp (rRepTA K) te t2) (fOpW oRepT f f2) := by
  obtain rfl := F.hK
  exact d_opW op_repTA opw_repT a b
/-- items, slices, starred arguments, methods -/
theorem r_ix [F : Fx X K] (a : PD X 𝒯 e te f) (b : PD X 𝒯 e2 t2 f2) (hs : PlainIx e2) : PD X 𝒯 (.Subscript e e2 pos) (tOp (rIx K) te t2) (fIx f f2) := by
  obtain rfl := F.hK
  exact d_ix a b hs
theorem r_slice {lo hi : Option Expr} {tl th : TO} {fl fh : FO S} [F : Fx X K] (h : PD X 𝒯 e te f) (hl : PDO X 𝒯 lo tl fl) (hh : PDO X 𝒯 hi th fh) : PD X 𝒯 (.Subscript e (.Slice lo hi none p2) pos) (tSl (rSlA2 K) te tl th) (fSlice f fl fh) := by
  obtain rfl := F.hK
  exact d_slice h hl hh
theorem r_star [F : Fx X K] (h : PD X 𝒯 e te f) (hs : PDA X 𝒯 es ts fs) (he : starEach (.Starred e p :: es) X.env = (true, eval e X.env) :: starEach es X.env := by rfl) : PDA X 𝒯 (.Starred e p :: es) (tStar K te ts) (fStar f fs) := by
  obtain rfl := F.hK
  exact a_star h hs he
theorem r_revL {k : Nat} {p1 p3 : Pos} [F : Fx X K] (h : PD X 𝒯 e te f) : PD X 𝒯 (.Subscript e (.Slice none none (some (.UnaryOp .USub (.Constant (.int 1) k p1) p2)) p3) pos) (tRevL K te) (fRevL f) := by
  obtain rfl := F.hK
  exact ⟨pe_revL h.pe, de_revL h.de⟩
/-- comparisons as tests, as values -/
theorem c_lt (a : PD X 𝒯 e te f) (b : PD X 𝒯 e2 t2 f2) : PD X 𝒯 (.Compare e [.Lt] [e2] pos) (tOp (rI0 fun i j => .bl (decide (i < j))) te t2) (fOp oLt f f2) := d_cmp op_lt opd_lt a b (nomark _)
theorem c_le (a : PD X 𝒯 e te f) (b : PD X 𝒯 e2 t2 f2) : PD X 𝒯 (.Compare e [.LtE] [e2] pos) (tOp (rI0 fun i j => .bl (decide (i ≤ j))) te t2) (fOp oLe f f2) := d_cmp op_le opd_le a b (nomark _)
theorem c_gt (a : PD X 𝒯 e te f) (b : PD X 𝒯 e2 t2 f2) : PD X 𝒯 (.Compare e [.Gt] [e2] pos) (tOp (rI0 fun i j => .bl (decide (j < i))) te t2) (fOp oGt f f2) := d_cmp op_gt opd_gt a b (nomark _)
theorem c_ge (a : PD X 𝒯 e te f) (b : PD X 𝒯 e2 t2 f2) : PD X 𝒯 (.Compare e [.GtE] [e2] pos) (tOp (rI0 fun i j => .bl (decide (j ≤ i))) te t2) (fOp oGe f f2) := d_cmp op_ge opd_ge a b (nomark _)
theorem c_eq [F : Fx X K] (a : PD X 𝒯 e te f) (b : PD X 𝒯 e2 t2 f2) : PD X 𝒯 (.Compare e [.Eq] [e2] pos) (tOp (rEqD K) te t2) (fOp oEq f f2) := by
  obtain rfl := F.hK
  exact d_cmp (op_eqD (by have := F.hu; omega)) opd_eq a b (nomark _)
theorem c_ne [F : Fx X K] (a : PD X 𝒯 e te f) (b : PD X 𝒯 e2 t2 f2) : PD X 𝒯 (.Compare e [.NotEq] [e2] pos) (tOp (rNeD K) te t2) (fOp oNe f f2) := by
  obtain rfl := F.hK
  exact d_cmp (op_neD (by have := F.hu; omega)) opd_ne a b (nomark _)
theorem c_in [F : Fx X K] (a : PD X 𝒯 e te f) (b : PD X 𝒯 e2 t2 f2) (hm : behindInMarks .In e2 = false := by rfl) : PD X 𝒯 (.Compare e [.In] [e2] pos) (tOp (rInA K false) te t2) (fOp (oIn false) f f2) := by
  obtain rfl := F.hK
  exact d_cmp (op_inA F.hu) opd_in a b hm
theorem c_nin [F : Fx X K] (a : PD X 𝒯 e te f) (b : PD X 𝒯 e2 t2 f2) (hm : behindInMarks .NotIn e2 = false := by rfl) : PD X 𝒯 (.Compare e [.NotIn] [e2] pos) (tOp (rInA K true) te t2) (fOp (oIn true) f f2) := by
  obtain rfl := F.hK
  exact d_cmp (op_notInA F.hu) opd_in a b hm
theorem c_isN (a : PD X 𝒯 e te f) (b : PD X 𝒯 e2 t2 f2) : PD X 𝒯 (.Compare e [.Is] [e2] pos) (tOp (fun x y H Q => y = .non ∧ Q (.bl (decide (x = .non))) H) te t2) (fOp (oIsN false) f f2) := d_cmp op_isN opd_isN a b (nomark _)
theorem c_notN (a : PD X 𝒯 e te f) (b : PD X 𝒯 e2 t2 f2) : PD X 𝒯 (.Compare e [.IsNot] [e2] pos) (tOp (fun x y H Q => y = .non ∧ Q (.bl (!decide (x = .non))) H) te t2) (fOp (oIsN true) f f2) := d_cmp op_notN opd_notN a b (nomark _)
theorem c_din [F : Fx X K] (a : PD X 𝒯 e te f) (b : PD X 𝒯 e2 t2 f2) (hm : behindInMarks .In e2 = false := by rfl) : PD X 𝒯 (.Compare e [.In] [e2] pos) (tDIn te t2) (fDIn false f f2) := ⟨pe_cmp (pc_din (by have := F.hu; omega) a.pe b.pe) hm, de_din a.de b.de⟩
theorem c_dnin [F : Fx X K] (a : PD X 𝒯 e te f) (b : PD X 𝒯 e2 t2 f2) (hm : behindInMarks .NotIn e2 = false := by rfl) : PD X 𝒯 (.Compare e [.NotIn] [e2] pos) (tDNotIn te t2) (fDIn true f f2) := ⟨pe_cmp (pc_dnotin (by have := F.hu; omega) a.pe b.pe) hm, de_dnin a.de b.de⟩
theorem c_rng {e3 : Expr} {t3 : TE} {f3 : Fn S W} (a : PD X 𝒯 e te f) (b : PD X 𝒯 e2 t2 f2) (c : PD X 𝒯 e3 t3 f3) (hm : lastMarks [CmpOp.LtE, CmpOp.Lt] [e2, e3] = false := by with_unfolding_all rfl) : PD X 𝒯 (.Compare e [.LtE, .Lt] [e2, e3] pos) (tChain (rI0 fun i j => .bl (decide (i ≤ j))) (rI0 fun i j => .bl (decide (i < j))) te t2 t3) (fChain oLe oLt f f2 f3) := d_chain op_le op_lt opd_le opd_lt a b c fun x y z => pe_chain op_le op_lt x y z hm
/-- d[k], d.get(k, x) -/
theorem r_dix [F : Fx X K] (a : PD X 𝒯 e te f) (b : PD X 𝒯 e2 t2 f2) (hs : NoSl e2) : PD X 𝒯 (.Subscript e e2 pos) (tDGet te t2) (fDIx f f2) := d_dix (by have := F.hu; omega) a b hs
theorem r_dgt {e3 : Expr} {t3 : TE} {f3 : Fn S W} {ap : Pos} [F : Fx X K] (a : PD X 𝒯 e te f) (b : PD X 𝒯 e2 t2 f2) (c : PD X 𝒯 e3 t3 f3) (h1 : attributeBase e "get" X.env (eval e X.env) = eval e X.env := by rfl)
    (h2 : ((backTo pos (starEach [e2, e3] X.env)).all (fun x => !x.1) && (backToKw pos (keywordEach [] X.env)).all (fun x => x.1.isSome) && decide (([e2, e3] : List Expr).length + ([] : List Keyword).length + (if ([] : List Keyword).isEmpty then 0 else 1) < 30)) = true := by rfl)
    (h3 : (ap.endLine == pos.line) = true := by rfl) (h4 : backTo pos (starEach [e2, e3] X.env) = [(false, eval e2 X.env), (false, eval e3 X.env)] := by rfl) : PD X 𝒯 (.Call (.Attribute e "get" ap) [e2, e3] [] pos) (tDGet2 te t2 t3) (fDGt f f2 f3) := ⟨pe_dget2 (by have := F.hu; omega) a.pe b.pe c.pe ⟨h1, h2, h3, h4⟩, de_dgt a.de b.de c.de⟩
end
end Pl

namespace Pl
open PySem PySem.Spec PyProof.Rows L2 StX
section
variable {S : Type} {X : Cx} {K : PySem.W.Frag} {𝒯 : Fam S} {pos p p2 : Pos} {e : Expr} {te : TE} {f : Fn S W}
theorem r_isiI [F : Fx X K] (h : PD X 𝒯 e te f) (hx : Gl X "int" := by rfl) (hg : Gl X "isinstance" := by rfl) (he : starEach [e, .Name "int" p2] X.env = (false, eval e X.env) :: starEach [.Name "int" p2] X.env := by rfl)
    (he2 : starEach [.Name "int" p2] X.env = (false, eval (.Name "int" p2) X.env) :: starEach [] X.env := by rfl) (hpl : (backTo pos (starEach [.Name "int" p2] X.env)).any (·.1) = false := by rfl) :
    PD X 𝒯 (.Call (.Name "isinstance" p) [e, .Name "int" p2] [] pos) (tCB (rIsi K) (tCons te (tCons (tC (.ty "int")) tNil))) (fIsi "int" f) := by
  obtain rfl := F.hK
  exact r_isi (T := "int") h hx F.bl.int PyProof.Rows.boot_int (by decide) (by decide) hg he he2 hpl
theorem r_isiB [F : Fx X K] (h : PD X 𝒯 e te f) (hx : Gl X "bool" := by rfl) (hg : Gl X "isinstance" := by rfl) (he : starEach [e, .Name "bool" p2] X.env = (false, eval e X.env) :: starEach [.Name "bool" p2] X.env := by rfl)
    (he2 : starEach [.Name "bool" p2] X.env = (false, eval (.Name "bool" p2) X.env) :: starEach [] X.env := by rfl) (hpl : (backTo pos (starEach [.Name "bool" p2] X.env)).any (·.1) = false := by rfl) :
    PD X 𝒯 (.Call (.Name "isinstance" p) [e, .Name "bool" p2] [] pos) (tCB (rIsi K) (tCons te (tCons (tC (.ty "bool")) tNil))) (fIsi "bool" f) := by
  obtain rfl := F.hK
  exact r_isi (T := "bool") h hx F.bl.bool PyProof.Rows.boot_bool (by decide) (by decide) hg he he2 hpl
theorem r_isiT [F : Fx X K] (h : PD X 𝒯 e te f) (hx : Gl X "tuple" := by rfl) (hg : Gl X "isinstance" := by rfl) (he : starEach [e, .Name "tuple" p2] X.env = (false, eval e X.env) :: starEach [.Name "tuple" p2] X.env := by rfl)
    (he2 : starEach [.Name "tuple" p2] X.env = (false, eval (.Name "tuple" p2) X.env) :: starEach [] X.env := by rfl) (hpl : (backTo pos (starEach [.Name "tuple" p2] X.env)).any (·.1) = false := by rfl) :
    PD X 𝒯 (.Call (.Name "isinstance" p) [e, .Name "tuple" p2] [] pos) (tCB (rIsi K) (tCons te (tCons (tC (.ty "tuple")) tNil))) (fIsi "tuple" f) := by
  obtain rfl := F.hK
  exact r_isi (T := "tuple") h hx F.bl.tuple PyProof.Rows.boot_tuple (by decide) (by decide) hg he he2 hpl
theorem r_isiS [F : Fx X K] (h : PD X 𝒯 e te f) (hx : Gl X "str" := by rfl) (hg : Gl X "isinstance" := by rfl) (he : starEach [e, .Name "str" p2] X.env = (false, eval e X.env) :: starEach [.Name "str" p2] X.env := by rfl)
    (he2 : starEach [.Name "str" p2] X.env = (false, eval (.Name "str" p2) X.env) :: starEach [] X.env := by rfl) (hpl : (backTo pos (starEach [.Name "str" p2] X.env)).any (·.1) = false := by rfl) :
    PD X 𝒯 (.Call (.Name "isinstance" p) [e, .Name "str" p2] [] pos) (tCB (rIsi K) (tCons te (tCons (tC (.ty "str")) tNil))) (fIsi "str" f) := by
  obtain rfl := F.hK
  exact r_isi (T := "str") h hx F.bl.str PyProof.Rows.boot_str (by decide) (by decide) hg he he2 hpl
end
end Pl
end

section
set_option Elab.async false
set_option linter.all false
set_option maxRecDepth 100000
set_option maxHeartbeats 4000000
namespace Pl
open PySem PySem.Spec PyProof.Rows L2 StX

section
variable {S : Type} {X : Cx} {K : PySem.W.Frag} {𝒯 : Fam S} {pos p p2 : Pos} {e e2 c tg : Expr} {es : List Expr} {te t2 : TE} {ts : TA} {f f2 fe : Fn S W} {fs : Fn S (List W)} {g : TG} {fg : D → Rho → Option Rho} {is : List Nat} {wi : TI} {fi : Ix S}
/-! ### what is walked -/
theorem i_tup [F : Fx X K] (h : PD X 𝒯 e te f) : PDI X 𝒯 tg e (iTup K te) (xTup f) := by
  obtain rfl := F.hK
  exact ⟨pi_tup h.pe, di_tup h.de⟩
theorem i_lst [F : Fx X K] (h : PD X 𝒯 e te f) : PDI X 𝒯 tg e (iList K te) (xList f) := by
  obtain rfl := F.hK
  exact ⟨pi_list h.pe, di_list h.de⟩
theorem i_rng1 [F : Fx X K] (h : PDA X 𝒯 [e] ts fs) (hg : Gl X "range" := by rfl) (hs : starEach [e] X.env = [(false, eval e X.env)] := by rfl) : PDI X 𝒯 tg (.Call (.Name "range" p) [e] [] pos) (iRng1 ts) (xRng1 fs) := ⟨pi_range1 hg F.bl.range h.pe hs, di_rng1 h.de⟩
theorem i_rng2 [F : Fx X K] (h : PDA X 𝒯 [e, e2] ts fs) (hg : Gl X "range" := by rfl) (hs : starEach [e, e2] X.env = [(false, eval e X.env), (false, eval e2 X.env)] := by rfl) (hs2 : starEach [e2] X.env = [(false, eval e2 X.env)] := by rfl) :
    PDI X 𝒯 tg (.Call (.Name "range" p) [e, e2] [] pos) (iRng2 ts) (xRng2 fs) := ⟨pi_range2 hg F.bl.range h.pe hs hs2, di_rng2 h.de⟩
theorem i_enT {elts : List Expr} {kk : Nat} [F : Fx X K] (h : PDA X 𝒯 [e] ts fs) (hg : Gl X "enumerate" := by rfl) (hs : starEach [e] X.env = [(false, eval e X.env)] := by rfl) : PDI X 𝒯 (.Tuple elts kk p2) (.Call (.Name "enumerate" p) [e] [] pos) (iEnumT K ts) (xEnumT fs) := by
  obtain rfl := F.hK
  exact ⟨pi_enumT hg F.bl.enumerate h.pe hs, di_enumT h.de⟩
theorem i_enL {elts : List Expr} {kk : Nat} [F : Fx X K] (h : PDA X 𝒯 [e] ts fs) (hg : Gl X "enumerate" := by rfl) (hs : starEach [e] X.env = [(false, eval e X.env)] := by rfl) : PDI X 𝒯 (.Tuple elts kk p2) (.Call (.Name "enumerate" p) [e] [] pos) (iEnum K ts) (xEnumL fs) := by
  obtain rfl := F.hK
  exact ⟨pi_enum hg F.bl.enumerate h.pe hs, di_enumL h.de⟩
/-! ### comprehensions -/
def fYes : Fn S Bool := fun _ s => some (true, s)
theorem dt_yes : DT 𝒯 tYes (fYes : Fn S Bool) := by
  intro T hT H0 ρ σ H fp s Q b s' E e0 k
  injection e0 with e0
  injection e0 with e1 e2
  subst e1
  subst e2
  exact k H (ExV.refl T H) E.rel
theorem d_lc0 {scope : Scope} {own : List (Str × Nat)} {elt iter : Expr} [F : Fx X K] (ok : BlkOk X.N X.env.scope scope own) (hi : PDI X 𝒯 tg iter wi fi) (pg : ∀ (s : Shared) (H : Hp) (C : Addr) (cl : List (Str × Addr)) (fp : List Addr), PG (X.blk s H scope (compEnvC scope cl C X.env) fp) tg g)
    (hg : DG is g fg) (hs : ∀ i ∈ is, i ∈ own.map (·.2)) (he : ∀ (s : Shared) (H : Hp) (C : Addr) (cl : List (Str × Addr)) (fp : List Addr), PD (X.blk s H scope (compEnvC scope cl C X.env) fp) 𝒯 elt te fe) (hf : ∀ x, foldedSetIterable iter X.env x = pure x := by intro _; rfl) :
    PD X 𝒯 (.ListComp elt [⟨tg, iter, [], 0⟩] scope pos) (tLc wi g tYes te (own.map (·.2))) (fLc fi fg fYes fe (own.map (·.2))) :=
  ⟨pe_lc F.calm F.nd hi.pe ok pg (fun _ _ _ _ _ => pts_nil) (fun s H C cl fp => (he s H C cl fp).pe) hf, de_lc hi.de hg hs dt_yes (he X.s_0 X.H_0 0 [] []).de⟩
theorem d_lc1 {scope : Scope} {own : List (Str × Nat)} {elt iter : Expr} {tc : TT} {fc : Fn S Bool} [F : Fx X K] (ok : BlkOk X.N X.env.scope scope own) (hi : PDI X 𝒯 tg iter wi fi) (pg : ∀ (s : Shared) (H : Hp) (C : Addr) (cl : List (Str × Addr)) (fp : List Addr), PG (X.blk s H scope (compEnvC scope cl C X.env) fp) tg g)
    (hg : DG is g fg) (hs : ∀ i ∈ is, i ∈ own.map (·.2)) (hc : ∀ (s : Shared) (H : Hp) (C : Addr) (cl : List (Str × Addr)) (fp : List Addr), PDT (X.blk s H scope (compEnvC scope cl C X.env) fp) 𝒯 c tc fc)
    (he : ∀ (s : Shared) (H : Hp) (C : Addr) (cl : List (Str × Addr)) (fp : List Addr), PD (X.blk s H scope (compEnvC scope cl C X.env) fp) 𝒯 elt te fe) (hf : ∀ x, foldedSetIterable iter X.env x = pure x := by intro _; rfl) :
    PD X 𝒯 (.ListComp elt [⟨tg, iter, [c], 0⟩] scope pos) (tLc wi g tc te (own.map (·.2))) (fLc fi fg fc fe (own.map (·.2))) :=
  ⟨pe_lc F.calm F.nd hi.pe ok pg (fun s H C cl fp => pts_one (hc s H C cl fp).pe) (fun s H C cl fp => (he s H C cl fp).pe) hf, de_lc hi.de hg hs (hc X.s_0 X.H_0 0 [] []).de (he X.s_0 X.H_0 0 [] []).de⟩
theorem s_lc0 {i : Nat} {y : Str} {py spos : Pos} {scope : Scope} {own : List (Str × Nat)} {elt iter : Expr} [F : Fx X K] (hy : X.N[i]? = some y) (hyl : X.env.scope.names.lookup y = some .local) (hsw : swapsWith (.ListComp elt [⟨tg, iter, [], 0⟩] scope pos) (some (.Name y py)) spos.line X.env = pure true)
    (ok : BlkOk X.N X.env.scope scope own) (hi : PDI X 𝒯 tg iter wi fi) (pg : ∀ (s : Shared) (H : Hp) (C : Addr) (cl : List (Str × Addr)) (fp : List Addr), PG (X.blk s H scope (compEnvC scope cl C X.env) fp) tg g)
    (hg : DG is g fg) (hs : ∀ i ∈ is, i ∈ own.map (·.2)) (he : ∀ (s : Shared) (H : Hp) (C : Addr) (cl : List (Str × Addr)) (fp : List Addr), PD (X.blk s H scope (compEnvC scope cl C X.env) fp) 𝒯 elt te fe) (hf : ∀ x, foldedSetIterable iter X.env x = pure x := by intro _; rfl) :
    PDS X 𝒯 (.Assign [.Name y py] (.ListComp elt [⟨tg, iter, [], 0⟩] scope pos) spos) (tAsg (tLc wi g tYes te (own.map (·.2))) (gName i)) (fSet i (fLc fi fg fYes fe (own.map (·.2)))) :=
  ⟨ps_setLc F.calm F.nd hy hyl hsw hi.pe ok pg (fun _ _ _ _ _ => pts_nil) (fun s H C cl fp => (he s H C cl fp).pe) hf, ds_set (de_lc hi.de hg hs dt_yes (he X.s_0 X.H_0 0 [] []).de)⟩
theorem s_lc1 {i : Nat} {y : Str} {py spos : Pos} {scope : Scope} {own : List (Str × Nat)} {elt iter : Expr} {tc : TT} {fc : Fn S Bool} [F : Fx X K] (hy : X.N[i]? = some y) (hyl : X.env.scope.names.lookup y = some .local) (hsw : swapsWith (.ListComp elt [⟨tg, iter, [c], 0⟩] scope pos) (some (.Name y py)) spos.line X.env = pure true)
    (ok : BlkOk X.N X.env.scope scope own) (hi : PDI X 𝒯 tg iter wi fi) (pg : ∀ (s : Shared) (H : Hp) (C : Addr) (cl : List (Str × Addr)) (fp : List Addr), PG (X.blk s H scope (compEnvC scope cl C X.env) fp) tg g)
    (hg : DG is g fg) (hs : ∀ i ∈ is, i ∈ own.map (·.2)) (hc : ∀ (s : Shared) (H : Hp) (C : Addr) (cl : List (Str × Addr)) (fp : List Addr), PDT (X.blk s H scope (compEnvC scope cl C X.env) fp) 𝒯 c tc fc)
    (he : ∀ (s : Shared) (H : Hp) (C : Addr) (cl : List (Str × Addr)) (fp : List Addr), PD (X.blk s H scope (compEnvC scope cl C X.env) fp) 𝒯 elt te fe) (hf : ∀ x, foldedSetIterable iter X.env x = pure x := by intro _; rfl) :
    PDS X 𝒯 (.Assign [.Name y py] (.ListComp elt [⟨tg, iter, [c], 0⟩] scope pos) spos) (tAsg (tLc wi g tc te (own.map (·.2))) (gName i)) (fSet i (fLc fi fg fc fe (own.map (·.2)))) :=
  ⟨ps_setLc F.calm F.nd hy hyl hsw hi.pe ok pg (fun s H C cl fp => pts_one (hc s H C cl fp).pe) (fun s H C cl fp => (he s H C cl fp).pe) hf, ds_set (de_lc hi.de hg hs (hc X.s_0 X.H_0 0 [] []).de (he X.s_0 X.H_0 0 [] []).de)⟩
/-! ### a, b = x, y through the pair itself (names that a block reads) -/
variable {T : Vol S} {H0 : Bs} {H H' H1 : Hp} {ρ ρ' : Rho} {σ : L2.St} {fp fp' : Nat → List Addr} {s s' : S}
def fTup2 (i j : Nat) (fa : Fn S (List W)) : Fn S Out := fun ρ s => bnd (fa ρ s) fun ws s1 => if szOk ws.length = true then lft (st2 ρ i j ws) s1 Out.nx else none
theorem wok_new {w : W} {v : V} {g : List Addr} {q : Addr} {o : HO} (hp : H1 q = none) (ok : Wok T fp H H1 w v g) : Wok T fp H (upd H1 q o) w v g := by
  have tk := new_tk (o := o) hp
  have ne : ∀ {m : M} {v : V} {g : List Addr}, RM H1 m v g → ∀ a ∈ g, upd H1 q o a = H1 a := fun {m v g} r a ha => upd_ne fun z => by
    obtain ⟨u, e⟩ := (r.mu a ha).some
    rw [z, hp] at e
    cases e
  cases w with
  | im d => exact ⟨ok.1, ok.2.keep tk⟩
  | new m => exact ⟨ok.1.keep tk (ne ok.1), ok.2.1, ok.2.2.keep ok.1 (ne ok.1)⟩
  | sl i m => exact ⟨ok.1.keep tk (ne ok.1), ok.2⟩
  | src => exact ok
  | tm m => exact ⟨ok.1.keep tk (ne ok.1), ok.2⟩
theorem mid_new {F : List Addr} {q : Addr} {o : HO} (hp : H1 q = none) (M0 : Mid T H0 H H1 ρ ρ' σ fp s F) (x : ExV T H H1) (r0 : T.rel s' H) : Mid T H0 H (upd H1 q o) ρ ρ' σ fp s F := by
  obtain ⟨fp', E, Fr, h1, h2⟩ := M0
  have xn : ExV T H1 (upd H1 q o) := ExV.new hp
  exact ⟨fp', E.step xn (T.upd E.rel (T.new E.rel hp)), Frm.trans r0 E.rel Fr (Frm.exp E xn), h1, h2⟩
theorem ds_tup2 {i j : Nat} (h : DA 𝒯 ts fs) : DS 𝒯 (tAsg (tTup ts) (gTup X.K 2 (gCons (gName i) (gCons (gName j) gNil)))) (fTup2 i j fs) := by
  intro T hT H0 ρ σ H fp s D o s' E e0 k
  obtain ⟨ws, s1, e1, e2⟩ := bnd_of e0
  by_cases hz : szOk ws.length = true
  · rw [if_pos hz] at e2
    obtain ⟨ρ', e3, rfl, rfl⟩ := lft_of e2
    refine h T hT H0 ρ σ H fp s _ ws _ E e1 fun vs H1 G x r oks => ⟨by rw [oks.length]; exact szOk_le hz, fun q hq => ?_⟩
    have M0 := mid_new (q := q) (o := .tup vs) hq (mid_0 E x r oks) x E.rel
    unfold st2 at e3
    split at e3
    · rename_i w1 w2
      obtain ⟨ρ1, e4, e5⟩ := bind_of e3
      cases oks with
      | cons o1 r1 d1 q1 =>
        cases r1 with
        | cons o2 r2 d2 q2 =>
          cases r2
          obtain ⟨fp', E', F', _⟩ := mid_st (mid_st M0 (wok_new hq o1) e4 d1 q1) (wok_new hq o2) e5 d2 q2
          exact ⟨q, _, rfl, .inl (.inl upd_same), rfl, _, _, rfl, _, _, rfl, rfl, k _ _ fp' E' F'⟩
    · cases e3
  · rw [if_neg hz] at e2
    cases e2
theorem s_tup2 {i j : Nat} {st : Stmt} (hp : PA X es ts → PS X st (tAsg (tTup ts) (gTup X.K 2 (gCons (gName i) (gCons (gName j) gNil))))) (h : PDA X 𝒯 es ts fs) : PDS X 𝒯 st (tAsg (tTup ts) (gTup X.K 2 (gCons (gName i) (gCons (gName j) gNil)))) (fTup2 i j fs) := ⟨hp h.pe, ds_tup2 h.de⟩
def fTup3 (i j l : Nat) (fa : Fn S (List W)) : Fn S Out := fun ρ s => bnd (fa ρ s) fun ws s1 => if szOk ws.length = true then lft (st3 ρ i j l ws) s1 Out.nx else none
theorem ds_tup3 {i j l : Nat} (h : DA 𝒯 ts fs) : DS 𝒯 (tAsg (tTup ts) (gTup X.K 3 (gCons (gName i) (gCons (gName j) (gCons (gName l) gNil))))) (fTup3 i j l fs) := by
  intro T hT H0 ρ σ H fp s D o s' E e0 k
  obtain ⟨ws, s1, e1, e2⟩ := bnd_of e0
  by_cases hz : szOk ws.length = true
  · rw [if_pos hz] at e2
    obtain ⟨ρ', e3, rfl, rfl⟩ := lft_of e2
    refine h T hT H0 ρ σ H fp s _ ws _ E e1 fun vs H1 G x r oks => ⟨by rw [oks.length]; exact szOk_le hz, fun q hq => ?_⟩
    have M0 := mid_new (q := q) (o := .tup vs) hq (mid_0 E x r oks) x E.rel
    unfold st3 at e3
    split at e3
    · rename_i w1 w2 w3
      obtain ⟨ρ1, e4, e5⟩ := bind_of e3
      obtain ⟨ρ2, e6, e7⟩ := bind_of e5
      cases oks with
      | cons o1 r1 d1 q1 =>
        cases r1 with
        | cons o2 r2 d2 q2 =>
          cases r2 with
          | cons o3 r3 d3 q3 =>
            cases r3
            obtain ⟨fp', E', F', _⟩ := mid_st (mid_st (mid_st M0 (wok_new hq o1) e4 d1 q1) (wok_new hq o2) e6 d2 q2) (wok_new hq o3) e7 d3 q3
            exact ⟨q, _, rfl, .inl (.inl upd_same), rfl, _, _, rfl, _, _, rfl, _, _, rfl, rfl, k _ _ fp' E' F'⟩
    · cases e3
  · rw [if_neg hz] at e2
    cases e2
theorem s_tup3 {i j l : Nat} {st : Stmt} (hp : PA X es ts → PS X st (tAsg (tTup ts) (gTup X.K 3 (gCons (gName i) (gCons (gName j) (gCons (gName l) gNil)))))) (h : PDA X 𝒯 es ts fs) : PDS X 𝒯 st (tAsg (tTup ts) (gTup X.K 3 (gCons (gName i) (gCons (gName j) (gCons (gName l) gNil))))) (fTup3 i j l fs) := ⟨hp h.pe, ds_tup3 h.de⟩
end
end Pl
end

section
set_option Elab.async false
set_option linter.all false
set_option maxRecDepth 100000
set_option maxHeartbeats 4000000
namespace Pl
open PySem PySem.Spec PyProof.Rows L2 StX RT

section
variable {S : Type} {X : Cx} {K : PySem.W.Frag} {𝒯 : Fam S} {pos p p2 : Pos} {e e2 : Expr} {es : List Expr} {te t2 : TE} {ts : TA} {f f2 : Fn S W} {fs : Fn S (List W)}
/-! ### comparisons as tests -/
theorem q_lt (a : PD X 𝒯 e te f) (b : PD X 𝒯 e2 t2 f2) : PDT X 𝒯 (.Compare e [.Lt] [e2] pos) (tTest (tOp (rI0 fun i j => .bl (decide (i < j))) te t2)) (fTest (fOp oLt f f2)) := t_cmp op_lt opd_lt a b (nomark _)
theorem q_le (a : PD X 𝒯 e te f) (b : PD X 𝒯 e2 t2 f2) : PDT X 𝒯 (.Compare e [.LtE] [e2] pos) (tTest (tOp (rI0 fun i j => .bl (decide (i ≤ j))) te t2)) (fTest (fOp oLe f f2)) := t_cmp op_le opd_le a b (nomark _)
theorem q_gt (a : PD X 𝒯 e te f) (b : PD X 𝒯 e2 t2 f2) : PDT X 𝒯 (.Compare e [.Gt] [e2] pos) (tTest (tOp (rI0 fun i j => .bl (decide (j < i))) te t2)) (fTest (fOp oGt f f2)) := t_cmp op_gt opd_gt a b (nomark _)
theorem q_ge (a : PD X 𝒯 e te f) (b : PD X 𝒯 e2 t2 f2) : PDT X 𝒯 (.Compare e [.GtE] [e2] pos) (tTest (tOp (rI0 fun i j => .bl (decide (j ≤ i))) te t2)) (fTest (fOp oGe f f2)) := t_cmp op_ge opd_ge a b (nomark _)
theorem q_eq [F : Fx X K] (a : PD X 𝒯 e te f) (b : PD X 𝒯 e2 t2 f2) : PDT X 𝒯 (.Compare e [.Eq] [e2] pos) (tTest (tOp (rEqD K) te t2)) (fTest (fOp oEq f f2)) := by
  obtain rfl := F.hK
  exact t_cmp (op_eqD (by have := F.hu; omega)) opd_eq a b (nomark _)
theorem q_ne [F : Fx X K] (a : PD X 𝒯 e te f) (b : PD X 𝒯 e2 t2 f2) : PDT X 𝒯 (.Compare e [.NotEq] [e2] pos) (tTest (tOp (rNeD K) te t2)) (fTest (fOp oNe f f2)) := by
  obtain rfl := F.hK
  exact t_cmp (op_neD (by have := F.hu; omega)) opd_ne a b (nomark _)
theorem q_in [F : Fx X K] (a : PD X 𝒯 e te f) (b : PD X 𝒯 e2 t2 f2) (hm : behindInMarks .In e2 = false := by rfl) : PDT X 𝒯 (.Compare e [.In] [e2] pos) (tTest (tOp (rInA K false) te t2)) (fTest (fOp (oIn false) f f2)) := by
  obtain rfl := F.hK
  exact t_cmp (op_inA F.hu) opd_in a b hm
theorem q_nin [F : Fx X K] (a : PD X 𝒯 e te f) (b : PD X 𝒯 e2 t2 f2) (hm : behindInMarks .NotIn e2 = false := by rfl) : PDT X 𝒯 (.Compare e [.NotIn] [e2] pos) (tTest (tOp (rInA K true) te t2)) (fTest (fOp (oIn true) f f2)) := by
  obtain rfl := F.hK
  exact t_cmp (op_notInA F.hu) opd_in a b hm
theorem q_isN (a : PD X 𝒯 e te f) (b : PD X 𝒯 e2 t2 f2) : PDT X 𝒯 (.Compare e [.Is] [e2] pos) (tTest (tOp (fun x y H Q => y = .non ∧ Q (.bl (decide (x = .non))) H) te t2)) (fTest (fOp (oIsN false) f f2)) := t_cmp op_isN opd_isN a b (nomark _)
theorem q_notN (a : PD X 𝒯 e te f) (b : PD X 𝒯 e2 t2 f2) : PDT X 𝒯 (.Compare e [.IsNot] [e2] pos) (tTest (tOp (fun x y H Q => y = .non ∧ Q (.bl (!decide (x = .non))) H) te t2)) (fTest (fOp (oIsN true) f f2)) := t_cmp op_notN opd_notN a b (nomark _)
theorem dt_tB (h : DE 𝒯 te f) : DT 𝒯 (tB te) (fTest f) := by
  intro T hT H0 ρ σ H fp s Q b s' E e0 k
  obtain ⟨w, s1, e1, e2⟩ := bnd_of e0
  obtain ⟨b2, e3, e4, rfl⟩ := lft_of e2
  have e4 : b = b2 := e4
  subst e4
  refine h T hT H0 ρ σ H fp s _ w _ E e1 fun v H1 g x r ok => ?_
  exact ⟨b, asB_of ok e3, k H1 x r⟩
theorem q_din [F : Fx X K] (a : PD X 𝒯 e te f) (b : PD X 𝒯 e2 t2 f2) (hm : behindInMarks .In e2 = false := by rfl) : PDT X 𝒯 (.Compare e [.In] [e2] pos) (tB (tDIn te t2)) (fTest (fDIn false f f2)) := ⟨pt_cmp (pc_din (by have := F.hu; omega) a.pe b.pe) hm, dt_tB (de_din a.de b.de)⟩
theorem q_dnin [F : Fx X K] (a : PD X 𝒯 e te f) (b : PD X 𝒯 e2 t2 f2) (hm : behindInMarks .NotIn e2 = false := by rfl) : PDT X 𝒯 (.Compare e [.NotIn] [e2] pos) (tB (tDNotIn te t2)) (fTest (fDIn true f f2)) := ⟨pt_cmp (pc_dnotin (by have := F.hu; omega) a.pe b.pe) hm, dt_tB (de_dnin a.de b.de)⟩
theorem q_rng {e3 : Expr} {t3 : TE} {f3 : Fn S W} (a : PD X 𝒯 e te f) (b : PD X 𝒯 e2 t2 f2) (c : PD X 𝒯 e3 t3 f3) (hm : lastMarks [CmpOp.LtE, CmpOp.Lt] [e2, e3] = false := by with_unfolding_all rfl) :
    PDT X 𝒯 (.Compare e [.LtE, .Lt] [e2, e3] pos) (tTest (tChain (rI0 fun i j => .bl (decide (i ≤ j))) (rI0 fun i j => .bl (decide (i < j))) te t2 t3)) (fTest (fChain oLe oLt f f2 f3)) := t_chain op_le op_lt opd_le opd_lt a b c fun x y z => pt_chain op_le op_lt x y z hm

theorem r_dsT {ek ev : Expr} {tk tv : TE} {fk fv : Fn S W} [F : Fx X K] (hk : PD X 𝒯 ek tk fk) (hv : PD X 𝒯 ev tv fv) : PD X 𝒯 (.Dict [some ek] [ev] pos) (tDispT tk tv) (fDsT fk fv) := d_dsT (by have := F.hu; omega) hk hv
/-! ### -a, a // b, reversed(tuple) -/
def fUn (f : Fn S W) : Fn S W := fun ρ s => bnd (f ρ s) fun w s1 => lft (intW w) s1 fun i => .im (.int (-i))
theorem r_neg (a : PD X 𝒯 e te f) : PD X 𝒯 (.UnaryOp .USub e pos) (tUn (rU fun i => .int (-i)) te) (fUn f) := ⟨pe_un un_neg a.pe, by
  intro T hT H0 ρ σ H fp s Q w s' E e0 k
  obtain ⟨x, s1, e1, e2⟩ := bnd_of e0
  obtain ⟨i, e3, rfl, rfl⟩ := lft_of e2
  obtain rfl := intW_of e3
  exact a.de T hT H0 ρ σ H fp s _ _ _ E e1 fun v H1 g x r ok => ⟨i, ok.2.inv_int, k _ H1 [] x r (wok_im (.int _))⟩⟩
theorem r_div (a : PD X 𝒯 e te f) (b : PD X 𝒯 e2 t2 f2) : PD X 𝒯 (.BinOp e .FloorDiv e2 pos) (tOp (rI CDiv fun i j => .int (i / j)) te t2) (fOp oDiv f f2) := d_op op_fdiv opd_div a b
def xRevT (fe : Fn S W) : Ix S := fun ρ s => bnd (fe ρ s) fun w s1 => lft (tupD w) s1 fun ds => (ds.reverse, none)
theorem walk_revT {a : Addr} {xs : List V} : Walk (ItvT K a xs.length) xs.length (fun H => SqT K H a xs) (fun i H x H' => H' = H ∧ xs[xs.length - 1 - i]? = some x) :=
  ⟨fun i _ hi q => ⟨hi, xs, xs[xs.length - 1 - i]'(by omega), q, by simp [show xs.length - 1 - i < xs.length by omega]⟩, fun _ _ => Nat.le_refl _, fun _ _ _ _ _ q y => ⟨y.1, y.2 xs q⟩⟩
theorem di_revT (h : DE 𝒯 te f) : DI 𝒯 (iRevA K te) (xRevT f) := by
  intro T hT H0 ρ σ H fp s R ds j s' E e0 k
  obtain ⟨w, s1, e1, e2⟩ := bnd_of e0
  obtain ⟨ds', e3, e4, rfl⟩ := lft_of e2
  injection e4 with e4 e5
  subst e4
  subst e5
  refine h T hT H0 ρ σ H fp s _ w _ E e1 fun v H1 g x r ok => ?_
  obtain ⟨a, xs, rfl, ht, rr⟩ := tupD_ok ok e3
  refine ⟨a, xs, rfl, .inr ⟨.inl ht, ?_⟩⟩
  have wk := walk_revT (K := K) (a := a) (xs := xs)
  have el : xs.length = ds'.reverse.length := by rw [rr.length, List.length_reverse]
  have wk : Walk (ItvT K a xs.length) ds'.reverse.length (fun H => SqT K H a xs) (fun i H x H' => H' = H ∧ xs[xs.length - 1 - i]? = some x) := el ▸ wk
  refine k _ H1 _ _ [] wk x r (fun H2 t q => tk_sqt t ht) (fun b hb => by cases hb) fun i d hd Hx y Hy t hy => ?_
  obtain ⟨e, hy⟩ := hy
  subst e
  have hi : i < ds'.length := by
    have := List.getElem?_eq_some_iff.mp hd
    have := this.1
    rwa [List.length_reverse] at this
  rw [List.getElem?_reverse hi, ← rr.length] at hd
  obtain ⟨v, hv, rv⟩ := rr.get hd
  rw [hy] at hv
  cases hv
  exact ⟨.inl rfl, rv.keep t⟩
theorem i_revT {tg : Expr} [F : Fx X K] (h : PD X 𝒯 e te f) (hg : Gl X "reversed" := by rfl) (hs : starEach [e] X.env = (false, eval e X.env) :: starEach [] X.env := by rfl) : PDI X 𝒯 tg (.Call (.Name "reversed" p) [e] [] pos) (iRevA K te) (xRevT f) := by
  obtain rfl := F.hK
  exact ⟨pi_revA hg F.bl.reversed h.pe hs, di_revT h.de⟩
theorem r_idxL {ap : Pos} [F : Fx X K] (a : PD X 𝒯 e te f) (b : PD X 𝒯 e2 t2 f2) (hbase : attributeBase e "index" X.env (eval e X.env) = eval e X.env := by rfl)
    (hfew : ((backTo pos (starEach [e2] X.env)).all (fun x => !x.1) && (backToKw pos (keywordEach [] X.env)).all (fun x => x.1.isSome) && decide (([e2] : List Expr).length + ([] : List Keyword).length + (if ([] : List Keyword).isEmpty then 0 else 1) < 30)) = true := by rfl)
    (hline : (ap.endLine == pos.line) = true := by rfl) (hs : starEach [e2] X.env = (false, eval e2 X.env) :: starEach [] X.env := by rfl) (hpl : (backTo pos (starEach [] X.env)).any (·.1) = false := by rfl) : PD X 𝒯 (.Call (.Attribute e "index" ap) [e2] [] pos) (tBM K "list" (rIdxL K) te (tCons t2 tNil)) (fMet (fun x y => if isLst x = true then oIdx x y else none) f f2) := by
  obtain rfl := F.hK
  exact d_met met_idxL a b fun x y => pe_bm PySem.F.plainAttrs_list PySem.F.slot_list_index PySem.F.type_list_index mt_idxL x (pa_cons y pa_nil hs) hbase hfew hline hs hpl
theorem r_cntL {ap : Pos} [F : Fx X K] (a : PD X 𝒯 e te f) (b : PD X 𝒯 e2 t2 f2) (hbase : attributeBase e "count" X.env (eval e X.env) = eval e X.env := by rfl)
    (hfew : ((backTo pos (starEach [e2] X.env)).all (fun x => !x.1) && (backToKw pos (keywordEach [] X.env)).all (fun x => x.1.isSome) && decide (([e2] : List Expr).length + ([] : List Keyword).length + (if ([] : List Keyword).isEmpty then 0 else 1) < 30)) = true := by rfl)
    (hline : (ap.endLine == pos.line) = true := by rfl) (hs : starEach [e2] X.env = (false, eval e2 X.env) :: starEach [] X.env := by rfl) (hpl : (backTo pos (starEach [] X.env)).any (·.1) = false := by rfl) : PD X 𝒯 (.Call (.Attribute e "count" ap) [e2] [] pos) (tBM K "list" (rCntI K) te (tCons t2 tNil)) (fMet (fun x y => if isLst x = true then oCnt x y else none) f f2) := by
  obtain rfl := F.hK
  exact d_met met_cntL a b fun x y => pe_bm PySem.F.plainAttrs_list PySem.F.slot_list_count PySem.F.type_list_count mt_lcount x (pa_cons y pa_nil hs) hbase hfew hline hs hpl
theorem r_idxT {ap : Pos} [F : Fx X K] (a : PD X 𝒯 e te f) (b : PD X 𝒯 e2 t2 f2) (hbase : attributeBase e "index" X.env (eval e X.env) = eval e X.env := by rfl)
    (hfew : ((backTo pos (starEach [e2] X.env)).all (fun x => !x.1) && (backToKw pos (keywordEach [] X.env)).all (fun x => x.1.isSome) && decide (([e2] : List Expr).length + ([] : List Keyword).length + (if ([] : List Keyword).isEmpty then 0 else 1) < 30)) = true := by rfl)
    (hline : (ap.endLine == pos.line) = true := by rfl) (hs : starEach [e2] X.env = (false, eval e2 X.env) :: starEach [] X.env := by rfl) (hpl : (backTo pos (starEach [] X.env)).any (·.1) = false := by rfl) : PD X 𝒯 (.Call (.Attribute e "index" ap) [e2] [] pos) (tTM rIdxT te (tCons t2 tNil)) (fTmt oIdxT f f2) :=
  d_tindex a b fun x y => pe_tm PySem.F.slot_tuple_index PySem.F.type_tuple_index mt_idxT x (pa_cons y pa_nil hs) hbase hfew hline hs hpl

/-! ### a def that may be called -/
structure Cl (P : Program) (w : World) (K : PySem.W.Frag) (mg : Str → Option Value) (base : Heap) (k : Nat) (x : Str) (np : Nat) (m : List M → Option M) : Prop where
  ex : ∃ (f : Addr) (fd : FuncData) (ps : List Str), FnOk P w K mg base CX0 k f fd ps (spG np m) ∧ mg x = some (.ref f) ∧ PySem.W.keepIn K (.ref f) = true ∧ Binds K fd ps []
theorem Cl.up {P : Program} {w : World} {K : PySem.W.Frag} {mg : Str → Option Value} {base : Heap} {j k : Nat} {x : Str} {np : Nat} {m : List M → Option M} (c : Cl P w K mg base j x np m) (h : j ≤ k) : Cl P w K mg base k x np m :=
  let ⟨f, fd, ps, a, b, c, d⟩ := c.ex
  ⟨f, fd, ps, a.mono h, b, c, d⟩
theorem d_cl {k np : Nat} {x : Str} {m : List M → Option M} (c : Cl X.prog X.w X.K X.mg X.base k x np m) (hr : Room k X.A) (h : PDA X 𝒯 (e :: es) ts fs) (hg : Gl X x := by rfl) (hdb : (x == ("__debug__" : Str)) = false := by decide)
    (he : starEach (e :: es) X.env = (false, eval e X.env) :: starEach es X.env := by rfl) (hpl : (backTo pos (starEach es X.env)).any (·.1) = false := by rfl) : PD X 𝒯 (.Call (.Name x p) (e :: es) [] pos) (tCall (spG np m) [] E0 ts) (fCall np m fs) := by
  obtain ⟨a, fd, ps, F, g, kp, b⟩ := c.ex
  exact d_call (fun z => pe_call F hr hg g kp b .nil pass0 z hdb he hpl) h
end
end Pl
end

section
set_option Elab.async false
set_option linter.all false
set_option maxRecDepth 100000
set_option maxHeartbeats 4000000
namespace Pl
open PySem PySem.Spec PyProof.Rows L2 StX

section
variable {S : Type} {X : Cx} {K : PySem.W.Frag} {𝒯 : Fam S} {pos p : Pos} {e : Expr} {ts : TA} {fs : Fn S (List W)}
/-! ### sorted(d), the keys tuples -/
theorem flat1 {h : Heap} {v : Value} {k : L2.Key} {as : List Addr} (r : Reads h v (kD k).py as) : as = [] := by
  cases k with
  | inl i => cases r; rfl
  | inr x => cases r; rfl
theorem flats {h : Heap} : ∀ {ks : List L2.Key} {vs : List Value} {as : List Addr}, ReadsAll h vs (D.pys (ks.map kD)) as → as = []
  | [], _, _, r => by
    cases r
    rfl
  | k :: ks, _, _, r => by
    rw [List.map_cons, D.pys] at r
    cases r with
    | cons r1 r2 =>
      rw [flat1 r1, flats r2]
      rfl
theorem flatT {h : Heap} {v : Value} {ks : List L2.Key} {as : List Addr} (r : Reads h v (D.tup (ks.map kD)).py as) : as = [] := by
  rw [D.py] at r
  cases r with
  | tuple _ _ _ r => exact flats r
def rSortDT : List V → Hp → VK → Prop := fun xs H Q => ∃ (a : Addr) (kvs : List (List L2.Key × V)) (r : List (List L2.Key × D)), xs = [.ref a] ∧ Rd H a (.dT kvs) ∧ RKV H r kvs ∧ SortOk (keysT r) ∧
  ∀ (q : Addr) (ys : List V), H q = none → RIs H (sortD (keysT r)) ys → Q (.ref q) (upd H q (.lst ys))
theorem keys_each {H : Hp} : ∀ {r : List (List L2.Key × D)} {kvs : List (List L2.Key × V)} {ks : List (List L2.Key × Addr × Value)}, RKV H r kvs → KT H kvs ks →
    PySem.W.EachIs (fun (u : Value) (b : D × V) => RelV b.2 u ∧ ∃ k : List L2.Key, b.1 = .tup (k.map kD) ∧ RI H b.1 b.2) (ks.map fun x => Value.ref x.2.1) ((keysT r).zip (ks.map fun x => V.ref x.2.1))
  | _, _, _, .nil, .nil => .nil
  | _, _, _, .cons (k := k) (d := d) rd rk, .cons h t => .cons ⟨rfl, k, rfl, .tup h.2.1 (ris_keys k)⟩ (keys_each rk t)
theorem each_out {H : Hp} : ∀ {us : List Value} {bs : List (D × V)}, PySem.W.EachIs (fun (u : Value) (b : D × V) => RelV b.2 u ∧ ∃ k : List L2.Key, b.1 = .tup (k.map kD) ∧ RI H b.1 b.2) us bs → RIs H (bs.map (·.1)) (bs.map (·.2)) ∧ Vals (bs.map (·.2)) us
  | _, _, .nil => ⟨.nil, .nil⟩
  | _, _, .cons ⟨h1, _, _, h3⟩ r => ⟨.cons h3 (each_out r).1, .cons h1 (each_out r).2⟩
theorem cr_sortDT (hc : X.calm = true) (hu : X.A.units + 65 < cLine) : CallR X (.builtin "sorted") rSortDT := by
  intro pins s σ H xs us Q I rv h
  obtain ⟨a, kvs, r, rfl, hd, rk, ⟨s1, s2, s3, s4⟩, q⟩ := h
  obtain ⟨u, rfl, ru⟩ := vals1 rv
  cases ru
  obtain ⟨z, hs, ks, pr, o, es, ep, ho, hx, hdt, he, hn⟩ := (show ObjOk X.prog X.w H s.heap a (.dT kvs) from hd.ok I.hok)
  have l1 : es.size = ks.length := size_of_entries he
  have l2 : kvs.length = ks.length := Paired.length pr
  have l3 := rk.length
  refine Calls.call_function_entry PyProof.Rows.kind_sorted PyProof.Rows.plain_sorted PyProof.Rows.entry_sorted (PyProof.Rows.args_sorted1 _) ?_
  unfold Builtin.«sorted»
  refine wpAny_bind (m := checkCount "sorted" 1 1 _) (wpAny_pure ?_)
  refine wpAny_bind (PySem.W.kdu_collect (A := X.A.in1) (kdl_raw hs hx hdt) (I.ok.hd hc) ho (by omega) fun h' tk acc hk it => ?_)
  have eacc : acc.toList = ks.map fun x => Value.ref x.2.1 := by
    have hl : acc.toList.length = ks.length := by rw [Array.length_toList, it.1, l1]
    refine List.ext_getElem? fun j => ?_
    rw [List.getElem?_map]
    cases hj : acc.toList[j]? with
    | none =>
      have := List.getElem?_eq_none_iff.mp hj
      rw [List.getElem?_eq_none (by omega)]
      rfl
    | some v =>
      obtain ⟨en, hen, hv⟩ := it.2 j v (by rw [← Array.getElem?_toList]; exact hj)
      have qe := entry_at he j
      rw [hen] at qe
      cases hb : ks[j]? with
      | none => rw [hb] at qe; cases qe
      | some b =>
        rw [hb] at qe
        rw [hv, Option.some.inj qe]
        rfl
  have I1 : L2.Inv X pins σ H { s with heap := h', toks := tk } := I.kept hk
  have zl : ((keysT r).zip (ks.map fun x => V.ref x.2.1)).length = (keysT r).length := by
    rw [List.length_zip]
    unfold keysT
    rw [List.length_map, List.length_map]
    omega
  have zf : ((keysT r).zip (ks.map fun x => V.ref x.2.1)).map (·.1) = keysT r := List.map_fst_zip (by unfold keysT; rw [List.length_map, List.length_map]; omega)
  have zm : ((keysT r).zip (ks.map fun x => V.ref x.2.1)).map (fun b => D.py b.1) = (keysT r).map D.py := by
    have w : ((keysT r).zip (ks.map fun x => V.ref x.2.1)).map (fun b => D.py b.1) = (((keysT r).zip (ks.map fun x => V.ref x.2.1)).map (·.1)).map D.py := by
      rw [List.map_map]
      rfl
    rw [w, zf]
  refine wpAny_bind (wpAny_newList ?_ (by rw [eacc, List.length_map]; omega))
  have hoL : (h'.push (seqObj "list" acc.toList.toArray 0)).get? h'.objs.size = some (seqObj "list" acc.toList.toArray 0) := Heap.get?_push_size _ rfl
  have I2 : L2.Inv X pins σ H { s with heap := h'.push (seqObj "list" acc.toList.toArray 0), toks := tk } := I1.kept (t' := tk) fun b u e => Heap.get?_push_of_some _ e
  show wpAny _ _ _ _ _ { s with heap := h'.push (seqObj "list" acc.toList.toArray 0), toks := tk }
  rw [eacc] at hoL I2 ⊢
  have ei := keys_each rk pr
  have er : PySem.W.EachIs (fun (u : Value) (b : D × V) => ∃ as, Reads (h'.push (seqObj "list" (ks.map fun x => Value.ref x.2.1).toArray 0)) u (D.py b.1) as ∧ h'.objs.size ∉ as) (ks.map fun x => Value.ref x.2.1) ((keysT r).zip (ks.map fun x => V.ref x.2.1)) := ei.mono fun u b ⟨p1, k, p2, p3⟩ => by
    obtain ⟨as, rr⟩ := Dp.reads I2 _ _ _ (p3.dp (K := X.K)) p1
    refine ⟨as, rr, ?_⟩
    rw [p2] at rr
    rw [flatT rr]
    exact fun z => by cases z
  have ud : ∀ b, b ∈ (keysT r).zip (ks.map fun x => V.ref x.2.1) → X.A.in1.units + 1 + (D.py b.1).depth < cLine := fun b hb => by
    have := s3 b.1 (by rw [← zf]; exact List.mem_map.mpr ⟨b, hb, rfl⟩)
    show X.A.units + 1 + 1 + (D.py b.1).depth < cLine
    omega
  refine wpAny_bind (wpAny_holding (PySem.W.list_sort_data (s := { s with heap := h'.push (seqObj "list" (ks.map fun x => Value.ref x.2.1).toArray 0), toks := tk }) (enc := fun b : D × V => D.py b.1) hoL ei er (by rw [zm]; exact s1) (by rw [zm]; exact s2) (by rw [zl]; exact Nat.le_trans s4 (by decide)) ud fun out ho' eo => ?_))
  · obtain ⟨ro, vo⟩ := each_out eo
    have es2 : (((keysT r).zip (ks.map fun x => V.ref x.2.1)).mergeSort (PySem.W.dataLe false fun b => D.py b.1)).map (·.1) = sortD (keysT r) := by
      have w := PySem.W.sort_maps (r := PySem.W.dataLe false fun b : D × V => D.py b.1) (s := PySem.W.dataLe false D.py) (fun b : D × V => b.1) (l := (keysT r).zip (ks.map fun x => V.ref x.2.1)) (fun _ _ _ _ => rfl)
      rw [zf] at w
      exact w
    rw [es2] at ro
    obtain ⟨e', he'⟩ := PyProof.Rows.sortedHeap_at (vs := ks.map fun x => Value.ref x.2.1) (out := out.toArray) hoL
    have hf : H h'.objs.size = none := I1.hok.fresh (Nat.le_refl _)
    refine wpAny_pure ⟨_, rfl, .ref h'.objs.size, _, I1.laid (t' := tk) (fun b u e => ?_) (Nat.le_refl _) (show ObjOk X.prog X.w _ _ _ (.lst _) from ⟨?_, out, e', vo, he'⟩), rfl, q _ _ hf ro⟩
    · have hb : b < h'.objs.size := Heap.lt_size e
      rw [PyProof.Rows.sortedHeap_old (Nat.ne_of_lt hb) (by rw [size_push']; exact Nat.lt_succ_of_lt hb)]
      exact Heap.get?_push_of_some _ e
    · rw [ro.length]
      unfold sortD
      rw [List.length_mergeSort]
      exact Nat.le_trans s4 (by decide)
open Classical in
noncomputable def oSortDT : List W → Option W := o1 fun w => ((dtW w).bind dof).bind fun r => if SortOk (keysT r) then some (.new (.lst ((sortD (keysT r)).map M.im))) else none
open Classical in
theorem cal_sortDT : CalW rSortDT oSortDT := by
  intro S T H0 ρ σ H Ha fp s ws vs G w Q E hb oks e0 k
  obtain ⟨x, rfl, e1⟩ := o1_of e0
  cases q : dtW x with
  | none => rw [q] at e1; cases e1
  | some l =>
    rw [q] at e1
    cases q2 : dof l with
    | none => simp only [Option.bind_some, q2] at e1; cases e1
    | some r =>
      simp only [Option.bind_some, q2] at e1
      by_cases hs : SortOk (keysT r)
      · rw [if_pos hs] at e1
        injection e1 with e1
        subst e1
        obtain ⟨v, g, rfl, ok⟩ := woks1 oks
        obtain ⟨a, kvs, f, rfl, ha, ek, rr, _, _⟩ := dtW_ok ok q
        have el := dof_eq q2
        subst el
        obtain ⟨rk, _⟩ := rkv_of ek rr
        refine ⟨a, kvs, r, rfl, .inl ha, rk, hs, fun p ys hp ry => ?_⟩
        obtain ⟨n1, n2⟩ := newly (o := .lst ys) E hp
        exact k _ _ [p] n1 n2 (new_ims hp (hb p hp) ry)
      · rw [if_neg hs] at e1
        cases e1
theorem r_sortDT [F : Fx X K] (h : PDA X 𝒯 [e] ts fs) (hg : Gl X "sorted" := by rfl) (he : starEach [e] X.env = (false, eval e X.env) :: starEach [] X.env := by rfl) (hpl : (backTo pos (starEach [] X.env)).any (·.1) = false := by rfl) :
    PD X 𝒯 (.Call (.Name "sorted" p) [e] [] pos) (tCB rSortDT ts) (fCal oSortDT fs) := d_callB (id := "sorted") cal_sortDT h fun z => pe_callB (cr_sortDT F.calm F.hu) hg F.bl.sorted PyProof.Rows.boot_sorted z (by decide) (by decide) he hpl
/-! ### a module's number -/
theorem r_gint {x : Str} {i : Int} {t : Tok} (hm : X.mg x = some (.int i t)) (hg : Gl X x := by rfl) (hd : (x == ("__debug__" : Str)) = false := by decide) : PD X 𝒯 (.Name x pos) (tC (.int i)) (fC (.int i) : Fn S W) := d_glob (pe_glob hg hm (show RelV (.int i) (.int i t) from ⟨t, rfl⟩) hd) fun _ => .int i
end
end Pl
end

section
set_option Elab.async false
set_option linter.all false
set_option maxRecDepth 100000
set_option maxHeartbeats 4000000
namespace Pl
open PySem PySem.Spec PyProof.Rows L2 StX

/-! ### a law's source: a dict that calls turn -/
structure Src where
  cells : List Int
  left : Int
  mixed : Int
  turn : Int
def srcD (l : Addr) (s : Src) : HO := .dK [(.inr "cells", .ref l), (.inr "left", .int s.left), (.inr "mixed", .int s.mixed), (.inr "turn", .int s.turn)]
/-- the dict at d, its list at l -/
def SrcAt (d l : Addr) (s : Src) (H : Hp) : Prop := d ≠ l ∧ H d = some (srcD l s) ∧ H l = some (.lst (s.cells.map V.int))
def srcVol (d l : Addr) : Vol Src where
  own := fun a => a = d ∨ a = l
  rel := SrcAt d l
  ref := .ref d
  loc := fun h r => ⟨r.1, (h d (.inl rfl)).trans r.2.1, (h l (.inr rfl)).trans r.2.2⟩
  at_ := fun {s H a} r h => by
    rcases h with rfl | rfl
    · exact ⟨_, r.2.1, True.intro⟩
    · exact ⟨_, r.2.2, True.intro⟩
def FamS : Fam Src := fun T => ∃ d l, T = srcVol d l
section
variable {X : Cx} {K : PySem.W.Frag} {pos p p2 ap : Pos} {e : Expr} {te tv : TE} {fe fv : Fn Src W} {x : Str}
def isSrc (ρ : Rho) (i : Nat) : Bool := match cel ρ i with
  | .src => true
  | _ => false
theorem isSrc_of {ρ : Rho} {i : Nat} (h : isSrc ρ i = true) : cel ρ i = .src := by
  unfold isSrc at h
  split at h
  · assumption
  · cases h
theorem src_at {T : Vol Src} {H0 : Bs} {ρ : Rho} {σ : L2.St} {H : Hp} {fp : Nat → List Addr} {s : Src} {i : Nat} (hT : FamS T) (E : Env T H0 ρ σ H fp s) (h : isSrc ρ i = true) : ∃ d l, T = srcVol d l ∧ σ[i]? = some (some (.ref d)) ∧ SrcAt d l s H := by
  obtain ⟨d, l, rfl⟩ := hT
  have ok := E.ok i
  rw [isSrc_of h] at ok
  exact ⟨d, l, rfl, ok.2, E.rel⟩
def fSG (i : Nat) (sel : Src → Int) : Fn Src W := fun ρ s => if isSrc ρ i = true then some (.im (.int (sel s)), s) else none
theorem de_sg {i : Nat} {k : Str} {sel : Src → Int} (hk : ∀ l s, valV [((.inr "cells" : L2.Key), V.ref l), (.inr "left", .int s.left), (.inr "mixed", .int s.mixed), (.inr "turn", .int s.turn)] (.inr k) = some (.int (sel s))) : DE FamS (tDGet (tVar i) (tC (.str k))) (fSG i sel) := by
  intro T hT H0 ρ σ H fp s Q w s' E e0 kk
  unfold fSG at e0
  by_cases c : isSrc ρ i = true
  · rw [if_pos c] at e0
    injection e0 with e0
    injection e0 with e1 e2
    subst e1
    subst e2
    obtain ⟨d, l, rfl, hs, r⟩ := src_at hT E c
    exact ⟨.ref d, hs, d, .int (sel s), rfl, .inl ⟨_, .inr k, .inl r.2.1, rfl, (hk l s).symm⟩, kk _ H [] (ExV.refl _ H) E.rel (wok_im (.int _))⟩
  · rw [if_neg c] at e0
    cases e0
def fSLen (i : Nat) : Fn Src W := fun ρ s => if isSrc ρ i = true then some (.im (.int (s.cells.length : Nat)), s) else none
theorem de_slen {i : Nat} : DE FamS (tCB (rLen K) (tCons (tDGet (tVar i) (tC (.str "cells"))) tNil)) (fSLen i) := by
  intro T hT H0 ρ σ H fp s Q w s' E e0 kk
  unfold fSLen at e0
  by_cases c : isSrc ρ i = true
  · rw [if_pos c] at e0
    injection e0 with e0
    injection e0 with e1 e2
    subst e1
    subst e2
    obtain ⟨d, l, rfl, hs, r⟩ := src_at hT E c
    refine ⟨.ref d, hs, d, .ref l, rfl, .inl ⟨_, .inr "cells", .inl r.2.1, rfl, rfl⟩, .inl ⟨l, _, rfl, .inl (.of r.2.2), ?_⟩⟩
    rw [List.length_map]
    exact kk _ H [] (ExV.refl _ H) E.rel (wok_im (.int _))
  · rw [if_neg c] at e0
    cases e0
def fSPop (i : Nat) : Fn Src W := fun ρ s => if isSrc ρ i = true then match s.cells.getLast? with
  | some c => some (.im (.int c), { s with cells := s.cells.dropLast })
  | none => none else none
theorem de_spop {i : Nat} : DE FamS (tBM0 K "list" rPop (tDGet (tVar i) (tC (.str "cells")))) (fSPop i) := by
  intro T hT H0 ρ σ H fp s Q w s' E e0 kk
  unfold fSPop at e0
  by_cases c : isSrc ρ i = true
  · rw [if_pos c] at e0
    obtain ⟨d, l, rfl, hs, r⟩ := src_at hT E c
    cases q : s.cells.getLast? with
    | none => rw [q] at e0; cases e0
    | some z =>
      rw [q] at e0
      injection e0 with e0
      injection e0 with e1 e2
      subst e1
      subst e2
      refine ⟨.ref d, hs, d, .ref l, rfl, .inl ⟨_, .inr "cells", .inl r.2.1, rfl, rfl⟩, .inl ⟨rfl, _, .of r.2.2⟩, l, _, .int z, rfl, rfl, r.2.2, ?_, ?_⟩
      · rw [List.length_map, List.getElem?_map, ← List.getLast?_eq_getElem?, q]
        rfl
      · refine kk _ _ [] (fun a o n h => ?_) ⟨r.1, ?_, ?_⟩ (wok_im (.int z))
        · rw [upd_ne fun h => n (.inr h)]
          exact h
        · rw [upd_ne r.1]
          exact r.2.1
        · rw [upd_same]
          show some (HO.lst ((s.cells.map V.int).dropLast)) = some (.lst (s.cells.dropLast.map V.int))
          rw [List.map_dropLast]
  · rw [if_neg c] at e0
    cases e0
/-- source[k] = a whole number -/
def fSPut (i : Nat) (st : Src → Int → Src) (fv : Fn Src W) : Fn Src Out := fun ρ s => bnd (fv ρ s) fun w s1 => if isSrc ρ i = true then lft (intW w) s1 (fun v => v) |>.map (fun p => (Out.nx ρ, st s1 p.1)) else none
theorem ds_sput {i : Nat} {k : Str} {st : Src → Int → Src} (hk : ∀ l s v, putK [((.inr "cells" : L2.Key), V.ref l), (.inr "left", .int s.left), (.inr "mixed", .int s.mixed), (.inr "turn", .int s.turn)] (.inr k) (.int v) = [(.inr "cells", V.ref l), (.inr "left", .int (st s v).left), (.inr "mixed", .int (st s v).mixed), (.inr "turn", .int (st s v).turn)]) (hc : ∀ s v, (st s v).cells = s.cells)
    (hv : DE FamS tv fv) : DS FamS (sDPut (tVar i) (tC (.str k)) tv) (fSPut i st fv) := by
  intro T hT H0 ρ σ H fp s D o s' E e0 kk
  obtain ⟨w, s1, e1, e2⟩ := bnd_of e0
  by_cases c : isSrc ρ i = true
  · rw [if_pos c] at e2
    cases q : intW w with
    | none => rw [q] at e2; cases e2
    | some v =>
      rw [q] at e2
      injection e2 with e2
      injection e2 with e2 e3
      subst e2
      subst e3
      obtain rfl := intW_of q
      refine hv T hT H0 ρ σ H fp s _ _ s1 E e1 fun z H1 g x r ok => ?_
      have E1 := E.step x r
      obtain ⟨d, l, rfl, hs, r1⟩ := src_at hT E1 c
      have ez := ok.2.inv_int
      subst ez
      refine ⟨.ref d, hs, d, _, rfl, .inl ⟨_, .inr k, r1.2.1, rfl, by show 4 < sizeLine; decide, rfl⟩, ?_⟩
      have x2 : ExV (srcVol d l) H1 (upd H1 d (.dK (putK [((.inr "cells" : L2.Key), V.ref l), (.inr "left", .int s1.left), (.inr "mixed", .int s1.mixed), (.inr "turn", .int s1.turn)] (.inr k) (.int v)))) := fun a o n h => by
        rw [upd_ne fun h => n (.inl h)]
        exact h
      have r2 : SrcAt d l (st s1 v) (upd H1 d (.dK (putK [((.inr "cells" : L2.Key), V.ref l), (.inr "left", .int s1.left), (.inr "mixed", .int s1.mixed), (.inr "turn", .int s1.turn)] (.inr k) (.int v)))) := by
        refine ⟨r1.1, ?_, ?_⟩
        · rw [upd_same, hk]
          rfl
        · rw [upd_ne (Ne.symm r1.1), hc]
          exact r1.2.2
      exact kk σ _ fp (E1.step x2 r2) (Frm.exp E (x.trans x2))
  · rw [if_neg c] at e2
    cases e2
/-! ### the rules -/
def stL (s : Src) (v : Int) : Src := { s with left := v }
def stMx (s : Src) (v : Int) : Src := { s with mixed := v }
def stT (s : Src) (v : Int) : Src := { s with turn := v }
end
end Pl
end

section
set_option Elab.async false
set_option linter.all false
set_option maxRecDepth 100000
set_option maxHeartbeats 4000000
namespace Pl
open PySem PySem.Spec PyProof.Rows L2 StX

section
variable {X : Cx} {K : PySem.W.Frag} {pos p p2 ap : Pos} {e : Expr} {es : List Expr} {te tv : TE} {ts : TA} {fe fv : Fn Src W} {fs : Fn Src (List W)}
theorem r_sg {i : Nat} {k : Str} {sel : Src → Int} {x : Str} {j : Nat} [F : Fx X K] (h : PE X (.Name x p) (tVar i)) (hk : ∀ l s, valV [((.inr "cells" : L2.Key), V.ref l), (.inr "left", .int s.left), (.inr "mixed", .int s.mixed), (.inr "turn", .int s.turn)] (.inr k) = some (.int (sel s)))
    (hs : NoSl (.Constant (.str k) j p2)) : PD X FamS (.Subscript (.Name x p) (.Constant (.str k) j p2) pos) (tDGet (tVar i) (tC (.str k))) (fSG i sel) := ⟨pe_dget (by have := F.hu; omega) h pe_str hs, de_sg hk⟩
theorem r_slen {i : Nat} {x : Str} {j : Nat} {p3 p4 : Pos} [F : Fx X K] (h : PE X (.Name x p) (tVar i)) (hs : NoSl (.Constant (.str "cells") j p2)) (hg : Gl X "len" := by rfl)
    (he : starEach [.Subscript (.Name x p) (.Constant (.str "cells") j p2) p3] X.env = (false, eval (.Subscript (.Name x p) (.Constant (.str "cells") j p2) p3) X.env) :: starEach [] X.env := by rfl) (hpl : (backTo pos (starEach [] X.env)).any (·.1) = false := by rfl) :
    PD X FamS (.Call (.Name "len" p4) [.Subscript (.Name x p) (.Constant (.str "cells") j p2) p3] [] pos) (tCB (rLen K) (tCons (tDGet (tVar i) (tC (.str "cells"))) tNil)) (fSLen i) := by
  obtain rfl := F.hK
  exact ⟨pe_callB call_lenA hg F.bl.len PySem.boot_len (pa_cons (pe_dget (by have := F.hu; omega) h pe_str hs) pa_nil he) (by decide) (by decide) he hpl, de_slen⟩
theorem r_spop {i : Nat} {x : Str} {j : Nat} {p3 : Pos} [F : Fx X K] (h : PE X (.Name x p) (tVar i)) (hs : NoSl (.Constant (.str "cells") j p2))
    (hbase : attributeBase (.Subscript (.Name x p) (.Constant (.str "cells") j p2) p3) "pop" X.env (eval (.Subscript (.Name x p) (.Constant (.str "cells") j p2) p3) X.env) = eval (.Subscript (.Name x p) (.Constant (.str "cells") j p2) p3) X.env := by rfl) (hline : (ap.endLine == pos.line) = true := by rfl) :
    PD X FamS (.Call (.Attribute (.Subscript (.Name x p) (.Constant (.str "cells") j p2) p3) "pop" ap) [] [] pos) (tBM0 K "list" rPop (tDGet (tVar i) (tC (.str "cells")))) (fSPop i) := by
  obtain rfl := F.hK
  exact ⟨pe_bm0 PySem.F.plainAttrs_list PySem.F.slot_list_pop PySem.F.type_list_pop mt_pop (pe_dget (by have := F.hu; omega) h pe_str hs) hbase hline, de_spop⟩
theorem s_sput {i : Nat} {k : Str} {stf : Src → Int → Src} {st : Stmt} (hp : PE X e tv → PS X st (sDPut (tVar i) (tC (.str k)) tv))
    (hk : ∀ l s v, putK [((.inr "cells" : L2.Key), V.ref l), (.inr "left", .int s.left), (.inr "mixed", .int s.mixed), (.inr "turn", .int s.turn)] (.inr k) (.int v) = [(.inr "cells", V.ref l), (.inr "left", .int (stf s v).left), (.inr "mixed", .int (stf s v).mixed), (.inr "turn", .int (stf s v).turn)]) (hc : ∀ s v, (stf s v).cells = s.cells)
    (h : PD X FamS e tv fv) : PDS X FamS st (sDPut (tVar i) (tC (.str k)) tv) (fSPut i stf fv) := ⟨hp h.pe, ds_sput hk hc h.de⟩

/-! ### a def that takes the source -/
def AllX (d l : Addr) (H : Hp) : List M → List V → Prop
  | [], [] => True
  | m :: ms, v :: vs => (∃ f, RM H m v f ∧ ∀ a ∈ f, a ≠ d ∧ a ≠ l) ∧ AllX d l H ms vs
  | _, _ => False
def KeepS (d l : Addr) (H H' : Hp) : Prop := ∀ a o, a ≠ d → a ≠ l → H a = some o → H' a = some o
def spS (np : Nat) (g : Src → List M → Option (M × Src)) : Sp := fun vs H Q _ => ∃ d l s vr ms m s', vs = .ref d :: vr ∧ vr.length = np ∧ AllX d l H ms vr ∧ SrcAt d l s H ∧ g s ms = some (m, s') ∧
  ∀ v H' f, KeepS d l H H' → SrcAt d l s' H' → RM H' m v f → Pln H' m v → (∀ a ∈ f, H a = none) → Q v H'
def outS : Option (Out × Src) → Option (M × Src)
  | some (.rt m, s) => some (m, s)
  | some (.nx _, s) => some (.im .non, s)
  | _ => none
def runS (n : Nat) (f : Fn Src Out) (s : Src) (ms : List M) : Option (M × Src) := outS (f (.src :: rho0 n ms) s)
theorem AllX.length {d l : Addr} {H : Hp} : ∀ {ms : List M} {vs : List V}, AllX d l H ms vs → vs.length = ms.length
  | [], [], _ => rfl
  | m :: ms, v :: vs, h => by rw [List.length_cons, List.length_cons, AllX.length h.2]
  | [], _ :: _, h => h.elim
  | _ :: _, [], h => h.elim
theorem AllX.get {d l : Addr} {H : Hp} : ∀ {ms : List M} {vs : List V} {i : Nat} {m : M}, AllX d l H ms vs → ms[i]? = some m → ∃ v f, vs[i]? = some v ∧ RM H m v f ∧ ∀ a ∈ f, a ≠ d ∧ a ≠ l
  | [], _, _, _, _, e => by simp at e
  | _ :: _, [], _, _, h, _ => h.elim
  | m :: ms, v :: vs, 0, _, h, e => by
    simp at e
    subst e
    obtain ⟨f, h1, h2⟩ := h.1
    exact ⟨v, f, rfl, h1, h2⟩
  | m :: ms, v :: vs, i + 1, _, h, e => AllX.get (i := i) h.2 (by simpa using e)
theorem par_okS {d l : Addr} {H : Hp} {m : M} {v : V} {f : List Addr} (r : RM H m v f) (n : ∀ a ∈ f, a ≠ d ∧ a ≠ l) : ∃ g, CellOk (srcVol d l) ⟨H, []⟩ H (parC m) (some (some v)) g := by
  have nw : ∀ a ∈ f, ¬ (srcVol d l).own a ∧ ((false : Bool) = true → (⟨H, []⟩ : Bs) a = none) := fun a ha => ⟨fun z => by
    rcases z with z | z
    · exact (n a ha).1 z
    · exact (n a ha).2 z, fun z => nomatch z⟩
  cases m with
  | im x =>
    obtain ⟨_, q⟩ := r.inv_im
    exact ⟨[], rfl, v, rfl, q⟩
  | lst x => exact ⟨f, ⟨v, rfl, r⟩, nw⟩
  | mtp x => exact ⟨f, ⟨v, rfl, r⟩, nw⟩
  | dk x => exact ⟨f, ⟨v, rfl, r⟩, nw⟩
  | dt x => exact ⟨f, ⟨v, rfl, r⟩, nw⟩
theorem cel_cons (c : C) (ρ : Rho) (i : Nat) : cel (c :: ρ) (i + 1) = cel ρ i := by
  unfold cel
  rw [List.getElem?_cons_succ]
theorem env_startS {n : Nat} {N : List Str} {d l : Addr} {H : Hp} {s : Src} {ms : List M} {vs : List V} (hn : N.length = n + 1) (hx : AllX d l H ms vs) (hs : SrcAt d l s H) :
    ∃ fp, Env (srcVol d l) ⟨H, []⟩ (.src :: rho0 n ms) (L2.start N (.ref d :: vs)) H fp s := by
  have e0 : L2.start N (.ref d :: vs) = some (.ref d) :: (vs.map some ++ List.replicate (n - vs.length) none) := by
    unfold L2.start
    rw [List.map_cons, List.cons_append, hn, List.length_cons, Nat.add_sub_add_right]
  rw [e0]
  have ok : ∀ i, ∃ g, CellOk (srcVol d l) ⟨H, []⟩ H (cel (.src :: rho0 n ms) i) ((some (V.ref d) :: (vs.map some ++ List.replicate (n - vs.length) none))[i]?) g := fun i => by
    cases i with
    | zero => exact ⟨[], rfl, rfl⟩
    | succ i =>
      rw [cel_cons, List.getElem?_cons_succ, rho0_cel]
      cases q : ms[i]? with
      | none => exact ⟨[], rfl⟩
      | some m =>
        obtain ⟨v, f, e, r, nf⟩ := hx.get q
        have hl : i < vs.length := by
          rcases Nat.lt_or_ge i vs.length with z | z
          · exact z
          · rw [List.getElem?_eq_none z] at e
            cases e
        rw [List.getElem?_append_left (by rw [List.length_map]; exact hl), List.getElem?_map, e]
        exact par_okS r nf
  refine ⟨fun i => Classical.choose (ok i), ?_, hs, fun a o _ e => e, fun i => Classical.choose_spec (ok i), fun i j _ ho => ?_, fun p hp => by cases hp⟩
  · unfold rho0
    rw [List.length_cons, List.length_cons, List.length_append, List.length_append, List.length_map, List.length_map, List.length_replicate, List.length_replicate, hx.length]
  · obtain ⟨m, e⟩ := ho
    cases i with
    | zero => cases e
    | succ i =>
      rw [cel_cons, rho0_cel] at e
      cases q : ms[i]? with
      | none => rw [q] at e; cases e
      | some m' => rw [q] at e; exact absurd e parC_own
theorem keepS_of {d l : Addr} {H H' : Hp} (x : ExV (srcVol d l) H H') : KeepS d l H H' := fun a o n1 n2 e => x a o (fun z => by
  rcases z with z | z
  · exact n1 z
  · exact n2 z) e
theorem ok_defS {P : Program} {w : World} {mg : Str → Option Value} {base : Heap} {x qual : Str} {st : Stmt} {f : Addr} {fd : FuncData} {N ps : List Str} {k : Nat} {fn : Fn Src Out} {n np : Nat} (F : Fun K x qual st f fd) (S : FnScope N ps (defScope st)) (hn : N.length = n + 1) (hp : ps.length = np + 1)
    (body : ∀ (cdv : Value) (A : Around) (outer : List PySem.Env) (s : Shared) (H : Hp) (E : XK), Room k (A.deeper (envOfC qual (defScope st) s.heap.objs.size f cdv)) →
      ∃ t, PDB (cxOf CX0 P w K mg base N qual (defScope st) f cdv A outer s H E).nox FamS (defBody st) t fn) : FnOk P w K mg base CX0 (k + 1) f fd ps (spS np (runS n fn)) := by
  refine F.ok S (fun vs H Q E h => ?_) (fun cdv A outer s H vs Q E hr h => ?_)
  · obtain ⟨d, l, s, vr, ms, m, s', rfl, hl, _⟩ := h
    rw [List.length_cons, hl, hp]
  · obtain ⟨d, l, s0, vr, ms, m, s', rfl, hl, hx, hs, hg, q⟩ := h
    obtain ⟨t, pd⟩ := body cdv A outer s H E hr
    refine ⟨t, pd.pe, ?_⟩
    obtain ⟨fp, E0⟩ := env_startS hn hx hs
    unfold runS at hg
    cases e : fn (.src :: rho0 n ms) s0 with
    | none => rw [e] at hg; cases hg
    | some r =>
      obtain ⟨o, u⟩ := r
      rw [e] at hg
      refine pd.de (srcVol d l) ⟨d, l, rfl⟩ ⟨H, []⟩ _ _ H fp s0 _ o u E0 e ?_
      cases o with
      | rt m' =>
        injection hg with hg
        injection hg with h1 h2
        subst h1
        subst h2
        exact fun v H' g x _ r rm pl fr => q v H' g (keepS_of x) r rm pl fr
      | nx ρ' =>
        injection hg with hg
        injection hg with h1 h2
        subst h1
        subst h2
        exact fun σ' H' fp' E' _ => q .non H' [] (keepS_of E'.exv) E'.rel (.im .non) True.intro (fun _ z => by cases z)
      | bk ρ' => cases hg
      | ct ρ' => cases hg
/-! ### its calls -/
def fCallS (np : Nat) (g : Src → List M → Option (M × Src)) (fs : Fn Src (List W)) : Fn Src W := fun ρ s => bnd (fs ρ s) fun ws s1 => match ws with
  | .src :: wr => if wr.length = np then match (args wr).bind (g s1) with
      | some (m, s2) => some (ofM m, s2)
      | none => none
    else none
  | _ => none
theorem argsX {d l : Addr} {fp : Nat → List Addr} {Ha H : Hp} {s0 : Src} {ws : List W} {vs : List V} {G : List Addr} {T : Vol Src} (hT : T = srcVol d l) (hfp : ∀ i, ∀ a ∈ fp i, ¬ T.own a) (r : T.rel s0 Ha) (h : Woks T fp Ha H ws vs G) : ∀ {ms : List M}, args ws = some ms → AllX d l H ms vs := by
  induction h with
  | nil =>
    intro ms e
    injection e with e
    subst e
    exact True.intro
  | @cons w v g ws vs G F h1 _ _ _ ih =>
    intro ms q
    unfold args at q
    cases q1 : arg w with
    | none => rw [q1] at q; cases q
    | some m =>
      cases q2 : args ws with
      | none => rw [q1, q2] at q; cases q
      | some ms' =>
        rw [q1, q2] at q
        injection q with q
        subst q
        refine ⟨⟨g, arg_ok h1 q1, fun a ha => ?_⟩, ih q2⟩
        have no : ¬ T.own a := by
          cases w with
          | im x =>
            obtain ⟨rfl, _⟩ := h1
            cases ha
          | new m' => exact T.new r (h1.2.1 a ha)
          | sl i m' => exact hfp i a (h1.2 a ha)
          | src => cases q1
          | tm m' => exact T.new r (h1.2 a ha)
        subst hT
        exact ⟨fun z => no (.inl z), fun z => no (.inr z)⟩
theorem de_callS {np : Nat} {g : Src → List M → Option (M × Src)} {E : XK} (h : DA FamS ts fs) : DE FamS (tCall (spS np g) [] E ts) (fCallS np g fs) := by
  intro T hT H0 ρ σ H fp s Q w s' E0 e0 k
  obtain ⟨ws, s1, e1, e2⟩ := bnd_of e0
  split at e2
  · rename_i wr
    by_cases hl : wr.length = np
    · rw [if_pos hl] at e2
      cases q : (args wr).bind (g s1) with
      | none => rw [q] at e2; cases e2
      | some r =>
        obtain ⟨m, s2⟩ := r
        rw [q] at e2
        injection e2 with e2
        injection e2 with e3 e4
        subst e3
        subst e4
        obtain ⟨ms, q1, q2⟩ := bind_of q
        refine h T hT H0 ρ σ H fp s _ _ s1 E0 e1 fun vs H1 G x r oks => ?_
        have hT' := hT
        obtain ⟨d, l, rfl⟩ := hT'
        have E1 := E0.step x r
        cases oks with
        | @cons _ v0 g0 _ vr _ _ o1 r1 d1 q3 =>
          obtain ⟨_, rfl⟩ := o1
          refine ⟨d, l, s1, vr, ms, m, s2, by rw [List.append_nil]; rfl, by rw [r1.length]; exact hl, argsX rfl (fun i a ha => (E0.mu i a ha).2) E0.rel r1 q1, r, q2, fun v H' f kp r' rm pl fr => ?_⟩
          have x2 : ExV (srcVol d l) H1 H' := fun a o n e => kp a o (fun z => n (.inl z)) (fun z => n (.inr z)) e
          exact k v H' f (x.trans x2) r' (ofM_ok rm (fun a ha => x.back E0.rel (fr a ha) r) pl)
    · rw [if_neg hl] at e2
      cases e2
  · cases e2
structure ClS (P : Program) (w : World) (K : PySem.W.Frag) (mg : Str → Option Value) (base : Heap) (k : Nat) (x : Str) (np : Nat) (m : Src → List M → Option (M × Src)) : Prop where
  ex : ∃ (f : Addr) (fd : FuncData) (ps : List Str), FnOk P w K mg base CX0 k f fd ps (spS np m) ∧ mg x = some (.ref f) ∧ PySem.W.keepIn K (.ref f) = true ∧ Binds K fd ps []
theorem ClS.up {P : Program} {w : World} {mg : Str → Option Value} {base : Heap} {j k : Nat} {x : Str} {np : Nat} {m : Src → List M → Option (M × Src)} (c : ClS P w K mg base j x np m) (h : j ≤ k) : ClS P w K mg base k x np m :=
  let ⟨f, fd, ps, a, b, c, d⟩ := c.ex
  ⟨f, fd, ps, a.mono h, b, c, d⟩
theorem d_clS {k np : Nat} {x : Str} {m : Src → List M → Option (M × Src)} (c : ClS X.prog X.w X.K X.mg X.base k x np m) (hr : Room k X.A) (h : PDA X FamS (e :: es) ts fs) (hg : Gl X x := by rfl) (hdb : (x == ("__debug__" : Str)) = false := by decide)
    (he : starEach (e :: es) X.env = (false, eval e X.env) :: starEach es X.env := by rfl) (hpl : (backTo pos (starEach es X.env)).any (·.1) = false := by rfl) : PD X FamS (.Call (.Name x p) (e :: es) [] pos) (tCall (spS np m) [] E0 ts) (fCallS np m fs) := by
  obtain ⟨a, fd, ps, F, g, kp, b⟩ := c.ex
  exact ⟨pe_call F hr hg g kp b .nil pass0 h.pe hdb he hpl, de_callS h.de⟩
end
end Pl
end

section
set_option Elab.async false
set_option linter.all false
set_option maxRecDepth 100000
set_option maxHeartbeats 4000000
namespace Pl
open PySem PySem.Spec PyProof.Rows L2 StX

section
variable {S : Type} {X : Cx} {K : PySem.W.Frag} {𝒯 : Fam S} {pos p p2 p3 : Pos} {e : Expr} {es : List Expr} {te : TE} {ts : TA} {fe : Fn S W} {fs : Fn S (List W)}
/-! ### len(set(xs)), whole numbers -/
def dedI (ns : List Int) : List Int := PyProof.Rows.firstMet (fun i => ns.getD i 0) ns.length
def tLenSet (K : PySem.W.Frag) (ta : TE) : TE := fun σ H Q => ta σ H fun x H1 => ∃ (l : Addr) (ns : List Int), x = .ref l ∧ SqL K H1 l (ns.map V.int) ∧ ns.length ≤ 4000 ∧ Q (.int ((dedI ns).length : Nat)) H1
theorem vals_intsAre : ∀ {ns : List Int} {us : List Value}, Vals (ns.map V.int) us → PyProof.Rows.IntsAre us ns
  | [], _, .nil => .nil
  | n :: ns, _, .cons ⟨k, e⟩ t => by
    subst e
    exact .cons n k (vals_intsAre t)
theorem pe_lenSet (hg : Gl X "len") (hm : X.mg "len" = none) (hg2 : Gl X "set") (hm2 : X.mg "set" = none) (ha : PE X e te) (hc : X.calm = true)
    (na : starEach [e] X.env = (false, eval e X.env) :: starEach [] X.env := by rfl)
    (na2 : starEach [.Call (.Name "set" p2) [e] [] p3] X.env = (false, eval (.Call (.Name "set" p2) [e] [] p3) X.env) :: starEach [] X.env := by rfl) : PE X (.Call (.Name "len" p) [.Call (.Name "set" p2) [e] [] p3] [] pos) (tLenSet X.K te) := by
  constructor
  intro pins s σ H Q I h
  refine Call_ (ld_blt I hg hm boot_len ?_)
  refine PyProof.Rows.callWith_builtin1 (PyProof.Rows.args_cons ?_ rfl) rfl rfl
  refine Call_ (ld_blt I hg2 hm2 boot_set ?_)
  refine PyProof.Rows.callWith_type1 (PyProof.Rows.args_cons (thn (ha.run pins s σ H _ I h) fun v s1 q => PyProof.Rows.args_nil ?_) na) na rfl
  obtain ⟨x, H1, I1, r1, l, ns, rfl, hq, hl, q1⟩ := q
  cases r1
  obtain ⟨its, rv, pl, hz⟩ := I1.list hq
  have ez : its.toArray.size = ns.length := by rw [List.size_toArray, ← rv.length, List.length_map]
  refine PySem.call_set_list (I1.ok.hd hc) pl.isList (by simpa using vals_intsAre rv) (by rw [ez]; unfold scanBound; omega) fun h' tk hS hk => PyProof.Rows.args_nil ?_
  rw [ez] at hS
  obtain ⟨o, rows, ep, t, ho, hex, hd, _, _, _, hf, hn⟩ := hS
  have I2 : L2.Inv X pins σ H1 { s1 with heap := h', toks := tk } := I1.kept fun b o e => hk b o (Heap.lt_size e) e
  have small := PyProof.Rows.firstMet_length_le (fun i => ns.getD i 0) ns.length
  exact call_len_set ho hex hd hf (by rw [hn]; omega) ⟨.int ((dedI ns).length : Nat), H1, I2.tok _, ⟨_, by rw [hn]; rfl⟩, q1⟩
def fLenSet (fe : Fn S W) : Fn S W := fun ρ s => bnd (fe ρ s) fun w s1 => if isLst w = true then match seqI w with
  | some ns => if ns.length ≤ 4000 then some (.im (.int ((dedI ns).length : Nat)), s1) else none
  | none => none else none
theorem de_lenSet (h : DE 𝒯 te fe) : DE 𝒯 (tLenSet K te) (fLenSet fe) := by
  intro T hT H0 ρ σ H fp s Q w s' E e0 k
  obtain ⟨x, s1, e1, e2⟩ := bnd_of e0
  by_cases hl : isLst x = true
  · rw [if_pos hl] at e2
    cases q : seqI x with
    | none => rw [q] at e2; cases e2
    | some ns =>
      rw [q] at e2
      have e2 : (if ns.length ≤ 4000 then some (W.im (.int ((dedI ns).length : Nat)), s1) else none) = some (w, s') := e2
      by_cases hz : ns.length ≤ 4000
      · rw [if_pos hz] at e2
        injection e2 with e2
        injection e2 with e2 e3
        subst e2
        subst e3
        refine h T hT H0 ρ σ H fp s _ x _ E e1 fun v H1 g xx r ok => ?_
        obtain ⟨a, rfl, hh⟩ := seqI_ok ok q
        refine ⟨a, ns, rfl, ?_, hz, k _ H1 [] xx r (wok_im (.int _))⟩
        rcases hh with ⟨_, z | z⟩ | z
        · subst z; cases hl
        · subst z; cases hl
        · exact .of z
      · rw [if_neg hz] at e2
        cases e2
  · rw [if_neg hl] at e2
    cases e2
theorem r_lenSet [F : Fx X K] (h : PD X 𝒯 e te fe) (hg : Gl X "len" := by rfl) (hg2 : Gl X "set" := by rfl) (na : starEach [e] X.env = (false, eval e X.env) :: starEach [] X.env := by rfl)
    (na2 : starEach [.Call (.Name "set" p2) [e] [] p3] X.env = (false, eval (.Call (.Name "set" p2) [e] [] p3) X.env) :: starEach [] X.env := by rfl) : PD X 𝒯 (.Call (.Name "len" p) [.Call (.Name "set" p2) [e] [] p3] [] pos) (tLenSet K te) (fLenSet fe) := by
  obtain rfl := F.hK
  exact ⟨pe_lenSet hg F.bl.len hg2 F.bl.set h.pe F.calm na na2, de_lenSet h.de⟩

/-! ### repr -/
class Gx (X : Cx) : Prop where
  g : X.A.guards = some []
def shOk (d : PyData) : Bool := d.showable && (!d.hasDict && (decide (d.depth ≤ 60) && decide (d.shown.length ≤ cap)))
theorem shOk_of {d : PyData} (h : shOk d = true) : d.showable = true ∧ d.hasDict = false ∧ d.depth ≤ 60 ∧ d.shown.length ≤ cap := by
  unfold shOk at h
  simp only [Bool.and_eq_true, decide_eq_true_eq, Bool.not_eq_true'] at h
  exact ⟨h.1, h.2.1, h.2.2.1, h.2.2.2⟩
def rRepr (K : PySem.W.Frag) : List V → Hp → VK → Prop := fun xs H Q => ∃ (a : Addr) (d : PyData), xs = [.ref a] ∧ Dp K H (.ref a) d ∧ shOk d = true ∧ Q (.str d.shown) H
theorem cr_repr [G : Gx X] (hu : X.A.units + 65 < cLine) : CallR X (.builtin "repr") (rRepr X.K) := by
  intro pins s σ H xs us Q I r h
  obtain ⟨a, d, rfl, hd, ho, q⟩ := h
  obtain ⟨u, rfl, ru⟩ := vals1 r
  cases ru
  obtain ⟨as, rd⟩ := Dp.reads I d _ _ hd rfl
  obtain ⟨h1, h2, h3, h4⟩ := shOk_of ho
  exact repr_of_reads' rd h1 (fun z => by rw [h2] at z; cases z) G.g (by omega) (fun b o e => e) (fun h' u tk hk => ⟨.str d.shown, H, I.kept hk, ⟨u, rfl⟩, q⟩) (Nat.le_trans h4 (by decide))
def isRefW : W → Bool
  | .im (.tup _) => true
  | .im (.ptp _) => true
  | .new (.lst _) => true
  | .sl _ (.lst _) => true
  | _ => false
def reprW (w : W) : Option D := if isRefW w = true then match pyW w with
  | some d => if shOk d = true then some (.str d.shown) else none
  | none => none else none
def oRepr : List W → Option W := o1 fun w => (reprW w).map W.im
theorem ref_of {T : Vol S} {fp : Nat → List Addr} {H H' : Hp} {w : W} {v : V} {g : List Addr} (ok : Wok T fp H H' w v g) (h : isRefW w = true) : ∃ a, v = .ref a := by
  cases w with
  | im d =>
    cases d with
    | tup ds => obtain ⟨a, _, e, _⟩ := ok.2.inv_tup; exact ⟨a, e⟩
    | ptp ds => obtain ⟨a, _, _, e, _⟩ := ok.2.inv_ptp; exact ⟨a, e⟩
    | _ => cases h
  | new m =>
    cases m with
    | lst x => obtain ⟨a, _, _, e, _⟩ := ok.1.inv_lst; exact ⟨a, e⟩
    | _ => cases h
  | sl i m =>
    cases m with
    | lst x => obtain ⟨a, _, _, e, _⟩ := ok.1.inv_lst; exact ⟨a, e⟩
    | _ => cases h
  | src => cases h
  | tm m => cases h
theorem cal_repr : CalW (rRepr K) oRepr := by
  intro S T H0 ρ σ H Ha fp s ws vs G w Q E hb oks e0 k
  obtain ⟨x, rfl, e1⟩ := o1_of e0
  obtain ⟨d, e2, rfl⟩ := map_some e1
  unfold reprW at e2
  by_cases c : isRefW x = true
  · rw [if_pos c] at e2
    cases q : pyW x with
    | none => rw [q] at e2; cases e2
    | some pd =>
      rw [q] at e2
      have e2 : (if shOk pd = true then some (D.str pd.shown) else none) = some d := e2
      by_cases c2 : shOk pd = true
      · rw [if_pos c2] at e2
        injection e2 with e2
        subst e2
        obtain ⟨v, g, rfl, ok⟩ := woks1 oks
        obtain ⟨a, rfl⟩ := ref_of ok c
        exact ⟨a, pd, rfl, pyW_ok ok q, c2, k _ H [] (ExV.refl T H) E.rel (wok_im (.str _))⟩
      · rw [if_neg c2] at e2
        cases e2
  · rw [if_neg c] at e2
    cases e2
theorem r_repr [F : Fx X K] [G : Gx X] (h : PDA X 𝒯 [e] ts fs) (hg : Gl X "repr" := by rfl) (he : starEach [e] X.env = (false, eval e X.env) :: starEach [] X.env := by rfl) (hpl : (backTo pos (starEach [] X.env)).any (·.1) = false := by rfl) :
    PD X 𝒯 (.Call (.Name "repr" p) [e] [] pos) (tCB (rRepr K) ts) (fCal oRepr fs) := by
  obtain rfl := F.hK
  exact d_callB (id := "repr") cal_repr h fun z => pe_callB (cr_repr F.hu) hg F.bl.repr PyProof.Rows.boot_repr z (by decide) (by decide) he hpl
/-- of a list made there and then, of things that may stand elsewhere -/
def fReprL (fs : Fn S (List W)) : Fn S W := fun ρ s => bnd (fs ρ s) fun ws s1 => if szOk ws.length = true then match (args ws).bind M.pys with
  | some ds => if shOk (.list ds) = true then some (.im (.str (PyData.list ds).shown), s1) else none
  | none => none else none
theorem dps_of {H : Hp} : ∀ {ms : List M} {vs : List V} {ds : List PyData}, AllRM H ms vs → M.pys ms = some ds → DpAll K H vs ds
  | _, _, _, .nil, e => by
    rw [M.pys] at e
    injection e with e
    subst e
    exact .nil
  | _, _, _, .cons (m := m) (ms := ms) r rr, e => by
    rw [M.pys] at e
    cases q : M.py m with
    | none => rw [q] at e; cases e
    | some d =>
      cases q2 : M.pys ms with
      | none => rw [q, q2] at e; cases e
      | some ds =>
        rw [q, q2] at e
        injection e with e
        subst e
        exact .cons (RM.dp r q) (dps_of rr q2)
theorem AllRM.keep_new {H : Hp} {q : Addr} {o : HO} (hq : H q = none) {ms : List M} {vs : List V} (h : AllRM H ms vs) : AllRM (upd H q o) ms vs := by
  induction h with
  | nil => exact .nil
  | cons r _ ih => exact .cons (Pl.keep_new hq r) ih
theorem de_reprL (h : DA 𝒯 ts fs) : DE 𝒯 (tCB (rRepr K) (tCons (tLst ts) tNil)) (fReprL fs) := by
  intro T hT H0 ρ σ H fp s Q w s' E e0 k
  obtain ⟨ws, s1, e1, e2⟩ := bnd_of e0
  by_cases hz : szOk ws.length = true
  · rw [if_pos hz] at e2
    cases q : (args ws).bind M.pys with
    | none => rw [q] at e2; cases e2
    | some ds =>
      rw [q] at e2
      have e2 : (if shOk (.list ds) = true then some (W.im (.str (PyData.list ds).shown), s1) else none) = some (w, s') := e2
      by_cases c : shOk (.list ds) = true
      · rw [if_pos c] at e2
        injection e2 with e2
        injection e2 with e2 e3
        subst e2
        subst e3
        obtain ⟨ms, q1, q2⟩ := bind_of q
        refine h T hT H0 ρ σ H fp s _ ws _ E e1 fun vs H1 G x r oks => ⟨by rw [oks.length]; exact szOk_le hz, fun b hb => ?_⟩
        have al := (args_ok oks q1).keep_new (o := .lst vs) hb
        exact ⟨b, .list ds, rfl, .lst (.of upd_same) (dps_of al q2), c, k _ _ [] (x.trans (ExV.new hb)) (T.upd r (T.new r hb)) (wok_im (.str _))⟩
      · rw [if_neg c] at e2
        cases e2
  · rw [if_neg hz] at e2
    cases e2
theorem r_reprL [F : Fx X K] [G : Gx X] (h : PDA X 𝒯 es ts fs) (hg : Gl X "repr" := by rfl) (he : starEach [.List es p2] X.env = (false, eval (.List es p2) X.env) :: starEach [] X.env := by rfl) (hpl : (backTo pos (starEach [] X.env)).any (·.1) = false := by rfl) :
    PD X 𝒯 (.Call (.Name "repr" p) [.List es p2] [] pos) (tCB (rRepr K) (tCons (tLst ts) tNil)) (fReprL fs) := by
  obtain rfl := F.hK
  exact ⟨pe_callB (cr_repr F.hu) hg F.bl.repr PyProof.Rows.boot_repr (pa_cons (pe_lst h.pe) pa_nil he) (by decide) (by decide) he hpl, de_reprL h.de⟩
end
end Pl
end

section
set_option Elab.async false
set_option linter.all false
set_option maxRecDepth 100000
set_option maxHeartbeats 4000000
/-! sets of tuples of whole numbers: any number of items, few that differ -/
namespace L2
open PySem PySem.Spec PyProof.Rows
/-- the items so far, as the set has them -/
structure Has (ks : List (Addr × List Int)) (i : Nat) (L : List (Addr × List Int)) : Prop where
  from_ : ∀ q ∈ L, q ∈ ks.take i
  has : ∀ q ∈ ks.take i, q.2 ∈ L.map (·.2)
def FewIn (ks : List (Addr × List Int)) : Prop := ∀ L : List (Addr × List Int), (∀ q ∈ L, q ∈ ks) → (L.map (·.2)).Nodup → L.length < 63
theorem Has.next {ks L L' : List (Addr × List Int)} {i : Nat} {x : Addr × List Int} (g : Has ks i L) (h : ks[i]? = some x) (c1 : x.2 ∈ L.map (·.2) → L' = L) (c2 : x.2 ∉ L.map (·.2) → L'.Perm ((x.1, x.2) :: L)) : Has ks (i + 1) L' := by
  have tk : ks.take (i + 1) = ks.take i ++ [x] := take_next h
  by_cases c : x.2 ∈ L.map (·.2)
  · rw [c1 c]
    refine ⟨fun q hq => by rw [tk]; exact List.mem_append_left _ (g.from_ q hq), fun q hq => ?_⟩
    rw [tk] at hq
    rcases List.mem_append.mp hq with z | z
    · exact g.has q z
    · rw [List.mem_singleton.mp z]
      exact c
  · have pm := c2 c
    refine ⟨fun q hq => ?_, fun q hq => ?_⟩
    · rw [tk]
      rcases List.mem_cons.mp (pm.mem_iff.mp hq) with z | z
      · rw [z]
        exact List.mem_append_right _ List.mem_cons_self
      · exact List.mem_append_left _ (g.from_ q z)
    · rw [(pm.map (·.2)).mem_iff, List.map_cons]
      rw [tk] at hq
      rcases List.mem_append.mp hq with z | z
      · exact List.mem_cons_of_mem _ (g.has q z)
      · rw [List.mem_singleton.mp z]
        exact List.mem_cons_self
section
variable {P : Program} {w : World} {A : Around} {E : Value → Shared → Prop} {s : Shared}
theorem fill_tups {I : Addr} {fp wr : List Addr} {G : Array GenState → Array GenState → Prop} {n : Nat} {Pv : Nat → Value → Prop} {St : Nat → Shared → Prop} {R : Result → Shared → Prop} (W : WalksS P w A.in1 I fp wr G n Pv St) (Z : Addr) (zf : Z ∉ fp)
    (ks : List (Addr × List Int)) (en : n = ks.length) (few : FewIn ks) (val : ∀ i v, Pv i v → ∃ q, ks[i]? = some q ∧ v = .ref q.1) (hp : Heap) (tups : ∀ q ∈ ks, IsT P w hp q.2 q.1) (z0 : hp.get? Z = none) (wr0 : ∀ b ∈ wr, hp.get? b = none) (hu : A.in1.units < cLine) :
    ∀ (k i : Nat) (s : Shared), n - i = k → i ≤ n → St i s → (∀ b o, hp.get? b = some o → s.heap.get? b = some o) → (∃ L es ep t, SetTR P w s.heap Z L es ep t ∧ Has ks i L) →
      (∀ s' L es ep t, Moved (Z :: wr) G s s' → SetTR P w s'.heap Z L es ep t → Has ks n L → (∀ b o, hp.get? b = some o → s'.heap.get? b = some o) → R (.ok (.ret .none)) s') →
      codeAny (model P w) A (.builtin "set.update.loop" ⟨[.ref Z, .ref I], []⟩) R s := by
  have zw : Z ∉ wr := fun h => zf (W.sub _ h)
  have up : ∀ b ∈ wr, b ∈ Z :: wr := fun b hb => List.mem_cons_of_mem _ hb
  have stay : ∀ {s s' : Shared}, Moved wr G s s' → (∀ b o, hp.get? b = some o → s.heap.get? b = some o) → ∀ b o, hp.get? b = some o → s'.heap.get? b = some o := by
    intro s s' mv kp b o e
    refine mv.heap b o (fun hb => ?_) (kp b o e)
    rw [wr0 b hb] at e
    cases e
  have inks : ∀ {i : Nat} {L : List (Addr × List Int)}, Has ks i L → ∀ q ∈ L, q ∈ ks := fun g q hq => List.mem_of_mem_take (g.from_ q hq)
  intro k
  induction k with
  | zero =>
    rintro i s ek hi st kp ⟨L, es, ep, t, T, g⟩ hR
    obtain rfl : i = n := by omega
    refine codeAny_builtin F.entry_set_update_loop ?_
    rw [Around.under_plainId F.plain_set_update_loop _]
    show wpAny _ A.in1 (pyNext (.ref I) >>= _) _ _ s
    refine wpAny_bind (W.done s _ _ st fun s2 mv => wpAny_pure ?_)
    have kp2 := stay mv kp
    exact hR s2 L es ep t (mv.mono up) (T.keep (fun o e => mv.heap Z o zw e) fun q hq => isT_keep (tups q (inks g q hq)) kp2) g kp2
  | succ k ih =>
    rintro i s ek hi st kp ⟨L, es, ep, t, T, g⟩ hR
    have lt : i < n := by omega
    refine codeAny_builtin F.entry_set_update_loop ?_
    rw [Around.under_plainId F.plain_set_update_loop _]
    show wpAny _ A.in1 (pyNext (.ref I) >>= _) _ _ s
    refine wpAny_bind (W.item i s _ _ lt st fun v s2 pv st2 mv => ?_)
    obtain ⟨q, hq, rfl⟩ := val i v pv
    have kp2 := stay mv kp
    have T2 : SetTR P w s2.heap Z L es ep t := T.keep (fun o e => mv.heap Z o zw e) fun r hr => isT_keep (tups r (inks g r hr)) kp2
    have isq : IsT P w s2.heap q.2 q.1 := isT_keep (tups q (List.mem_of_getElem? hq)) kp2
    have lenL := few L (inks g) T2.nd
    show wpAny _ A.in1 (holding [Value.ref q.1] (setAdd Z (.ref q.1)) >>= _) _ _ s2
    refine wpAny_bind (wpAny_holding ?_)
    unfold setAdd
    refine wpAny_holding (wpAny_bind (wpAny_pyHash_tuple hu isq ?_))
    refine add_at (s := { s2 with toks := s2.toks + (q.2.length + 1) }) T2 isq hu (by omega) fun b h3 L3 es3 ep3 t3 sb T3 c1 c2 => ?_
    have kp3 : ∀ b o, hp.get? b = some o → h3.get? b = some o := by
      intro b o e
      refine (sb.2 b fun z => ?_).trans (kp2 b o e)
      rw [z, z0] at e
      cases e
    have st3 : St (i + 1) { s2 with heap := h3, toks := s2.toks + (q.2.length + 1) } := W.frame _ s2 _ _ st2 (Nat.le_add_right _ _) fun b hb o e => (sb.2 b fun z : b = Z => zf (z ▸ hb)).trans e
    refine wpAny_pure ⟨plainId_quiet F.plain_set_update_loop _, ih (i + 1) _ (by omega) lt st3 kp3 ⟨L3, es3, ep3, t3, T3, g.next hq c1 c2⟩ fun s4 L4 es4 ep4 t4 mv4 T4 g4 kp4 => ?_⟩
    refine hR s4 L4 es4 ep4 t4 (Moved.trans W.gtrans ((mv.mono up).then_heap (Nat.le_add_right _ _) fun b o hb e => ?_) mv4) T4 g4 kp4
    exact (sb.2 b fun z : b = Z => hb (by rw [z]; exact List.mem_cons_self)).trans e
end
section
variable {P : Program} {w : World} {A : Around} {E : Value → Shared → Prop} {s : Shared}
/-- the empty set, as `set()` makes it -/
def bareSet (w : World) : Obj := { cls := .type "set", dict := none, data := .set #[] 0 (.fresh 0 0 (!w.params.followText "set-order")) }
theorem pick_of {items : Array Value} {ks : List (Addr × List Int)} (hit : items.toList = ks.map fun p => Value.ref p.1) (i : Nat) (v : Value) (hv : items[i]? = some v) : ∃ p, ks[i]? = some p ∧ v = .ref p.1 := by
  have q : items.toList[i]? = some v := (Array.getElem?_toList ..).trans hv
  rw [hit, List.getElem?_map] at q
  cases hq : ks[i]? with
  | none => rw [hq] at q; cases q
  | some p => rw [hq] at q; exact ⟨p, rfl, (Option.some.inj q).symm⟩
theorem past_none {h : Heap} (b : Addr) (hb : h.objs.size ≤ b) : h.get? b = none := by
  cases q : h.get? b with
  | none => rfl
  | some o =>
    have z := Heap.lt_size q
    exact (Nat.lt_irrefl b (Nat.lt_of_lt_of_le z hb)).elim
/-- the set's own filling by a list of tuples -/
theorem fill_list {l : Addr} {items : Array Value} (ks : List (Addr × List Int)) {R : Result → Shared → Prop} (hh : A.handled = none) (hl : s.heap.IsList l items) (hit : items.toList = ks.map fun p => Value.ref p.1)
    (hk : ∀ p ∈ ks, IsT P w s.heap p.2 p.1) (few : FewIn ks) (hu : A.in1.units < cLine)
    (hR : ∀ s' L es ep t, s'.gens = s.gens → s'.drawn = s.drawn → s'.os = s.os → SetTR P w s'.heap s.heap.objs.size L es ep t → Has ks ks.length L → (∀ b o, s.heap.get? b = some o → s'.heap.get? b = some o) → R (.ok (.ret .none)) s') :
    codeAny (model P w) A (.builtin "set.update.loop" ⟨[.ref s.heap.objs.size, .ref (s.heap.push (bareSet w)).objs.size], []⟩) R
      { s with heap := (s.heap.push (bareSet w)).push { cls := .type "list_iterator", data := .fields #[.ref l, .int 0 0] } } := by
  have sz : items.size = ks.length := by
    rw [← Array.length_toList, hit, List.length_map]
  have z1 : (s.heap.push (bareSet w)).objs.size = s.heap.objs.size + 1 := Heap.size_push ..
  have lt : l < s.heap.objs.size := by
    obtain ⟨o, ho, _⟩ := hl
    exact Heap.lt_size ho
  have hS : (s.heap.push (bareSet w)).get? s.heap.objs.size = some (bareSet w) := Heap.get?_push_size _ rfl
  have hl1 : (s.heap.push (bareSet w)).IsList l items := hl.push _
  have neI : l ≠ (s.heap.push (bareSet w)).objs.size := by
    rw [z1]
    exact Nat.ne_of_lt (Nat.lt_succ_of_lt lt)
  refine fill_tups ((Walks.list (by simp [hh]) _ l neI items).toS) s.heap.objs.size ?_ ks sz few (pick_of hit) s.heap hk (past_none _ (Nat.le_refl _)) (fun b hb => past_none b ?_) hu (items.size - 0) 0 _ (by omega) (Nat.zero_le _)
    ⟨⟨_, Heap.get?_push_size _ rfl, rfl, rfl⟩, hl1.push _⟩ (fun b o e => Heap.get?_push_of_some _ (Heap.get?_push_of_some _ e)) ⟨[], #[], 0, _, setTR_fresh (Heap.get?_push_of_some _ hS), ⟨fun q hq => (List.not_mem_nil hq).elim, fun q hq => (List.not_mem_nil hq).elim⟩⟩ fun s' L es ep t mv hT g kp => ?_
  · rw [z1]
    intro c
    rcases List.mem_cons.mp c with c | c
    · exact Nat.ne_of_lt (Nat.lt_succ_self _) c
    · exact Nat.ne_of_gt lt (List.mem_singleton.mp c)
  · rw [List.mem_singleton.mp hb, z1]
    exact Nat.le_succ _
  · rw [sz] at g
    exact hR s' L es ep t mv.gens mv.drawn mv.os hT g kp
/-- set(xs) -/
theorem call_set_fill {l : Addr} {items : Array Value} (ks : List (Addr × List Int)) {Q : Value → Shared → Prop} (hh : A.handled = none) (hl : s.heap.IsList l items) (hit : items.toList = ks.map fun p => Value.ref p.1)
    (hk : ∀ p ∈ ks, IsT P w s.heap p.2 p.1) (few : FewIn ks) (hu : A.units + 3 < cLine)
    (fin : ∀ (h' : Heap) (tk : Nat) L es ep t, SetTR P w h' s.heap.objs.size L es ep t → Has ks ks.length L → (∀ b o, s.heap.get? b = some o → h'.get? b = some o) → Q (.ref s.heap.objs.size) { s with heap := h', toks := tk }) :
    wpAny (model P w) A (call (.type "set") [.ref l]) Q E s := by
  have C := F.called_set
  obtain ⟨c, tl, hmro⟩ := C.mro
  have k1 := C.made; have k2 := C.sub; have k3 := C.notType; have k4 := C.canCreate
  have k5 := F.typeCall_set_1 (.ref l)
  refine wpAny_call (codeAny_of_tree ?_)
  show wpAny _ _ (callAny (.type "set") _) _ _ _
  refine wpAny_pure ⟨Code.quiet_builtin _ (by decide +kernel), codeAny_builtin F.entry_type_call ?_⟩
  rw [Around.under_plain (weight_type_call_type "set" [.ref l] []) rfl]
  repeat (any_goals (first | assumption | wp_step))
  refine codeAny_mono (code_set_led1 (.ref l) (E := E) (Q₁ := fun x s1 => x = .ref s.heap.objs.size ∧ s1 = { s with heap := s.heap.push (bareSet w) }) ⟨rfl, rfl⟩) fun r s1 hr => ?_
  match r, hr with
  | .error e, hr => exact hr
  | .ok (.ret x), hr =>
    obtain ⟨rfl, rfl⟩ := hr
    have hS : (s.heap.push (bareSet w)).get? s.heap.objs.size = some (bareSet w) := Heap.get?_push_size _ rfl
    have hT : Shared.TypeIs { s with heap := s.heap.push (bareSet w) } (.ref s.heap.objs.size) "set" := ⟨_, hS, rfl⟩
    have j1 := C.init.lookup; have j2 := C.init.bind (.ref s.heap.objs.size)
    repeat (any_goals (first | assumption | wp_step))
    refine codeAny_mono (codeAny_call_builtin (R := wants (fun y s2 => y = .none ∧ ∃ h' tk L es ep t, s2 = { s with heap := h', toks := tk } ∧ SetTR P w h' s.heap.objs.size L es ep t ∧ Has ks ks.length L ∧ (∀ b o, s.heap.get? b = some o → h'.get? b = some o)) E) C.init.plain F.entry_set_init (check_set_init_1 hT ?_)) fun r2 s2 hr2 => ?_
    · have hl0 := hl
      obtain ⟨⟨c1, c2, c3, c4⟩, hol, hcl, nl, hdl⟩ := hl
      simp only at hcl hdl
      subst hcl; subst hdl
      have hol' : (s.heap.push (bareSet w)).get? l = some { cls := .type "list", dict := c2, data := .seq items nl, slots := c4 } := Heap.get?_push_of_some _ hol
      have m1 := F.sub_list_set; have m2 := F.sub_list_frozenset
      have m3 : (Value.type "list" == Value.type "dict") = false := by decide
      have m4 : (s.heap.push (bareSet w)).IsList l items := hl0.push _
      unfold Builtin.«set.__init__» noKeywords Builtin.Frozenset.updateFrom
      generalize hPI : pyIter = PI
      wp_walk
      subst hPI
      refine wpAny_pyIter_list m4 (wpAny_bind (wpAny_runValue ?_))
      refine fill_list ks (by simp [hh]) hl0 hit hk few (by show A.units + 1 + 1 + 1 < cLine; omega) fun s3 L es ep t e1 e2 e3 hS3 g kp => ?_
      obtain ⟨h3, g3, d3, t3, o3⟩ := s3
      cases e1; cases e2; cases e3
      exact wpAny_pure (wpAny_pure ⟨rfl, h3, t3, L, es, ep, t, rfl, hS3, g, kp⟩)
    · match r2, hr2 with
      | .error e, hr2 => exact hr2
      | .ok (.ret y), hr2 =>
        obtain ⟨rfl, h', tk, L, es, ep, t, rfl, hS3, g, kp⟩ := hr2
        repeat (any_goals (first | assumption | wp_step))
        exact fin _ _ _ _ _ _ hS3 g kp
end
end L2
end

section
set_option Elab.async false
set_option linter.all false
set_option maxRecDepth 100000
set_option maxHeartbeats 4000000
/-! rows of whole numbers as tuples: their order, and sorted(set(rows)) -/
namespace Pl
open PySem PySem.Spec PyProof.Rows L2 StX
def iT (r : List Int) : D := .tup (r.map .int)
def rowD : D → Option (List Int)
  | .tup ds => intsD ds
  | _ => none
theorem rowD_eq {d : D} {r : List Int} (e : rowD d = some r) : d = iT r := by
  cases d with
  | tup ds => rw [intsD_eq (show intsD ds = some r from e)]; rfl
  | _ => cases e
def rowsD : List D → Option (List (List Int))
  | [] => some []
  | d :: ds => (rowD d).bind fun r => (rowsD ds).map fun rs => r :: rs
theorem rowsD_eq : ∀ {ds : List D} {rs : List (List Int)}, rowsD ds = some rs → ds = rs.map iT
  | [], rs, e => by
    injection e with e
    subst e
    rfl
  | d :: ds, rs, e => by
    unfold rowsD at e
    cases q : rowD d with
    | none => rw [q] at e; cases e
    | some r =>
      rw [q] at e
      obtain ⟨t, e2, rfl⟩ := map_some e
      rw [rowD_eq q, rowsD_eq e2]
      rfl
theorem intsD_ints : ∀ r : List Int, intsD (r.map D.int) = some r
  | [] => rfl
  | x :: r => by
    show (intsD (r.map D.int)).map _ = _
    rw [intsD_ints r]
    rfl
theorem rowsD_rows : ∀ rs : List (List Int), rowsD (rs.map iT) = some rs
  | [] => rfl
  | r :: rs => by
    show (rowD (iT r)).bind _ = _
    rw [show rowD (iT r) = some r from intsD_ints r]
    show (rowsD (rs.map iT)).map _ = _
    rw [rowsD_rows rs]
    rfl
/-- each once -/
def dedT : List (List Int) → List (List Int)
  | [] => []
  | r :: rs => if r ∈ dedT rs then dedT rs else r :: dedT rs
theorem mem_dedT : ∀ {rs : List (List Int)} {r : List Int}, r ∈ dedT rs ↔ r ∈ rs
  | [], r => Iff.rfl
  | x :: rs, r => by
    unfold dedT
    have ih := @mem_dedT rs
    by_cases c : x ∈ dedT rs
    · rw [if_pos c, List.mem_cons, ih]
      exact ⟨.inr, fun z => z.elim (fun e => by rw [e]; exact ih.mp c) id⟩
    · rw [if_neg c, List.mem_cons, List.mem_cons, ih]
theorem nodup_dedT : ∀ rs : List (List Int), (dedT rs).Nodup
  | [] => List.nodup_nil
  | x :: rs => by
    unfold dedT
    by_cases c : x ∈ dedT rs
    · rw [if_pos c]; exact nodup_dedT rs
    · rw [if_neg c]; exact List.nodup_cons.mpr ⟨c, nodup_dedT rs⟩
def srtT (rs : List (List Int)) : List (List Int) := rs.mergeSort fun a b => decide (a ≤ b)
theorem srtT_perm (rs : List (List Int)) : (srtT rs).Perm rs := List.mergeSort_perm _ _
theorem srtT_pw (rs : List (List Int)) : (srtT rs).Pairwise fun a b => a ≤ b := by
  refine (List.pairwise_mergeSort (le := fun a b : List Int => decide (a ≤ b)) (fun a b c h1 h2 => ?_) (fun a b => ?_) rs).imp fun h => of_decide_eq_true h
  · exact decide_eq_true (List.le_trans (of_decide_eq_true h1) (of_decide_eq_true h2))
  · rcases List.le_total a b with h | h
    · simp [h]
    · simp [h]
theorem srtT_of {rs ts : List (List Int)} (p : ts.Perm rs) (w : ts.Pairwise fun a b => a ≤ b) : ts = srtT rs :=
  List.Perm.eq_of_pairwise (le := fun a b : List Int => a ≤ b) (fun _ _ _ _ h1 h2 => List.le_antisymm h1 h2) w (srtT_pw rs) (p.trans (srtT_perm rs).symm)
theorem code_rows {B : Int} : ∀ {a b : List Int}, a.length = b.length → TS.Bd B a → TS.Bd B b → TS.code B a ≤ TS.code B b → a ≤ b
  | [], [], _, _, _, _ => List.le_refl _
  | x :: a, y :: b, hl, ha, hb, h => by
    have hz : a.length = b.length := Nat.succ.inj hl
    rw [List.cons_le_cons_iff]
    rcases Int.lt_trichotomy x y with c | c | c
    · exact .inl c
    · subst c
      refine .inr ⟨rfl, code_rows hz ha.tail hb.tail ?_⟩
      rcases Int.lt_or_le (TS.code B b) (TS.code B a) with z | z
      · have := (TS.code_same (B := B) (d := x) hz.symm).mpr z
        omega
      · exact z
    · have := TS.code_lt (B := B) hz.symm hb.tail ha.tail c
      omega
theorem pys_ints : ∀ r : List Int, D.pys (r.map D.int) = r.map PyData.int
  | [] => rfl
  | x :: r => by
    show D.py (.int x) :: D.pys (r.map D.int) = _
    rw [pys_ints r]
    rfl
theorem py_iT (r : List Int) : (iT r).py = .tuple (r.map PyData.int) := by
  show PyData.tuple (D.pys (r.map D.int)) = _
  rw [pys_ints]
theorem alike_iT (a b : List Int) : PySem.W.alike (iT a).py (iT b).py = true := by
  rw [py_iT, py_iT]
  simp only [PySem.W.alike]
  exact PySem.W.alike_ints a b
theorem dataLe_iT : PySem.W.dataLe false (fun r : List Int => (iT r).py) = fun p q => decide (p ≤ q) := by
  funext p q
  show (!PySem.W.dataLt (iT q).py (iT p).py) = _
  rw [py_iT, py_iT, PySem.W.dataLt_tuple]
  show (!PySem.W.rowLt (q.map .int) (p.map .int)) = _
  rw [PySem.W.dataLt_ints]
  by_cases h : q < p
  · simp [h, show ¬ p ≤ q from fun r => List.not_lt.mpr r h]
  · simp [h, List.not_lt.mp h]
theorem sortD_iT (rs : List (List Int)) : sortD (rs.map iT) = (srtT rs).map iT := by
  unfold sortD srtT
  refine (PySem.W.sort_maps (r := fun a b : List Int => decide (a ≤ b)) (s := PySem.W.dataLe false D.py) iT fun a _ b _ => ?_).symm
  have q := congrFun (congrFun dataLe_iT a) b
  exact q.symm
theorem sortOk_iT {rs : List (List Int)} (ne : ∀ r ∈ rs, r ≠ []) (hl : rs.length ≤ cap) : SortOk (rs.map iT) := by
  refine ⟨?_, .inl ?_, ?_, by rw [List.length_map]; exact hl⟩
  · intro d hd d' hd'
    rw [List.map_map] at hd hd'
    obtain ⟨b, _, rfl⟩ := List.mem_map.mp hd
    obtain ⟨b', _, rfl⟩ := List.mem_map.mp hd'
    exact alike_iT b b'
  · intro d hd
    rw [List.map_map] at hd
    obtain ⟨b, hb, rfl⟩ := List.mem_map.mp hd
    cases b with
    | nil => exact (ne _ hb rfl).elim
    | cons x r => exact ⟨.int x, r.map .int, py_iT _⟩
  · intro d hd
    obtain ⟨b, hb, rfl⟩ := List.mem_map.mp hd
    rw [py_iT]
    have q := PySem.W.depth_ints b
    simp only [PyData.depth]
    omega
/-! ### sorted(set(rows)) -/
def SetOk (rs : List (List Int)) : Prop := (∃ d, 1 ≤ d ∧ ∀ r ∈ rs, r.length = d ∧ TS.Bd 64 r) ∧ (dedT rs).length < 63
section
variable {S : Type} {X : Cx} {K : PySem.W.Frag} {𝒯 : Fam S} {pos p p2 p3 : Pos} {e : Expr} {te : TE} {fe : Fn S W}
def tSortSet (ta : TE) : TE := fun σ H Q => ta σ H fun x H1 => ∃ (l : Addr) (xs : List V) (rs : List (List Int)), x = .ref l ∧ H1 l = some (.lst xs) ∧ RIs H1 (rs.map iT) xs ∧ SetOk rs ∧
  ∀ (q : Addr) (ys : List V), H1 q = none → RIs H1 ((srtT (dedT rs)).map iT) ys → Q (.ref q) (upd H1 q (.lst ys))
theorem keys_of {H : Hp} : ∀ {rs : List (List Int)} {xs : List V}, RIs H (rs.map iT) xs → ∃ ks : List (Addr × List Int), xs = ks.map (fun q => V.ref q.1) ∧ ks.map (·.2) = rs ∧ ∀ q ∈ ks, H q.1 = some (.tup (q.2.map V.int))
  | [], _, .nil => ⟨[], rfl, rfl, fun _ h => (List.not_mem_nil h).elim⟩
  | r :: rs, _, .cons h t => by
    obtain ⟨a, xs, rfl, ha, rr⟩ := RI.inv_tup h
    rw [rr.ints] at ha
    obtain ⟨ks, e1, e2, e3⟩ := keys_of t
    refine ⟨(a, r) :: ks, by rw [e1]; rfl, by rw [List.map_cons, e2], fun q hq => ?_⟩
    rcases List.mem_cons.mp hq with z | z
    · rw [z]; exact ha
    · exact e3 q z
theorem ris_keys2 {H : Hp} : ∀ {L : List (Addr × List Int)}, (∀ q ∈ L, H q.1 = some (.tup (q.2.map V.int))) → RIs H ((L.map (·.2)).map iT) (L.map fun q => V.ref q.1)
  | [], _ => .nil
  | q :: L, h => by
    refine .cons (.tup (h q List.mem_cons_self) ?_) (ris_keys2 fun r hr => h r (List.mem_cons_of_mem _ hr))
    have : ∀ r : List Int, RIs H (r.map D.int) (r.map V.int) := fun r => by
      induction r with
      | nil => exact .nil
      | cons x r ih => exact .cons (.int x) ih
    exact this q.2
theorem few_of {ks : List (Addr × List Int)} {rs : List (List Int)} (e : ks.map (·.2) = rs) (h : (dedT rs).length < 63) : FewIn ks := fun L hs nd => by
  have q := List.Nodup.length_le_of_subset nd (l₂ := dedT rs) fun r hr => by
    obtain ⟨z, hz, rfl⟩ := List.mem_map.mp hr
    rw [mem_dedT, ← e]
    exact List.mem_map.mpr ⟨z, hs z hz, rfl⟩
  rw [List.length_map] at q
  omega
theorem pe_sortSet (hg : Gl X "sorted") (hm : X.mg "sorted" = none) (hg2 : Gl X "set") (hm2 : X.mg "set" = none) (ha : PE X e te) (hc : X.calm = true) (hu : X.A.units + 65 < cLine)
    (na : starEach [e] X.env = (false, eval e X.env) :: starEach [] X.env := by rfl)
    (na2 : starEach [.Call (.Name "set" p2) [e] [] p3] X.env = (false, eval (.Call (.Name "set" p2) [e] [] p3) X.env) :: starEach [] X.env := by rfl) : PE X (.Call (.Name "sorted" p) [.Call (.Name "set" p2) [e] [] p3] [] pos) (tSortSet te) := by
  constructor
  intro pins s σ H Q I h
  refine Call_ (ld_blt I hg hm boot_sorted ?_)
  refine PyProof.Rows.callWith_builtin1 (PyProof.Rows.args_cons ?_ rfl) rfl rfl
  refine Call_ (ld_blt I hg2 hm2 boot_set ?_)
  refine PyProof.Rows.callWith_type1 (PyProof.Rows.args_cons (thn (ha.run pins s σ H _ I h) fun v s1 q => PyProof.Rows.args_nil ?_) na) na rfl
  obtain ⟨x, H1, I1, r1, l, xs, rs, rfl, hl, rr, ⟨⟨d, d1, hd⟩, hf⟩, q1⟩ := q
  cases r1
  obtain ⟨hz, its, n, rv, ho⟩ := I1.hok l _ hl
  obtain ⟨ks, e1, e2, e3⟩ := keys_of rr
  subst e1
  have rv := refs_of_vals rv
  refine call_set_fill ks (I1.ok.hd hc) ⟨_, ho, rfl, n, rfl⟩ (by simpa using rv) (fun q hq => I1.isT (.inl (.inl (e3 q hq)))) (few_of e2 hf) (by omega) fun h' tk L es ep t R g k => PyProof.Rows.args_nil ?_
  have I2 : L2.Inv X pins σ H1 { s1 with heap := h', toks := tk } := I1.kept k
  have inL : ∀ q ∈ L, q ∈ ks := fun q hq => List.mem_of_mem_take (g.from_ q hq)
  refine sorted_setT (s := { s1 with heap := h', toks := tk }) R (I2.ok.hd hc) d1 (fun q hq => hd q.2 (by rw [← e2]; exact List.mem_map.mpr ⟨q, inL q hq, rfl⟩)) fun s' p out c L' k2 g2 o2 hp hg3 hout pm pw => ?_
  have eL : L'.map (·.2) = srtT (dedT rs) := by
    refine srtT_of (((pm.map _)).trans ((List.perm_ext_iff_of_nodup R.nd (nodup_dedT rs)).mpr fun r => ?_)) ?_
    · rw [mem_dedT, ← e2]
      constructor
      · intro hr
        obtain ⟨z, hz, rfl⟩ := List.mem_map.mp hr
        exact List.mem_map.mpr ⟨z, inL z hz, rfl⟩
      · intro hr
        obtain ⟨z, hz, rfl⟩ := List.mem_map.mp hr
        exact g.has z (by rw [List.take_length]; exact hz)
    · refine List.pairwise_map.mpr (List.Pairwise.imp_of_mem (fun {q r} hq hr hle => ?_) pw)
      have b1 := hd q.2 (by rw [← e2]; exact List.mem_map.mpr ⟨q, inL q (pm.mem_iff.mp hq), rfl⟩)
      have b2 := hd r.2 (by rw [← e2]; exact List.mem_map.mpr ⟨r, inL r (pm.mem_iff.mp hr), rfl⟩)
      exact code_rows (by rw [b1.1, b2.1]) b1.2 b2.2 hle
  have hfw : L'.length < 64 := by rw [pm.length_eq]; exact R.few
  have hn : H1 p = none := I2.hok.fresh hp
  have J : L2.Inv X pins σ (upd H1 p (.lst (L'.map fun q => V.ref q.1))) { ({ s1 with heap := h', toks := tk } : Shared) with heap := s'.heap, gens := s'.gens, drawn := s'.drawn, toks := s'.toks } :=
    I2.call (ch := []) (Un.laid k2 hp hn) (I2.hok.laid k2 hp ⟨by rw [List.length_map, sizeLine_eq]; omega, out.toList, c, by rw [hout]; exact vals_of_refs L', hg3⟩) (by rw [g2]; exact I2.bare) (fun _ z => nomatch z)
  have es : s' = { ({ s1 with heap := h', toks := tk } : Shared) with heap := s'.heap, gens := s'.gens, drawn := s'.drawn, toks := s'.toks } := by
    cases s'; cases s1; cases o2; rfl
  rw [es]
  refine ⟨.ref p, _, J, rfl, q1 p _ hn ?_⟩
  rw [← eL]
  exact ris_keys2 fun q hq => e3 q (inL q (pm.mem_iff.mp hq))
def rowsW (w : W) : Option (List (List Int)) := if isLst w = true then (seqD w).bind rowsD else none
open Classical in
noncomputable def fSortSet (fe : Fn S W) : Fn S W := fun ρ s => bnd (fe ρ s) fun w s1 => match rowsW w with
  | some rs => if SetOk rs then some (.new (.lst (((srtT (dedT rs)).map iT).map M.im)), s1) else none
  | none => none
theorem de_sortSet (h : DE 𝒯 te fe) : DE 𝒯 (tSortSet te) (fSortSet fe) := by
  intro T hT H0 ρ σ H fp s Q w s' E e0 k
  obtain ⟨x, s1, e1, e2⟩ := bnd_of e0
  cases q0 : rowsW x with
  | none => rw [q0] at e2; cases e2
  | some rs =>
    simp only [q0] at e2
    by_cases hs : SetOk rs
    · rw [if_pos hs] at e2
      injection e2 with e2
      injection e2 with e2 e3
      subst e2
      subst e3
      unfold rowsW at q0
      by_cases hl : isLst x = true
      · rw [if_pos hl] at q0
        cases q : seqD x with
        | none => rw [q] at q0; cases q0
        | some ds =>
          rw [q] at q0
          have ed := rowsD_eq (show rowsD ds = some rs from q0)
          subst ed
          refine h T hT H0 ρ σ H fp s _ x _ E e1 fun v H1 g xx r ok => ?_
          obtain ⟨a, xs, rfl, rr, z⟩ := seqD_ok ok q
          rcases z with ⟨_, z | z⟩ | z
          · subst z; cases hl
          · subst z; cases hl
          · refine ⟨a, xs, rs, rfl, z, rr, hs, fun p ys hp ry => ?_⟩
            obtain ⟨n1, n2⟩ := newly (o := .lst ys) (E.step xx r) hp
            exact k _ _ [p] (xx.trans n1) n2 (new_ims hp (xx.back E.rel hp r) ry)
      · rw [if_neg hl] at q0
        cases q0
    · rw [if_neg hs] at e2
      cases e2
theorem r_sortSet [F : Fx X K] (h : PD X 𝒯 e te fe) (hg : Gl X "sorted" := by rfl) (hg2 : Gl X "set" := by rfl) (na : starEach [e] X.env = (false, eval e X.env) :: starEach [] X.env := by rfl)
    (na2 : starEach [.Call (.Name "set" p2) [e] [] p3] X.env = (false, eval (.Call (.Name "set" p2) [e] [] p3) X.env) :: starEach [] X.env := by rfl) : PD X 𝒯 (.Call (.Name "sorted" p) [.Call (.Name "set" p2) [e] [] p3] [] pos) (tSortSet te) (fSortSet fe) :=
  ⟨pe_sortSet hg F.bl.sorted hg2 F.bl.set h.pe F.calm F.hu na na2, de_sortSet h.de⟩
end
end Pl
end

section
set_option Elab.async false
set_option linter.all false
set_option maxRecDepth 100000
set_option maxHeartbeats 4000000
/-! a law's own def: entered from the caller alone (whose guards are known) -/
namespace Pl
open PySem PySem.Spec PyProof.Rows L2
section
variable {P : Program} {w : World} {K : PySem.W.Frag} {mg : Str → Option Value} {base : Heap}
def RunC (P : Program) (w : World) (K : PySem.W.Frag) (mg : Str → Option Value) (base : Heap) (f : Addr) (fd : FuncData) (ps : List Str) (sp : Sp) : Prop :=
  ∀ (out : List PySem.Env) (s : Shared) (H : Hp) (as : Args) (us : List Value) (vs : List V) (Q : VK) (E : XK), Env0 P w K mg base callerA out s H → BindsTo s fd as (ps.zip us) → Vals vs us → sp vs H Q E → codeAny (model P w) callerA (.call (.ref f) as) (CR CX0 out P w H s Q E) s
theorem runC_of {x qual : Str} {st : Stmt} {f : Addr} {fd : FuncData} {N ps : List Str} {k : Nat} {sp : Sp} (U : Fun K x qual st f fd) (S : FnScope N ps (defScope st)) (len : ∀ vs H Q E, sp vs H Q E → vs.length = ps.length) (hr : Room (k + 1) callerA)
    (body : ∀ (cdv : Value) (out : List PySem.Env) (s : Shared) (H : Hp) (vs : List V) (Q : VK) (E : XK), Room k (callerA.deeper (envOfC qual (defScope st) s.heap.objs.size f cdv)) → sp vs H Q E →
      ∃ t, PSs (cxOf CX0 P w K mg base N qual (defScope st) f cdv callerA out s H E).nox (defBody st) t ∧ t { nx := fun _ H' => Q .non H', rt := Q } (start N vs) H) : RunC P w K mg base f fd ps sp := by
  obtain ⟨oc, od, kV, doc, pm, an, cdv, ct, osl, rfl, lk, hcd⟩ := U.ex
  intro out s H as us vs Q E ev hb rv hsp
  have same := len _ _ _ _ hsp
  have inK : K.In s.heap := ev.mod.kin.keeps fun b o e => (ev.bs b o e).1
  have far : s.heap.NoLimit := ev.mod.nolimit.keeps fun b o e => (ev.bs b o e).1
  have kinds : ∀ y ∈ ps.zip us, (defScope st).names.lookup y.1 = some .local ∨ ((defScope st).names.lookup y.1 = some .cell ∧ ((cellsFrom (s.heap.objs.size + 1) (defScope st).names []).lookup y.1).isSome = true) := fun y hy => by
    rcases S.par y.1 (List.of_mem_zip (a := y.1) (b := y.2) hy).1 with z | z
    · exact .inl z
    · exact .inr ⟨z, PySem.W.cellsFrom_some _ _ _ (.inl z)⟩
  refine codeAny_call_function hr.depth (inK _ _ lk) rfl S.co S.gen rfl (PySem.W.codeRec_of inK hcd) (hb _ _ _ _ (wpAny_newFunctionEnv_cells S.kind kinds fun en he s2 x => ?_))
  subst he
  refine ⟨far.keeps x.toInCall.keep, codeAny_func ?_⟩
  obtain ⟨t, ht, hq⟩ := body cdv out s H vs Q E (hr.deeper _) hsp
  have I : Inv (cxOf CX0 P w K mg base N qual (defScope st) f cdv callerA out s H E) [] (start N vs) H s2 := inv_start S hr.hd ev same rv x
  have close : ∀ {τ : L2.St} {H2 : Hp} {s3 : Shared} {v : V} {u : Value}, Inv (cxOf CX0 P w K mg base N qual (defScope st) f cdv callerA out s H E) [] τ H2 s3 → RelV v u → Q v H2 → CE out P w H s Q u s3 := fun {τ H2 s3 v u} J r q => ⟨v, H2, J.os, J.bare, J.base, J.hok, r, q⟩
  refine wpAny_mono (ht.nox.run [] s2 (start N vs) H _ I hq) (fun fl s3 hs => ?_) fun e s3 hs => hs
  match fl, hs with
  | .ret u, ⟨v, τ, H2, J, r, q⟩ => exact close J r q
  | .next, ⟨τ, H2, J, q⟩ => exact close (v := V.non) (u := Value.none) J rfl q
  | .brk, ⟨_, _, _, q⟩ => exact False.elim q
  | .cont, ⟨_, _, _, q⟩ => exact False.elim q
theorem law_at {mb : Str → Option Value} {fa a : Addr} {fd : FuncData} {x : Str} {sp : Sp} {s1 : Shared} {vs : List Value} {ns : List Int}
    (inK : K.In s1.heap) (g1 : s1.heap.Ns mainGlobals mg) (g2 : s1.heap.Ns builtinsNs mb) (g3 : ∀ x : Str, x ≠ "__name__" → mb x = bootBuiltins x) (g4 : s1.heap.NoLimit) (g5 : s1.gens = #[])
    (at_ : s1.heap.get? a = some { cls := .type "list", data := .seq vs.toArray }) (hi : IntsAre vs ns) (few : ns.length ≤ sizeLine)
    (F : ∀ base : Heap, K.In base → base.Ns mainGlobals mg → RunC P w K mg base fa fd [x] sp) (bind : ∀ (s : Shared) (u : Value), BindsTo s fd ⟨[u], []⟩ [(x, u)])
    (all : ∀ H : Hp, SqL K H a (ns.map V.int) → sp [.ref a] H (fun v _ => v = .bl true) fun _ _ _ => False) :
    codeAny (model P w) callerA (.call (.ref fa) ⟨[.ref a], []⟩) (fun r s' => r = .ok (.ret (.bool true)) ∧ OldK s1.heap s'.heap ∧ s'.os = s1.os ∧ AllBare s'.gens) s1 := by
  have rv := vals_ints hi
  have lv := hi.length
  have step : ∀ H : Hp, (∀ b, H b = none ∨ (b = a ∧ K.lookup a = none ∧ ∃ o xs, H b = some (.frz o (.lst xs)))) → SqL K H a (ns.map V.int) → HOk P w H s1.heap →
      codeAny (model P w) callerA (.call (.ref fa) ⟨[.ref a], []⟩) (fun r s' => r = .ok (.ret (.bool true)) ∧ OldK s1.heap s'.heap ∧ s'.os = s1.os ∧ AllBare s'.gens) s1 := by
    intro H only hS hok
    have stays : ∀ {b : Addr} {o : Obj}, s1.heap.get? b = some o → H b = none → (hidT s1.heap H).get? b = some o := fun e n => hidT_get e n
    have free : ∀ {b : Addr} {o : Obj} {es : Array DictEntry} {ep : Nat}, s1.heap.get? b = some o → o.data = .dict es ep → H b = none := fun {b o es ep} e d => by
      rcases only b with z | ⟨z, _⟩
      · exact z
      · rw [z, at_] at e
        injection e with e
        rw [← e] at d
        cases d
    have ns_ : ∀ {b : Addr} {m : Str → Option Value}, s1.heap.Ns b m → (hidT s1.heap H).Ns b m := fun {b m} ⟨o, es, ep, e, d, r⟩ => ⟨o, es, ep, stays e (free e d), d, r⟩
    have kin : K.In (hidT s1.heap H) := fun b o e => stays (inK b o e) (by
      rcases only b with z | ⟨z, z2, _⟩
      · exact z
      · rw [z, z2] at e
        cases e)
    obtain ⟨mc, c1, c2⟩ := g4
    have md : Mod K mg (hidT s1.heap H) := ⟨kin, ns_ g1, ⟨mb, ns_ g2, g3⟩, ⟨mc, ns_ c1, c2⟩⟩
    have ev : Env0 P w K mg (hidT s1.heap H) callerA [] s1 H := ⟨rfl, md, fun b o e => of_hidT e, Nat.le_of_eq (hidT_size _ _), trivial, fun b z => (List.not_mem_nil z).elim, hok, .of_eq g5⟩
    refine codeAny_mono (F _ kin (ns_ g1) [] s1 H ⟨[.ref a], []⟩ [.ref a] [.ref a] _ _ ev (bind s1 (.ref a)) (.cons rfl .nil) (all H hS)) fun r s' h => ?_
    match r, h with
    | .ok (.ret u), ⟨v, H', os, bare, un, hok', rl, q⟩ =>
      have q : v = .bl true := q
      subst q
      have eu : u = Value.bool true := rl
      subst eu
      refine ⟨rfl, OldK.of_keep fun b o e => ?_, os, bare⟩
      rcases only b with z | ⟨_, _, o2, xs, z⟩
      · exact un.keep b o e z (by intro y; exact (List.not_mem_nil (show b ∈ ([] : List Addr) from y)).elim) (by simp)
      · obtain ⟨e1, _⟩ := hok b _ z
        obtain ⟨e2, _⟩ := hok' b _ (un.frzs b o2 _ z)
        rw [e] at e1
        rw [Option.some.inj e1]
        exact e2
  cases hk : K.lookup a with
  | some o =>
    have e := inK a o hk
    rw [at_] at e
    cases e
    refine step (fun _ => none) (fun _ => .inl rfl) (.inr ⟨_, vs.toArray, _, hk, rfl, rfl, rfl, by rw [List.size_toArray, lv]; exact few, by simpa using rv⟩) fun b u z => by cases (show (none : Option HO) = some u from z)
  | none =>
    refine step (fun b => if b = a then some (.frz { cls := .type "list", data := .seq vs.toArray } (.lst (ns.map V.int))) else none) (fun b => ?_) (.inl (.inr ⟨{ cls := .type "list", data := .seq vs.toArray }, if_pos rfl⟩)) fun b u z => ?_
    · by_cases c : b = a
      · exact .inr ⟨c, hk, _, _, if_pos c⟩
      · exact .inl (if_neg c)
    · by_cases c : b = a
      · subst c
        cases (if_pos rfl).symm.trans z
        exact ⟨at_, by rw [List.length_map]; exact few, vs, _, rv, at_⟩
      · cases (if_neg c).symm.trans z
end
/-- what k_head leaves, by RunC -/
theorem walk_at {l : PySem.W.OpenLaw} {n : Nat} {q : Program} {loose : List Str} {XP : (Str → Option Value) → Heap → Prop} {YP : World → Heap → Prop} {d : DefRec} {K : Params → PySem.W.Frag} {sp : World → Sp} {x : Str}
    (hn : l.most = some n) (hz : n ≤ sizeLine) (hdf : d.params.defaults = []) (hY : ∀ (w : World) (h : Heap), YP w h → (K w.params).In h)
    (F : ∀ (w : World) (mg : Str → Option Value) (fa : Addr) (h : Heap), (K w.params).In h → h.Ns mainGlobals mg → mg d.name = some (.ref fa) →
      ∃ fd : FuncData, (∀ (s : Shared) (u : Value), BindsTo s fd ⟨[u], []⟩ [(x, u)]) ∧ ∀ base : Heap, (K w.params).In base → base.Ns mainGlobals mg → RunC l.prog w (K w.params) mg base fa fd [x] (sp w))
    (hsp : ∀ (w : World) (H : Hp) (a : Addr) (ns : List Int), ns.length ≤ n → SqL (K w.params) H a (ns.map V.int) → sp w [.ref a] H (fun v _ => v = .bl true) fun _ _ _ => False) :
    PySem.W.WalkO q loose XP YP l.row.toRowW d [] (fun f vs => PySem.call f vs) := by
  refine Att.attach_call hn hdf fun w s0 s1 mg mb fa o pm cd doc a vs ns G Y ho hd hcd hmg hobj hints hlen hg => ?_
  obtain ⟨fd, b1, b2⟩ := F w mg fa _ (hY w _ Y) G.T.g hmg
  exact law_at (hY w _ Y) G.T.g G.T.b G.T.builtins G.T.nolimit hg hobj hints (Nat.le_trans hlen hz) b2 b1 fun H hS => hsp w H a ns hlen hS
end Pl
end

section
set_option Elab.async false
set_option linter.all false
set_option maxRecDepth 100000
set_option maxHeartbeats 4000000
/-! the law's source as it is made; the law behind it -/
namespace Pl
open PySem PySem.Spec PyProof.Rows L2 StX
def mixStep (m c : Int) : Int := (m * 69069 + c * 31 + 5) % 2147483629
def mixOf (ns : List Int) : Int := ns.foldl mixStep 11
def absI (i : Int) : Int := if i < 0 then -i else i
def srcOf (ns : List Int) : Src := ⟨(ns.map absI).reverse, 1, mixOf ns, 0⟩
def spSrc (K : PySem.W.Frag) : Sp := fun vs H Q _ => ∃ (a : Addr) (ns : List Int), vs = [.ref a] ∧ SqL K H a (ns.map V.int) ∧ ns.length ≤ 63 ∧ ∀ H' d l, Keeps H H' → H d = none → H l = none → SrcAt d l (srcOf ns) H' → Q (.ref d) H'
theorem mix_small : ∀ (ns : List Int) (m : Int), 0 ≤ m → m < 2147483629 → 0 ≤ ns.foldl mixStep m ∧ ns.foldl mixStep m < 2147483629
  | [], m, h1, h2 => ⟨h1, h2⟩
  | c :: ns, m, h1, h2 => by
    rw [List.foldl_cons]
    refine mix_small ns _ ?_ ?_
    · unfold mixStep; omega
    · unfold mixStep; omega
theorem keeps_upd {H : Hp} {p : Addr} {o : HO} (h : H p = none) : Keeps H (upd H p o) := fun b x e => by
  rw [upd_ne (ne_of_none e h)]
  exact e
theorem Keeps.trans {H H1 H2 : Hp} (a : Keeps H H1) (b : Keeps H1 H2) : Keeps H H2 := fun x o e => b x o (a x o e)
theorem Keeps.seq {K : PySem.W.Frag} {H H' : Hp} {a : Addr} {xs : List V} (k : Keeps H H') (h : SqL K H a xs) : SqL K H' a xs := by
  rcases h with (h | ⟨o, h⟩) | h
  · exact .inl (.inl (k _ _ h))
  · exact .inl (.inr ⟨o, k _ _ h⟩)
  · exact .inr h
theorem keeps_none {H H' : Hp} {a : Addr} (k : Keeps H H') (h : H' a = none) : H a = none := by
  cases q : H a with
  | none => rfl
  | some o =>
    rw [k a o q] at h
    cases h

/-! ### the law behind its first line -/
def noC (n : Nat) : Rho := .no :: .src :: List.replicate n .no
def spLaw (K : PySem.W.Frag) (f : Fn Src Out) (n : Nat) : Sp := fun vs H Q _ => ∃ (a : Addr) (ns : List Int) (s' : Src), vs = [.ref a] ∧ SqL K H a (ns.map V.int) ∧ ns.length ≤ 63 ∧ f (noC n) (srcOf ns) = some (.rt (.im (.bl true)), s') ∧ ∀ H', Q (.bl true) H'
theorem law_rest {t : TS} {f : Fn Src Out} {n : Nat} {d l : Addr} {H : Hp} {s s' : Src} {Q : VK} {σ : L2.St} (h : DS FamS t f) (e : f (noC n) s = some (.rt (.im (.bl true)), s')) (sa : SrcAt d l s H) (hz : σ.length = n + 2) (h1 : σ[1]? = some (some (.ref d))) (q : ∀ H', Q (.bl true) H') : t { nx := fun _ H' => Q .non H', rt := Q } σ H := by
  have ok : ∀ i, CellOk (srcVol d l) ⟨H, []⟩ H (cel (noC n) i) (σ[i]?) [] := fun i => by
    match i with
    | 0 => exact rfl
    | 1 => exact ⟨rfl, h1⟩
    | i + 2 =>
      have : cel (noC n) (i + 2) = .no := by
        unfold noC
        rw [cel_cons, cel_cons]
        unfold cel
        rw [List.getElem?_replicate]
        by_cases c : i < n
        · rw [if_pos c]; rfl
        · rw [if_neg c]; rfl
      rw [this]
      rfl
  refine h (srcVol d l) ⟨d, l, rfl⟩ ⟨H, []⟩ _ _ H (fun _ => []) s _ _ s' ⟨?_, sa, fun a o _ e => e, ok, fun i j _ _ a ha => (List.not_mem_nil ha).elim, fun p hp => by cases hp⟩ e ?_
  · unfold noC
    rw [hz, List.length_cons, List.length_cons, List.length_replicate]
  · exact fun v H' g x _ r rm pl fr => by
      have ev := rm.inv_im.2.inv_bl
      subst ev
      exact q H'
end Pl
end

section
set_option Elab.async false
set_option linter.all false
set_option maxRecDepth 100000
set_option maxHeartbeats 4000000
namespace K96
open PySem PySem.Spec PyProof.Rows L2 StX Pl
/-! ### the law's source, as it is made -/
def topS (i : Nat) : Stmt := PySem.Challenge.pw_heightnets_k96_whole_turnings.main.body.getD i (.Pass ⟨0, 0, 0, 0⟩)
abbrev sSrc : Stmt := topS 42
abbrev nSrc : List Str := ["script", "mixed", "cell"]
theorem scSrc : FnScope nSrc ["script"] (defScope sSrc) := ⟨rfl, rfl, rfl, by decide +kernel, rfl, by decide +kernel, by decide +kernel⟩
section
variable {P : Program} {w : World} {K : PySem.W.Frag} {mg : Str → Option Value} {base : Heap}
theorem ok_src {f : Addr} {fd : FuncData} {k : Nat} (bl : Bl mg) (U : Fun K "_law_source" "_law_source" sSrc f fd) : FnOk P w K mg base CX0 (k + 1) f fd ["script"] (spSrc K) := by
  refine U.ok scSrc (fun vs H Q E h => ?_) (fun cdv A outer s H vs Q E hr h => ?_)
  · obtain ⟨a, ns, rfl, _⟩ := h
    rfl
  · obtain ⟨a, ns, rfl, hS, hlen, q⟩ := h
    refine ⟨_, pss_cons (ps_set (i := 1) scSrc.nd rfl (.inl rfl) pe_int)
      (pss_cons (ps_for PassesOwn.never rfl (pi_list (pv 0)) (pg_name (i := 2) scSrc.nd rfl (.inl rfl))
        (pss_one (ps_set (i := 1) scSrc.nd rfl (.inl rfl) (pe_op op_mod (pe_callTy call_int1 (by rfl) bl.int PyProof.Rows.boot_int (pa_cons (pe_op op_add (pe_op op_add (pe_op op_mul (pv 1) pe_int) (pe_op op_mul (pv 2) pe_int)) pe_int) pa_nil)) pe_int))))
      (pss_one (ps_ret (pe_disp (pps_cons pe_str (pe_revL (pe_lc (own := [("cell", 2)]) (by rfl) scSrc.nd (pi_list (pv 0)) (blkOk_by (own := [("cell", 2)]) (N := nSrc) (sc := defScope sSrc) (by decide +kernel)) (fun _ _ _ _ _ => pg_name (i := 2) scSrc.nd rfl (Or.inl rfl)) (fun _ _ _ _ _ => pts_nil)
        (fun _ _ _ _ _ => pe_callB call_abs (by rfl) bl.abs PyProof.Rows.boot_abs (pa_cons (pv 2) pa_nil))))
        (pps_cons pe_str pe_int (pps_cons pe_str (pv 1) (pps_cons pe_str pe_int pps_nil)))) rfl rfl (fun z => nomatch z) (by decide))))), ?_⟩
    -- mixed = 11
    refine ⟨.ref a, rfl, a, rfl, ⟨_, hS⟩, ?_⟩
    refine for_list (K := K) (a := a) (xs := ns.map V.int) (fun i σ H1 => H1 = H ∧ ∃ y, σ = [some (.ref a), some (.int (mixOf (ns.take i))), y]) ⟨rfl, none, rfl⟩ (fun i σ H1 _ h => by rw [h.1]; exact hS) (fun i x σ H1 hx h => ?_) (fun σ H1 h => ?_)
    · obtain ⟨rfl, y, rfl⟩ := h
      rw [List.getElem?_map] at hx
      obtain ⟨c, hc, rfl⟩ := map_some hx
      have em : mixOf (ns.take (i + 1)) = mixStep (mixOf (ns.take i)) c := by
        unfold mixOf
        have hi := (List.getElem?_eq_some_iff.mp hc)
        obtain ⟨hi, e⟩ := hi
        rw [List.take_succ_eq_append_getElem hi, List.foldl_append, e]
        rfl
      obtain ⟨m1, m2⟩ := mix_small (ns.take i) 11 (by decide) (by decide)
      refine ⟨.int (mixOf (ns.take i)), rfl, mixOf (ns.take i), 69069, rfl, rfl, .inr ⟨by decide, by decide⟩, .int c, rfl, c, 31, rfl, rfl, .inr ⟨by decide, by decide⟩, _, _, rfl, rfl, _, 5, rfl, rfl, .inl ⟨_, rfl, _, 2147483629, rfl, rfl, (by show (0 : Int) < 2147483629; decide), rfl, some (.int c), ?_⟩⟩
      rw [em]
      rfl
    · obtain ⟨rfl, y, rfl⟩ := h
      have en : ns.take (ns.map V.int).length = ns := by rw [List.length_map, List.take_length]
      rw [en]
      intro d nd
      have k1 : Keeps H1 (upd H1 d (.dK [])) := keeps_upd nd
      refine ⟨.ref a, rfl, a, rfl, ⟨_, k1.seq hS⟩, fun b nb => ?_⟩
      have k2 : Keeps (upd H1 d (.dK [])) (upd (upd H1 d (.dK [])) b (.lst [])) := keeps_upd nb
      have ndb : d ≠ b := fun e => by rw [← e, upd_same] at nb; cases nb
      refine lc_list (K := K) (a := a) (xs := ns.map V.int) (fun i H2 => Keeps (upd H1 d (.dK [])) H2 ∧ H2 b = some (.lst ((ns.take i).map fun c => V.int (absI c)))) ⟨k2, upd_same⟩ (fun i H2 _ h => (Keeps.trans k1 h.1).seq hS) (fun i x H2 hx h => ?_) (fun H2 h => ?_)
      · rw [List.getElem?_map] at hx
        obtain ⟨c, hc, rfl⟩ := map_some hx
        obtain ⟨hk, hb⟩ := h
        obtain ⟨hi, e⟩ := List.getElem?_eq_some_iff.mp hc
        refine ⟨rfl, .int c, rfl, c, rfl, _, hb, ?_, fun z o ez => ?_, ?_⟩
        · rw [List.length_map, List.length_take]
          exact Nat.lt_of_le_of_lt (Nat.min_le_right _ _) (Nat.lt_of_le_of_lt hlen (by decide))
        · rw [upd_ne (ne_of_none ez nb)]
          exact hk z o ez
        · rw [upd_same, List.take_succ_eq_append_getElem hi, List.map_append, e]
          rfl
      · obtain ⟨hk, hb⟩ := h
        have en2 : ns.take (ns.map V.int).length = ns := by rw [List.length_map, List.take_length]
        rw [en2] at hb
        refine ⟨b, _, rfl, .of hb, fun l nl => ?_⟩
        have k3 : Keeps H2 (upd H2 l (.lst (ns.map fun c => V.int (absI c)).reverse)) := keeps_upd nl
        have hd2 : H2 d = some (.dK []) := hk d _ upd_same
        have ndl : d ≠ l := fun e => by rw [← e, hd2] at nl; cases nl
        refine ⟨.int (mixOf ns), rfl, k3 d _ hd2, [(.inr "cells", .ref l), (.inr "left", .int 1), (.inr "mixed", .int (mixOf ns)), (.inr "turn", .int 0)], rfl, by simp, ?_⟩
        refine q _ d l (fun z o ez => ?_) nd (keeps_none (Keeps.trans k1 hk) nl) ⟨ndl, ?_, ?_⟩
        · rw [upd_ne (ne_of_none ez nd)]
          exact (Keeps.trans (Keeps.trans k1 hk) k3) z o ez
        · rw [upd_same]
          rfl
        · rw [upd_ne (Ne.symm ndl), upd_same]
          unfold srcOf
          rw [← List.map_reverse, ← List.map_reverse, List.map_map]
          rfl
end
end K96
end

section
set_option Elab.async false
set_option linter.all false
set_option maxRecDepth 100000
set_option maxHeartbeats 4000000
namespace K96
open PySem PySem.Spec PyProof.Rows L2 StX Pl
def top (i : Nat) : Stmt := PySem.Challenge.pw_heightnets_k96_whole_turnings.main.body.getD i (.Pass ⟨0, 0, 0, 0⟩)
section
variable {P : Program} {w : World} {K : PySem.W.Frag} {mg : Str → Option Value} {base : Heap}
abbrev s_is_turning : Stmt := top 5
abbrev n_is_turning : List Str := ["frame", "value", "mark"]
theorem sc_is_turning : FnScope n_is_turning ["frame", "value"] (defScope s_is_turning) := ⟨rfl, rfl, rfl, by decide +kernel, rfl, by decide +kernel, by decide +kernel⟩
noncomputable def f_is_turning : Fn Unit Out := (fSeq (fIfS (fOr (fNot (fTest (fIsi "tuple" (fVar 1)))) (fTest (fOp oNe (fCal oLen (fCons (fVar 1) fNil)) (fCal oLen (fCons (fIx (fVar 0) (fC (.int 1))) fNil))))) (fRet none (fC (.bl false))) fNx)
  (fRet none (fCal (oD (oBol fun bs => bs.all id)) (fCons (fLc (xTup (fVar 1)) (gfN 2) fYes (fAndV (fIsi "int" (fVar 2)) (fAndV (fNotV (fIsi "bool" (fVar 2))) (fOp (oIn false) (fVar 2) (fTup (fCons (fC (.int 0)) (fCons (fC (.int 1)) fNil)))))) [2]) fNil))))
noncomputable def m_is_turning : List M → Option M := runF 3 f_is_turning
theorem ok_is_turning {f : Addr} {fd : FuncData} {k : Nat}  (bl : Bl mg)   (U : Fun K "is_turning" "is_turning" s_is_turning f fd) (g : mg "is_turning" = some (.ref f)) : Cl P w K mg base (k + 1) "is_turning" 2 m_is_turning := by
  refine ⟨f, fd, ["frame", "value"], ok_def U sc_is_turning rfl rfl (fun cdv A outer s H E hr => ?_), g, U.kp, U.binds fun _ _ _ _ _ _ us hl => match us, hl with | [_, _], _ => rfl⟩
  haveI F : Fx (cxOf CX0 P w K mg base n_is_turning "is_turning" (defScope s_is_turning) f cdv A outer s H E).nox K := ⟨rfl, rfl, by have := hr.un; show (A.deeper _).units + 65 < cLine; omega, sc_is_turning.nd, bl⟩
  exact ⟨_, (b_cons (s_if (PDW.pt (w_or (t_not (t_val (r_isiT (d_name 1 (pv 1))))) (w_or1 (q_ne (r_len (a_cons (d_name 1 (pv 1)) a_nil)) (r_len (a_cons (r_ix (d_name 0 (pv 0)) d_int (fun _ _ => rfl)) a_nil)))))) (b_one (s_ret d_bl)) b_nil)
    (b_one (s_ret (r_all (a_cons (d_lc0 (own := [("mark", 2)]) (blkOk_by (own := [("mark", 2)]) (N := n_is_turning) (sc := defScope s_is_turning) (by decide +kernel)) (i_tup (d_name 1 (pv 1))) (fun s1 H1 C1 l1 p1 => (g_nm (i := 2) rfl)) dg_name (by decide) (fun s1 H1 C1 l1 p1 => (d_and (r_isiI (d_name 2 (pv 2))) (d_and (d_not (r_isiB (d_name 2 (pv 2)))) (d_one (c_in (d_name 2 (pv 2)) (d_tup (a_cons d_int (a_cons d_int a_nil))))))))) a_nil)))))⟩

abbrev s_tail_of : Stmt := top 6
abbrev n_tail_of : List Str := ["frame", "turning", "road"]
theorem sc_tail_of : FnScope n_tail_of ["frame", "turning", "road"] (defScope s_tail_of) := ⟨rfl, rfl, rfl, by decide +kernel, rfl, by decide +kernel, by decide +kernel⟩
noncomputable def f_tail_of : Fn Unit Out := (fRet none (fIx (fIx (fIx (fVar 0) (fC (.int 1))) (fVar 2)) (fIx (fVar 1) (fVar 2))))
noncomputable def m_tail_of : List M → Option M := runF 3 f_tail_of
theorem ok_tail_of {f : Addr} {fd : FuncData} {k : Nat}  (bl : Bl mg)   (U : Fun K "tail_of" "tail_of" s_tail_of f fd) (g : mg "tail_of" = some (.ref f)) : Cl P w K mg base (k + 1) "tail_of" 3 m_tail_of := by
  refine ⟨f, fd, ["frame", "turning", "road"], ok_def U sc_tail_of rfl rfl (fun cdv A outer s H E hr => ?_), g, U.kp, U.binds fun _ _ _ _ _ _ us hl => match us, hl with | [_, _, _], _ => rfl⟩
  haveI F : Fx (cxOf CX0 P w K mg base n_tail_of "tail_of" (defScope s_tail_of) f cdv A outer s H E).nox K := ⟨rfl, rfl, by have := hr.un; show (A.deeper _).units + 65 < cLine; omega, sc_tail_of.nd, bl⟩
  exact ⟨_, (b_one (s_ret (r_ix (r_ix (r_ix (d_name 0 (pv 0)) d_int (fun _ _ => rfl)) (d_name 2 (pv 2)) (fun _ _ => rfl)) (r_ix (d_name 1 (pv 1)) (d_name 2 (pv 2)) (fun _ _ => rfl)) (fun _ _ => rfl))))⟩

abbrev s_head_of : Stmt := top 7
abbrev n_head_of : List Str := ["frame", "turning", "road"]
theorem sc_head_of : FnScope n_head_of ["frame", "turning", "road"] (defScope s_head_of) := ⟨rfl, rfl, rfl, by decide +kernel, rfl, by decide +kernel, by decide +kernel⟩
noncomputable def f_head_of : Fn Unit Out := (fRet none (fIx (fIx (fIx (fVar 0) (fC (.int 1))) (fVar 2)) (fOp oSub (fC (.int 1)) (fIx (fVar 1) (fVar 2)))))
noncomputable def m_head_of : List M → Option M := runF 3 f_head_of
theorem ok_head_of {f : Addr} {fd : FuncData} {k : Nat}  (bl : Bl mg)   (U : Fun K "head_of" "head_of" s_head_of f fd) (g : mg "head_of" = some (.ref f)) : Cl P w K mg base (k + 1) "head_of" 3 m_head_of := by
  refine ⟨f, fd, ["frame", "turning", "road"], ok_def U sc_head_of rfl rfl (fun cdv A outer s H E hr => ?_), g, U.kp, U.binds fun _ _ _ _ _ _ us hl => match us, hl with | [_, _, _], _ => rfl⟩
  haveI F : Fx (cxOf CX0 P w K mg base n_head_of "head_of" (defScope s_head_of) f cdv A outer s H E).nox K := ⟨rfl, rfl, by have := hr.un; show (A.deeper _).units + 65 < cLine; omega, sc_head_of.nd, bl⟩
  exact ⟨_, (b_one (s_ret (r_ix (r_ix (r_ix (d_name 0 (pv 0)) d_int (fun _ _ => rfl)) (d_name 2 (pv 2)) (fun _ _ => rfl)) (r_sub d_int (r_ix (d_name 1 (pv 1)) (d_name 2 (pv 2)) (fun _ _ => rfl))) (fun _ _ => rfl))))⟩

abbrev s_outs_of : Stmt := top 8
abbrev n_outs_of : List Str := ["frame", "turning", "found", "road"]
theorem sc_outs_of : FnScope n_outs_of ["frame", "turning"] (defScope s_outs_of) := ⟨rfl, rfl, rfl, by decide +kernel, rfl, by decide +kernel, by decide +kernel⟩
noncomputable def f_outs_of : Fn Unit Out := (fSeq (fSet 2 (fOpW oRepL (fLst (fCons (fC (.int 0)) fNil)) (fIx (fVar 0) (fC (.int 0)))))
  (fSeq (fFor none (xRng1 (fCons (fCal oLen (fCons (fIx (fVar 0) (fC (.int 1))) fNil)) fNil)) (gfN 3) (fAugL 2 (fCall 3 m_tail_of (fCons (fVar 0) (fCons (fVar 1) (fCons (fVar 3) fNil)))) (fC (.int 1))))
  (fRet none (fCal oTuple (fCons (fVar 2) fNil)))))
noncomputable def m_outs_of : List M → Option M := runF 4 f_outs_of
theorem ok_outs_of {f : Addr} {fd : FuncData} {k : Nat}  (bl : Bl mg) (c_tail_of : Cl P w K mg base k "tail_of" 3 m_tail_of)  (U : Fun K "outs_of" "outs_of" s_outs_of f fd) (g : mg "outs_of" = some (.ref f)) : Cl P w K mg base (k + 1) "outs_of" 2 m_outs_of := by
  refine ⟨f, fd, ["frame", "turning"], ok_def U sc_outs_of rfl rfl (fun cdv A outer s H E hr => ?_), g, U.kp, U.binds fun _ _ _ _ _ _ us hl => match us, hl with | [_, _], _ => rfl⟩
  haveI F : Fx (cxOf CX0 P w K mg base n_outs_of "outs_of" (defScope s_outs_of) f cdv A outer s H E).nox K := ⟨rfl, rfl, by have := hr.un; show (A.deeper _).units + 65 < cLine; omega, sc_outs_of.nd, bl⟩
  exact ⟨_, (b_cons (s_set (i := 2) (fun z => ps_set F.nd rfl (Or.inl rfl) z) (r_repL (d_lst (a_cons d_int a_nil)) (r_ix (d_name 0 (pv 0)) d_int (fun _ _ => rfl))))
    (b_cons (s_for (z := none) (fun x y z => ps_for PassesOwn.never rfl x y z) (i_rng1 (a_cons (r_len (a_cons (r_ix (d_name 0 (pv 0)) d_int (fun _ _ => rfl)) a_nil)) a_nil)) (g_nm (i := 3) rfl) dg_name (b_one (s_augL (i := 2) (fun z y => ps_augS (pv 2) z get_list y ip_add set_list) (d_cl c_tail_of hr (a_cons (d_name 0 (pv 0)) (a_cons (d_name 1 (pv 1)) (a_cons (d_name 3 (pv 3)) a_nil)))) d_int)))
    (b_one (s_ret (r_tuple (a_cons (d_name 2 (pv 2)) a_nil))))))⟩

abbrev s_turned_roads : Stmt := top 9
abbrev n_turned_roads : List Str := ["turning", "roads", "road", "mark"]
theorem sc_turned_roads : FnScope n_turned_roads ["turning", "roads"] (defScope s_turned_roads) := ⟨rfl, rfl, rfl, by decide +kernel, rfl, by decide +kernel, by decide +kernel⟩
noncomputable def f_turned_roads : Fn Unit Out := (fRet none (fCal oTuple (fCons (fLc (xEnumT (fCons (fVar 0) fNil)) (gfTup 2 (gfCons (gfN 2) (gfCons (gfN 3) gfNil))) fYes (fIf (fTest (fOp (oIn false) (fVar 2) (fVar 1))) (fOp oSub (fC (.int 1)) (fVar 3)) (fVar 3)) [2, 3]) fNil)))
noncomputable def m_turned_roads : List M → Option M := runF 4 f_turned_roads
theorem ok_turned_roads {f : Addr} {fd : FuncData} {k : Nat}  (bl : Bl mg)   (U : Fun K "turned_roads" "turned_roads" s_turned_roads f fd) (g : mg "turned_roads" = some (.ref f)) : Cl P w K mg base (k + 1) "turned_roads" 2 m_turned_roads := by
  refine ⟨f, fd, ["turning", "roads"], ok_def U sc_turned_roads rfl rfl (fun cdv A outer s H E hr => ?_), g, U.kp, U.binds fun _ _ _ _ _ _ us hl => match us, hl with | [_, _], _ => rfl⟩
  haveI F : Fx (cxOf CX0 P w K mg base n_turned_roads "turned_roads" (defScope s_turned_roads) f cdv A outer s H E).nox K := ⟨rfl, rfl, by have := hr.un; show (A.deeper _).units + 65 < cLine; omega, sc_turned_roads.nd, bl⟩
  exact ⟨_, (b_one (s_ret (r_tuple (a_cons (d_lc0 (own := [("road", 2), ("mark", 3)]) (blkOk_by (own := [("road", 2), ("mark", 3)]) (N := n_turned_roads) (sc := defScope s_turned_roads) (by decide +kernel)) (i_enT (a_cons (d_name 0 (pv 0)) a_nil)) (fun s1 H1 C1 l1 p1 => (g_tup (pgs_cons (g_nm (i := 2) rfl) (pgs_cons (g_nm (i := 3) rfl) pgs_nil)))) (dg_tup (dgs_cons dg_name (dgs_cons dg_name dgs_nil))) (by decide) (fun s1 H1 C1 l1 p1 => (d_ifExp (q_in (d_name 2 (pv 2)) (d_name 1 (pv 1))) (r_sub d_int (d_name 3 (pv 3))) (d_name 3 (pv 3))))) a_nil))))⟩

abbrev s_roads_within : Stmt := top 11
abbrev n_roads_within : List Str := ["frame", "lot", "a", "b"]
theorem sc_roads_within : FnScope n_roads_within ["frame", "lot"] (defScope s_roads_within) := ⟨rfl, rfl, rfl, by decide +kernel, rfl, by decide +kernel, by decide +kernel⟩
noncomputable def f_roads_within : Fn Unit Out := (fRet none (fCal oLen (fCons (fLc (xTup (fIx (fVar 0) (fC (.int 1)))) (gfTup 2 (gfCons (gfN 2) (gfCons (gfN 3) gfNil))) (fAnd (fTest (fOp (oIn false) (fVar 2) (fVar 1))) (fTest (fOp (oIn false) (fVar 3) (fVar 1)))) (fC (.int 1)) [2, 3]) fNil)))
noncomputable def m_roads_within : List M → Option M := runF 4 f_roads_within
theorem ok_roads_within {f : Addr} {fd : FuncData} {k : Nat}  (bl : Bl mg)   (U : Fun K "roads_within" "roads_within" s_roads_within f fd) (g : mg "roads_within" = some (.ref f)) : Cl P w K mg base (k + 1) "roads_within" 2 m_roads_within := by
  refine ⟨f, fd, ["frame", "lot"], ok_def U sc_roads_within rfl rfl (fun cdv A outer s H E hr => ?_), g, U.kp, U.binds fun _ _ _ _ _ _ us hl => match us, hl with | [_, _], _ => rfl⟩
  haveI F : Fx (cxOf CX0 P w K mg base n_roads_within "roads_within" (defScope s_roads_within) f cdv A outer s H E).nox K := ⟨rfl, rfl, by have := hr.un; show (A.deeper _).units + 65 < cLine; omega, sc_roads_within.nd, bl⟩
  exact ⟨_, (b_one (s_ret (r_len (a_cons (d_lc1 (own := [("a", 2), ("b", 3)]) (blkOk_by (own := [("a", 2), ("b", 3)]) (N := n_roads_within) (sc := defScope s_roads_within) (by decide +kernel)) (i_tup (r_ix (d_name 0 (pv 0)) d_int (fun _ _ => rfl))) (fun s1 H1 C1 l1 p1 => (g_tup (pgs_cons (g_nm (i := 2) rfl) (pgs_cons (g_nm (i := 3) rfl) pgs_nil)))) (dg_tup (dgs_cons dg_name (dgs_cons dg_name dgs_nil))) (by decide) (fun s1 H1 C1 l1 p1 => (PDW.pt (w_and (q_in (d_name 2 (pv 2)) (d_name 1 (pv 1))) (w_and1 (q_in (d_name 3 (pv 3)) (d_name 1 (pv 1))))))) (fun s1 H1 C1 l1 p1 => d_int)) a_nil))))⟩

abbrev s_outs_at : Stmt := top 12
abbrev n_outs_at : List Str := ["outs", "lot", "crossing"]
theorem sc_outs_at : FnScope n_outs_at ["outs", "lot"] (defScope s_outs_at) := ⟨rfl, rfl, rfl, by decide +kernel, rfl, by decide +kernel, by decide +kernel⟩
noncomputable def f_outs_at : Fn Unit Out := (fRet none (fCal oSum (fCons (fLc (xTup (fVar 1)) (gfN 2) fYes (fIx (fVar 0) (fVar 2)) [2]) fNil)))
noncomputable def m_outs_at : List M → Option M := runF 3 f_outs_at
theorem ok_outs_at {f : Addr} {fd : FuncData} {k : Nat}  (bl : Bl mg)   (U : Fun K "outs_at" "outs_at" s_outs_at f fd) (g : mg "outs_at" = some (.ref f)) : Cl P w K mg base (k + 1) "outs_at" 2 m_outs_at := by
  refine ⟨f, fd, ["outs", "lot"], ok_def U sc_outs_at rfl rfl (fun cdv A outer s H E hr => ?_), g, U.kp, U.binds fun _ _ _ _ _ _ us hl => match us, hl with | [_, _], _ => rfl⟩
  haveI F : Fx (cxOf CX0 P w K mg base n_outs_at "outs_at" (defScope s_outs_at) f cdv A outer s H E).nox K := ⟨rfl, rfl, by have := hr.un; show (A.deeper _).units + 65 < cLine; omega, sc_outs_at.nd, bl⟩
  exact ⟨_, (b_one (s_ret (r_sum (a_cons (d_lc0 (own := [("crossing", 2)]) (blkOk_by (own := [("crossing", 2)]) (N := n_outs_at) (sc := defScope s_outs_at) (by decide +kernel)) (i_tup (d_name 1 (pv 1))) (fun s1 H1 C1 l1 p1 => (g_nm (i := 2) rfl)) dg_name (by decide) (fun s1 H1 C1 l1 p1 => (r_ix (d_name 0 (pv 0)) (d_name 2 (pv 2)) (fun _ _ => rfl)))) a_nil))))⟩

abbrev s_ways_from : Stmt := top 13
abbrev n_ways_from : List Str := ["frame", "turning", "crossing", "found", "late", "here", "road", "tail", "head"]
theorem sc_ways_from : FnScope n_ways_from ["frame", "turning", "crossing"] (defScope s_ways_from) := ⟨rfl, rfl, rfl, by decide +kernel, rfl, by decide +kernel, by decide +kernel⟩
noncomputable def f_ways_from : Fn Unit Out := (fSeq (fPar2 3 4 (fCons (fDsK (fVar 2) (fTup fNil)) (fCons (fLst (fCons (fVar 2) fNil)) fNil)))
  (fSeq (fWh (fTest (fOp oNe (fVar 4) (fLst fNil))) (fSeq (fParM 5 4 4 (fLst fNil))
  (fFor none (xRng1 (fCons (fCal oLen (fCons (fIx (fVar 0) (fC (.int 1))) fNil)) fNil)) (gfN 6) (fSeq (fPar2 7 8 (fCons (fCall 3 m_tail_of (fCons (fVar 0) (fCons (fVar 1) (fCons (fVar 6) fNil)))) (fCons (fCall 3 m_head_of (fCons (fVar 0) (fCons (fVar 1) (fCons (fVar 6) fNil)))) fNil)))
  (fIfS (fAnd (fTest (fOp (oIn false) (fVar 7) (fVar 5))) (fTest (fDIn true (fVar 8) (fVar 3)))) (fSeq (fPutD 3 (fTup (fStar (fDIx (fVar 3) (fVar 7)) (fCons (fVar 6) fNil))) (fVar 8))
  (fApp 4 (fVar 8))) fNx)))) 1000)
  (fRet (some 3) (fC .non))))
noncomputable def m_ways_from : List M → Option M := runF 9 f_ways_from
theorem ok_ways_from {f : Addr} {fd : FuncData} {k : Nat}  (bl : Bl mg) (c_head_of : Cl P w K mg base k "head_of" 3 m_head_of) (c_tail_of : Cl P w K mg base k "tail_of" 3 m_tail_of)  (U : Fun K "ways_from" "ways_from" s_ways_from f fd) (g : mg "ways_from" = some (.ref f)) : Cl P w K mg base (k + 1) "ways_from" 3 m_ways_from := by
  refine ⟨f, fd, ["frame", "turning", "crossing"], ok_def U sc_ways_from rfl rfl (fun cdv A outer s H E hr => ?_), g, U.kp, U.binds fun _ _ _ _ _ _ us hl => match us, hl with | [_, _, _], _ => rfl⟩
  haveI F : Fx (cxOf CX0 P w K mg base n_ways_from "ways_from" (defScope s_ways_from) f cdv A outer s H E).nox K := ⟨rfl, rfl, by have := hr.un; show (A.deeper _).units + 65 < cLine; omega, sc_ways_from.nd, bl⟩
  exact ⟨_, (b_cons (s_par2 (i := 3) (j := 4) (fun z => ps_par rfl F.nd rfl rfl (by decide) rfl rfl z (by rfl)) (a_cons (d_dsK (fun x y => pe_disp (pps_cons x y pps_nil) rfl rfl (fun z => nomatch z) (by decide)) (d_name 2 (pv 2)) (d_tup a_nil)) (a_cons (d_lst (a_cons (d_name 2 (pv 2)) a_nil)) a_nil)))
    (b_cons (s_wh (n := 1000) PassesOwn.never (q_ne (d_name 4 (pv 4)) (d_lst a_nil)) (b_cons (s_parM (i := 5) (j := 4) (n := 4) (fun z => ps_par rfl F.nd rfl rfl (by decide) rfl rfl (pa_cons (pv 4) (pa_cons z pa_nil)) (by rfl)) (d_lst a_nil))
    (b_one (s_for (z := none) (fun x y z => ps_for PassesOwn.never rfl x y z) (i_rng1 (a_cons (r_len (a_cons (r_ix (d_name 0 (pv 0)) d_int (fun _ _ => rfl)) a_nil)) a_nil)) (g_nm (i := 6) rfl) dg_name (b_cons (s_par2 (i := 7) (j := 8) (fun z => ps_par rfl F.nd rfl rfl (by decide) rfl rfl z (by rfl)) (a_cons (d_cl c_tail_of hr (a_cons (d_name 0 (pv 0)) (a_cons (d_name 1 (pv 1)) (a_cons (d_name 6 (pv 6)) a_nil)))) (a_cons (d_cl c_head_of hr (a_cons (d_name 0 (pv 0)) (a_cons (d_name 1 (pv 1)) (a_cons (d_name 6 (pv 6)) a_nil)))) a_nil)))
    (b_one (s_if (PDW.pt (w_and (q_in (d_name 7 (pv 7)) (d_name 5 (pv 5))) (w_and1 (q_dnin (d_name 8 (pv 8)) (d_name 3 (pv 3)))))) (b_cons (s_putD (i := 3) (fun z y => ps_dput (by have := F.hu; omega) (pv 3) z y rfl) (d_tup (r_star (r_dix (d_name 3 (pv 3)) (d_name 7 (pv 7)) (fun _ _ => rfl)) (a_cons (d_name 6 (pv 6)) a_nil))) (d_name 8 (pv 8)))
    (b_one (s_app (i := 4) (fun z => ps_expr (pe_bm PySem.F.plainAttrs_list PySem.F.slot_list_append PySem.F.type_list_append mt_append (pv 4) (pa_cons z pa_nil))) (d_name 8 (pv 8))))) b_nil)))))))
    (b_one (s_retV (pv 3)))))⟩

abbrev s_led_from : Stmt := top 14
abbrev n_led_from : List Str := ["frame", "turning", "crossing"]
theorem sc_led_from : FnScope n_led_from ["frame", "turning", "crossing"] (defScope s_led_from) := ⟨rfl, rfl, rfl, by decide +kernel, rfl, by decide +kernel, by decide +kernel⟩
noncomputable def f_led_from : Fn Unit Out := (fRet none (fCal oTuple (fCons (fCal oSortK (fCons (fCall 3 m_ways_from (fCons (fVar 0) (fCons (fVar 1) (fCons (fVar 2) fNil)))) fNil)) fNil)))
noncomputable def m_led_from : List M → Option M := runF 3 f_led_from
theorem ok_led_from {f : Addr} {fd : FuncData} {k : Nat}  (bl : Bl mg) (c_ways_from : Cl P w K mg base k "ways_from" 3 m_ways_from)  (U : Fun K "led_from" "led_from" s_led_from f fd) (g : mg "led_from" = some (.ref f)) : Cl P w K mg base (k + 1) "led_from" 3 m_led_from := by
  refine ⟨f, fd, ["frame", "turning", "crossing"], ok_def U sc_led_from rfl rfl (fun cdv A outer s H E hr => ?_), g, U.kp, U.binds fun _ _ _ _ _ _ us hl => match us, hl with | [_, _, _], _ => rfl⟩
  haveI F : Fx (cxOf CX0 P w K mg base n_led_from "led_from" (defScope s_led_from) f cdv A outer s H E).nox K := ⟨rfl, rfl, by have := hr.un; show (A.deeper _).units + 65 < cLine; omega, sc_led_from.nd, bl⟩
  exact ⟨_, (b_one (s_ret (r_tuple (a_cons (r_sortK (a_cons (d_cl c_ways_from hr (a_cons (d_name 0 (pv 0)) (a_cons (d_name 1 (pv 1)) (a_cons (d_name 2 (pv 2)) a_nil)))) a_nil)) a_nil))))⟩

abbrev s_too_many : Stmt := top 15
abbrev n_too_many : List Str := ["outs", "told", "some", "crossing", "number"]
theorem sc_too_many : FnScope n_too_many ["outs", "told"] (defScope s_too_many) := ⟨rfl, rfl, rfl, by decide +kernel, rfl, by decide +kernel, by decide +kernel⟩
noncomputable def f_too_many : Fn Unit Out := (fSeq (fSet 2 (fLc (xEnumT (fCons (fVar 0) fNil)) (gfTup 2 (gfCons (gfN 3) (gfCons (gfN 4) gfNil))) (fTest (fOp oGt (fVar 4) (fIx (fVar 1) (fVar 3)))) (fVar 3) [3, 4]))
  (fRet none (fIf (fTest (fOp oNe (fVar 2) (fLst fNil))) (fIx (fVar 2) (fC (.int 0))) (fC .non))))
noncomputable def m_too_many : List M → Option M := runF 5 f_too_many
theorem ok_too_many {f : Addr} {fd : FuncData} {k : Nat}  (bl : Bl mg)   (U : Fun K "too_many" "too_many" s_too_many f fd) (g : mg "too_many" = some (.ref f)) : Cl P w K mg base (k + 1) "too_many" 2 m_too_many := by
  refine ⟨f, fd, ["outs", "told"], ok_def U sc_too_many rfl rfl (fun cdv A outer s H E hr => ?_), g, U.kp, U.binds fun _ _ _ _ _ _ us hl => match us, hl with | [_, _], _ => rfl⟩
  haveI F : Fx (cxOf CX0 P w K mg base n_too_many "too_many" (defScope s_too_many) f cdv A outer s H E).nox K := ⟨rfl, rfl, by have := hr.un; show (A.deeper _).units + 65 < cLine; omega, sc_too_many.nd, bl⟩
  exact ⟨_, (b_cons (s_lc1 (i := 2) (own := [("crossing", 3), ("number", 4)]) rfl rfl (sw_true rfl rfl rfl (by decide +kernel)) (blkOk_by (own := [("crossing", 3), ("number", 4)]) (N := n_too_many) (sc := defScope s_too_many) (by decide +kernel)) (i_enT (a_cons (d_name 0 (pv 0)) a_nil)) (fun s1 H1 C1 l1 p1 => (g_tup (pgs_cons (g_nm (i := 3) rfl) (pgs_cons (g_nm (i := 4) rfl) pgs_nil)))) (dg_tup (dgs_cons dg_name (dgs_cons dg_name dgs_nil))) (by decide) (fun s1 H1 C1 l1 p1 => (q_gt (d_name 4 (pv 4)) (r_ix (d_name 1 (pv 1)) (d_name 3 (pv 3)) (fun _ _ => rfl)))) (fun s1 H1 C1 l1 p1 => (d_name 3 (pv 3))))
    (b_one (s_ret (d_ifExp (q_ne (d_name 2 (pv 2)) (d_lst a_nil)) (r_ix (d_name 2 (pv 2)) d_int (fun _ _ => rfl)) d_non))))⟩

abbrev s_nearest_turning : Stmt := top 16
abbrev n_nearest_turning : List Str := ["frame", "told", "turning", "outs", "start", "ways", "few", "crossing"]
theorem sc_nearest_turning : FnScope n_nearest_turning ["frame", "told"] (defScope s_nearest_turning) := ⟨rfl, rfl, rfl, by decide +kernel, rfl, by decide +kernel, by decide +kernel⟩
noncomputable def f_nearest_turning : Fn Unit Out := (fSeq (fSet 2 (fOpW oRepT (fTup (fCons (fC (.int 0)) fNil)) (fCal oLen (fCons (fIx (fVar 0) (fC (.int 1))) fNil))))
  (fSeq (fSet 3 (fCall 2 m_outs_of (fCons (fVar 0) (fCons (fVar 2) fNil))))
  (fSeq (fSet 4 (fCall 2 m_too_many (fCons (fVar 3) (fCons (fVar 1) fNil))))
  (fSeq (fWh (fTest (fOp (oIsN true) (fVar 4) (fC .non))) (fSeq (fSet 5 (fCall 3 m_ways_from (fCons (fVar 0) (fCons (fVar 2) (fCons (fVar 4) fNil)))))
  (fSeq (fSet 6 (fLc (xList (fCal oSortK (fCons (fVar 5) fNil))) (gfN 7) (fTest (fOp oLt (fIx (fVar 3) (fVar 7)) (fIx (fVar 1) (fVar 7)))) (fVar 7) [7]))
  (fSeq (fIfS (fTest (fOp oEq (fVar 6) (fLst fNil))) (fRet none (fTup (fCons (fVar 2) (fCons (fCal oTuple (fCons (fCal oSortK (fCons (fVar 5) fNil)) fNil)) fNil)))) fNx)
  (fSeq (fSet 2 (fCall 2 m_turned_roads (fCons (fVar 2) (fCons (fDIx (fVar 5) (fIx (fVar 6) (fC (.int 0)))) fNil))))
  (fSeq (fSet 3 (fCall 2 m_outs_of (fCons (fVar 0) (fCons (fVar 2) fNil))))
  (fSet 4 (fCall 2 m_too_many (fCons (fVar 3) (fCons (fVar 1) fNil))))))))) 1000)
  (fRet none (fTup (fCons (fVar 2) (fCons (fC .non) fNil))))))))
noncomputable def m_nearest_turning : List M → Option M := runF 8 f_nearest_turning
theorem ok_nearest_turning {f : Addr} {fd : FuncData} {k : Nat}  (bl : Bl mg) (c_outs_of : Cl P w K mg base k "outs_of" 2 m_outs_of) (c_too_many : Cl P w K mg base k "too_many" 2 m_too_many) (c_ways_from : Cl P w K mg base k "ways_from" 3 m_ways_from) (c_turned_roads : Cl P w K mg base k "turned_roads" 2 m_turned_roads)  (U : Fun K "nearest_turning" "nearest_turning" s_nearest_turning f fd) (g : mg "nearest_turning" = some (.ref f)) : Cl P w K mg base (k + 1) "nearest_turning" 2 m_nearest_turning := by
  refine ⟨f, fd, ["frame", "told"], ok_def U sc_nearest_turning rfl rfl (fun cdv A outer s H E hr => ?_), g, U.kp, U.binds fun _ _ _ _ _ _ us hl => match us, hl with | [_, _], _ => rfl⟩
  haveI F : Fx (cxOf CX0 P w K mg base n_nearest_turning "nearest_turning" (defScope s_nearest_turning) f cdv A outer s H E).nox K := ⟨rfl, rfl, by have := hr.un; show (A.deeper _).units + 65 < cLine; omega, sc_nearest_turning.nd, bl⟩
  exact ⟨_, (b_cons (s_set (i := 2) (fun z => ps_set F.nd rfl (Or.inl rfl) z) (r_repT (d_tup (a_cons d_int a_nil)) (r_len (a_cons (r_ix (d_name 0 (pv 0)) d_int (fun _ _ => rfl)) a_nil))))
    (b_cons (s_set (i := 3) (fun z => ps_set F.nd rfl (Or.inr rfl) z) (d_cl c_outs_of hr (a_cons (d_name 0 (pv 0)) (a_cons (d_name 2 (pv 2)) a_nil))))
    (b_cons (s_set (i := 4) (fun z => ps_set F.nd rfl (Or.inl rfl) z) (d_cl c_too_many hr (a_cons (d_name 3 (pv 3)) (a_cons (d_name 1 (pv 1)) a_nil))))
    (b_cons (s_wh (n := 1000) PassesOwn.never (q_notN (d_name 4 (pv 4)) d_non) (b_cons (s_set (i := 5) (fun z => ps_set F.nd rfl (Or.inl rfl) z) (d_cl c_ways_from hr (a_cons (d_name 0 (pv 0)) (a_cons (d_name 2 (pv 2)) (a_cons (d_name 4 (pv 4)) a_nil)))))
    (b_cons (s_lc1 (i := 6) (own := [("crossing", 7)]) rfl rfl (sw_true rfl rfl rfl (by decide +kernel)) (blkOk_by (own := [("crossing", 7)]) (N := n_nearest_turning) (sc := defScope s_nearest_turning) (by decide +kernel)) (i_lst (r_sortK (a_cons (d_name 5 (pv 5)) a_nil))) (fun s1 H1 C1 l1 p1 => (g_nm (i := 7) rfl)) dg_name (by decide) (fun s1 H1 C1 l1 p1 => (q_lt (r_ix (d_name 3 (pv 3)) (d_name 7 (pv 7)) (fun _ _ => rfl)) (r_ix (d_name 1 (pv 1)) (d_name 7 (pv 7)) (fun _ _ => rfl)))) (fun s1 H1 C1 l1 p1 => (d_name 7 (pv 7))))
    (b_cons (s_if (q_eq (d_name 6 (pv 6)) (d_lst a_nil)) (b_one (s_ret (d_tup (a_cons (d_name 2 (pv 2)) (a_cons (r_tuple (a_cons (r_sortK (a_cons (d_name 5 (pv 5)) a_nil)) a_nil)) a_nil))))) b_nil)
    (b_cons (s_set (i := 2) (fun z => ps_set F.nd rfl (Or.inl rfl) z) (d_cl c_turned_roads hr (a_cons (d_name 2 (pv 2)) (a_cons (r_dix (d_name 5 (pv 5)) (r_ix (d_name 6 (pv 6)) d_int (fun _ _ => rfl)) (fun _ _ => rfl)) a_nil))))
    (b_cons (s_set (i := 3) (fun z => ps_set F.nd rfl (Or.inr rfl) z) (d_cl c_outs_of hr (a_cons (d_name 0 (pv 0)) (a_cons (d_name 2 (pv 2)) a_nil))))
    (b_one (s_set (i := 4) (fun z => ps_set F.nd rfl (Or.inl rfl) z) (d_cl c_too_many hr (a_cons (d_name 3 (pv 3)) (a_cons (d_name 1 (pv 1)) a_nil)))))))))))
    (b_one (s_ret (d_tup (a_cons (d_name 2 (pv 2)) (a_cons d_non a_nil)))))))))⟩

abbrev s_outs_paper : Stmt := top 17
abbrev n_outs_paper : List Str := ["frame", "outs", "turning", "lot"]
theorem sc_outs_paper : FnScope n_outs_paper ["frame", "outs"] (defScope s_outs_paper) := ⟨rfl, rfl, rfl, by decide +kernel, rfl, by decide +kernel, by decide +kernel⟩
noncomputable def f_outs_paper : Fn Unit Out := (fSeq (fIfS (fTest (fOp oNe (fCal oSum (fCons (fVar 1) fNil)) (fCal oLen (fCons (fIx (fVar 0) (fC (.int 1))) fNil)))) (fRet none (fTup (fCons (fC (.str "sum")) fNil))) fNx)
  (fSeq (fUnp (gfTup 2 (gfCons (gfN 2) (gfCons (gfN 3) gfNil))) (fCall 2 m_nearest_turning (fCons (fVar 0) (fCons (fVar 1) fNil))))
  (fRet none (fIf (fTest (fOp (oIsN false) (fVar 3) (fC .non))) (fTup (fCons (fC (.str "turning")) (fCons (fVar 2) fNil))) (fTup (fCons (fC (.str "lot")) (fCons (fVar 3) fNil)))))))
noncomputable def m_outs_paper : List M → Option M := runF 4 f_outs_paper
theorem ok_outs_paper {f : Addr} {fd : FuncData} {k : Nat}  (bl : Bl mg) (c_nearest_turning : Cl P w K mg base k "nearest_turning" 2 m_nearest_turning)  (U : Fun K "outs_paper" "outs_paper" s_outs_paper f fd) (g : mg "outs_paper" = some (.ref f)) : Cl P w K mg base (k + 1) "outs_paper" 2 m_outs_paper := by
  refine ⟨f, fd, ["frame", "outs"], ok_def U sc_outs_paper rfl rfl (fun cdv A outer s H E hr => ?_), g, U.kp, U.binds fun _ _ _ _ _ _ us hl => match us, hl with | [_, _], _ => rfl⟩
  haveI F : Fx (cxOf CX0 P w K mg base n_outs_paper "outs_paper" (defScope s_outs_paper) f cdv A outer s H E).nox K := ⟨rfl, rfl, by have := hr.un; show (A.deeper _).units + 65 < cLine; omega, sc_outs_paper.nd, bl⟩
  exact ⟨_, (b_cons (s_if (q_ne (r_sum (a_cons (d_name 1 (pv 1)) a_nil)) (r_len (a_cons (r_ix (d_name 0 (pv 0)) d_int (fun _ _ => rfl)) a_nil))) (b_one (s_ret (d_tup (a_cons d_str a_nil)))) b_nil)
    (b_cons (s_unp (fun z => ps_asg z (g_tup (pgs_cons (g_nm (i := 2) rfl) (pgs_cons (g_nm (i := 3) rfl) pgs_nil)))) (d_cl c_nearest_turning hr (a_cons (d_name 0 (pv 0)) (a_cons (d_name 1 (pv 1)) a_nil))) (dg_tup (dgs_cons dg_name (dgs_cons dg_name dgs_nil))))
    (b_one (s_ret (d_ifExp (q_isN (d_name 3 (pv 3)) d_non) (d_tup (a_cons d_str (a_cons (d_name 2 (pv 2)) a_nil))) (d_tup (a_cons d_str (a_cons (d_name 3 (pv 3)) a_nil))))))))⟩

abbrev s_turning_with : Stmt := top 18
abbrev n_turning_with : List Str := ["frame", "outs", "paper"]
theorem sc_turning_with : FnScope n_turning_with ["frame", "outs"] (defScope s_turning_with) := ⟨rfl, rfl, rfl, by decide +kernel, rfl, by decide +kernel, by decide +kernel⟩
noncomputable def f_turning_with : Fn Unit Out := (fSeq (fSet 2 (fCall 2 m_outs_paper (fCons (fVar 0) (fCons (fVar 1) fNil))))
  (fRet none (fIf (fTest (fOp oEq (fIx (fVar 2) (fC (.int 0))) (fC (.str "turning")))) (fIx (fVar 2) (fC (.int 1))) (fC .non))))
noncomputable def m_turning_with : List M → Option M := runF 3 f_turning_with
theorem ok_turning_with {f : Addr} {fd : FuncData} {k : Nat}  (bl : Bl mg) (c_outs_paper : Cl P w K mg base k "outs_paper" 2 m_outs_paper)  (U : Fun K "turning_with" "turning_with" s_turning_with f fd) (g : mg "turning_with" = some (.ref f)) : Cl P w K mg base (k + 1) "turning_with" 2 m_turning_with := by
  refine ⟨f, fd, ["frame", "outs"], ok_def U sc_turning_with rfl rfl (fun cdv A outer s H E hr => ?_), g, U.kp, U.binds fun _ _ _ _ _ _ us hl => match us, hl with | [_, _], _ => rfl⟩
  haveI F : Fx (cxOf CX0 P w K mg base n_turning_with "turning_with" (defScope s_turning_with) f cdv A outer s H E).nox K := ⟨rfl, rfl, by have := hr.un; show (A.deeper _).units + 65 < cLine; omega, sc_turning_with.nd, bl⟩
  exact ⟨_, (b_cons (s_set (i := 2) (fun z => ps_set F.nd rfl (Or.inl rfl) z) (d_cl c_outs_paper hr (a_cons (d_name 0 (pv 0)) (a_cons (d_name 1 (pv 1)) a_nil))))
    (b_one (s_ret (d_ifExp (q_eq (r_ix (d_name 2 (pv 2)) d_int (fun _ _ => rfl)) d_str) (r_ix (d_name 2 (pv 2)) d_int (fun _ _ => rfl)) d_non))))⟩

abbrev s_is_crossing_lot : Stmt := top 19
abbrev n_is_crossing_lot : List Str := ["frame", "value", "one", "k"]
theorem sc_is_crossing_lot : FnScope n_is_crossing_lot ["frame", "value"] (defScope s_is_crossing_lot) := ⟨rfl, rfl, rfl, by decide +kernel, rfl, by decide +kernel, by decide +kernel⟩
noncomputable def f_is_crossing_lot : Fn Unit Out := (fSeq (fIfS (fNot (fTest (fIsi "tuple" (fVar 1)))) (fRet none (fC (.bl false))) fNx)
  (fSeq (fIfS (fNot (fTest (fCal (oD (oBol fun bs => bs.all id)) (fCons (fLc (xTup (fVar 1)) (gfN 2) fYes (fAndV (fIsi "int" (fVar 2)) (fAndV (fNotV (fIsi "bool" (fVar 2))) (fChain oLe oLt (fC (.int 0)) (fVar 2) (fIx (fVar 0) (fC (.int 0)))))) [2]) fNil)))) (fRet none (fC (.bl false))) fNx)
  (fRet none (fCal (oD (oBol fun bs => bs.all id)) (fCons (fLc (xRng1 (fCons (fOp oSub (fCal oLen (fCons (fVar 1) fNil)) (fC (.int 1))) fNil)) (gfN 3) fYes (fOp oLt (fIx (fVar 1) (fVar 3)) (fIx (fVar 1) (fOp oAdd (fVar 3) (fC (.int 1))))) [3]) fNil)))))
noncomputable def m_is_crossing_lot : List M → Option M := runF 4 f_is_crossing_lot
theorem ok_is_crossing_lot {f : Addr} {fd : FuncData} {k : Nat}  (bl : Bl mg)   (U : Fun K "is_crossing_lot" "is_crossing_lot" s_is_crossing_lot f fd) (g : mg "is_crossing_lot" = some (.ref f)) : Cl P w K mg base (k + 1) "is_crossing_lot" 2 m_is_crossing_lot := by
  refine ⟨f, fd, ["frame", "value"], ok_def U sc_is_crossing_lot rfl rfl (fun cdv A outer s H E hr => ?_), g, U.kp, U.binds fun _ _ _ _ _ _ us hl => match us, hl with | [_, _], _ => rfl⟩
  haveI F : Fx (cxOf CX0 P w K mg base n_is_crossing_lot "is_crossing_lot" (defScope s_is_crossing_lot) f cdv A outer s H E).nox K := ⟨rfl, rfl, by have := hr.un; show (A.deeper _).units + 65 < cLine; omega, sc_is_crossing_lot.nd, bl⟩
  exact ⟨_, (b_cons (s_if (t_not (t_val (r_isiT (d_name 1 (pv 1))))) (b_one (s_ret d_bl)) b_nil)
    (b_cons (s_if (t_not (t_val (r_all (a_cons (d_lc0 (own := [("one", 2)]) (blkOk_by (own := [("one", 2)]) (N := n_is_crossing_lot) (sc := defScope s_is_crossing_lot) (by decide +kernel)) (i_tup (d_name 1 (pv 1))) (fun s1 H1 C1 l1 p1 => (g_nm (i := 2) rfl)) dg_name (by decide) (fun s1 H1 C1 l1 p1 => (d_and (r_isiI (d_name 2 (pv 2))) (d_and (d_not (r_isiB (d_name 2 (pv 2)))) (d_one (c_rng d_int (d_name 2 (pv 2)) (r_ix (d_name 0 (pv 0)) d_int (fun _ _ => rfl)))))))) a_nil)))) (b_one (s_ret d_bl)) b_nil)
    (b_one (s_ret (r_all (a_cons (d_lc0 (own := [("k", 3)]) (blkOk_by (own := [("k", 3)]) (N := n_is_crossing_lot) (sc := defScope s_is_crossing_lot) (by decide +kernel)) (i_rng1 (a_cons (r_sub (r_len (a_cons (d_name 1 (pv 1)) a_nil)) d_int) a_nil)) (fun s1 H1 C1 l1 p1 => (g_nm (i := 3) rfl)) dg_name (by decide) (fun s1 H1 C1 l1 p1 => (c_lt (r_ix (d_name 1 (pv 1)) (d_name 3 (pv 3)) (fun _ _ => rfl)) (r_ix (d_name 1 (pv 1)) (r_add (d_name 3 (pv 3)) d_int) (fun _ _ => rfl))))) a_nil))))))⟩

abbrev s_is_outs_form : Stmt := top 20
abbrev n_is_outs_form : List Str := ["frame", "value"]
theorem sc_is_outs_form : FnScope n_is_outs_form ["frame", "value"] (defScope s_is_outs_form) := ⟨rfl, rfl, rfl, by decide +kernel, rfl, by decide +kernel, by decide +kernel⟩
noncomputable def f_is_outs_form : Fn Unit Out := (fSeq (fIfS (fOr (fNot (fTest (fIsi "tuple" (fVar 1)))) (fOr (fTest (fOp oEq (fVar 1) (fTup fNil))) (fNot (fTest (fIsi "str" (fIx (fVar 1) (fC (.int 0)))))))) (fRet none (fC (.bl false))) fNx)
  (fSeq (fIfS (fTest (fOp oEq (fIx (fVar 1) (fC (.int 0))) (fC (.str "sum")))) (fRet none (fOp oEq (fCal oLen (fCons (fVar 1) fNil)) (fC (.int 1)))) fNx)
  (fSeq (fIfS (fTest (fOp oEq (fIx (fVar 1) (fC (.int 0))) (fC (.str "turning")))) (fRet none (fAndV (fOp oEq (fCal oLen (fCons (fVar 1) fNil)) (fC (.int 2))) (fCall 2 m_is_turning (fCons (fVar 0) (fCons (fIx (fVar 1) (fC (.int 1))) fNil))))) fNx)
  (fRet none (fAndV (fOp oEq (fIx (fVar 1) (fC (.int 0))) (fC (.str "lot"))) (fAndV (fOp oEq (fCal oLen (fCons (fVar 1) fNil)) (fC (.int 2))) (fCall 2 m_is_crossing_lot (fCons (fVar 0) (fCons (fIx (fVar 1) (fC (.int 1))) fNil)))))))))
noncomputable def m_is_outs_form : List M → Option M := runF 2 f_is_outs_form
theorem ok_is_outs_form {f : Addr} {fd : FuncData} {k : Nat}  (bl : Bl mg) (c_is_turning : Cl P w K mg base k "is_turning" 2 m_is_turning) (c_is_crossing_lot : Cl P w K mg base k "is_crossing_lot" 2 m_is_crossing_lot)  (U : Fun K "is_outs_form" "is_outs_form" s_is_outs_form f fd) (g : mg "is_outs_form" = some (.ref f)) : Cl P w K mg base (k + 1) "is_outs_form" 2 m_is_outs_form := by
  refine ⟨f, fd, ["frame", "value"], ok_def U sc_is_outs_form rfl rfl (fun cdv A outer s H E hr => ?_), g, U.kp, U.binds fun _ _ _ _ _ _ us hl => match us, hl with | [_, _], _ => rfl⟩
  haveI F : Fx (cxOf CX0 P w K mg base n_is_outs_form "is_outs_form" (defScope s_is_outs_form) f cdv A outer s H E).nox K := ⟨rfl, rfl, by have := hr.un; show (A.deeper _).units + 65 < cLine; omega, sc_is_outs_form.nd, bl⟩
  exact ⟨_, (b_cons (s_if (PDW.pt (w_or (t_not (t_val (r_isiT (d_name 1 (pv 1))))) (w_or (q_eq (d_name 1 (pv 1)) (d_tup a_nil)) (w_or1 (t_not (t_val (r_isiS (r_ix (d_name 1 (pv 1)) d_int (fun _ _ => rfl))))))))) (b_one (s_ret d_bl)) b_nil)
    (b_cons (s_if (q_eq (r_ix (d_name 1 (pv 1)) d_int (fun _ _ => rfl)) d_str) (b_one (s_ret (c_eq (r_len (a_cons (d_name 1 (pv 1)) a_nil)) d_int))) b_nil)
    (b_cons (s_if (q_eq (r_ix (d_name 1 (pv 1)) d_int (fun _ _ => rfl)) d_str) (b_one (s_ret (d_and (c_eq (r_len (a_cons (d_name 1 (pv 1)) a_nil)) d_int) (d_one (d_cl c_is_turning hr (a_cons (d_name 0 (pv 0)) (a_cons (r_ix (d_name 1 (pv 1)) d_int (fun _ _ => rfl)) a_nil))))))) b_nil)
    (b_one (s_ret (d_and (c_eq (r_ix (d_name 1 (pv 1)) d_int (fun _ _ => rfl)) d_str) (d_and (c_eq (r_len (a_cons (d_name 1 (pv 1)) a_nil)) d_int) (d_one (d_cl c_is_crossing_lot hr (a_cons (d_name 0 (pv 0)) (a_cons (r_ix (d_name 1 (pv 1)) d_int (fun _ _ => rfl)) a_nil)))))))))))⟩

abbrev s_judge_outs : Stmt := top 21
abbrev n_judge_outs : List Str := ["frame", "outs", "value", "many", "found", "wrong", "crossing", "here", "there"]
theorem sc_judge_outs : FnScope n_judge_outs ["frame", "outs", "value"] (defScope s_judge_outs) := ⟨rfl, rfl, rfl, by decide +kernel, rfl, by decide +kernel, by decide +kernel⟩
noncomputable def f_judge_outs : Fn Unit Out := (fSeq (fIfS (fNot (fTest (fCall 2 m_is_outs_form (fCons (fVar 0) (fCons (fVar 2) fNil))))) (fRet none (fTup (fCons (fC (.str "form")) fNil))) fNx)
  (fSeq (fSet 3 (fCal oSum (fCons (fVar 1) fNil)))
  (fSeq (fIfS (fTest (fOp oEq (fIx (fVar 2) (fC (.int 0))) (fC (.str "sum")))) (fRet none (fIf (fTest (fOp oNe (fVar 3) (fCal oLen (fCons (fIx (fVar 0) (fC (.int 1))) fNil)))) (fC .non) (fTup (fCons (fC (.str "sum")) fNil)))) fNx)
  (fSeq (fIfS (fTest (fOp oEq (fIx (fVar 2) (fC (.int 0))) (fC (.str "turning")))) (fSeq (fSet 4 (fCall 2 m_outs_of (fCons (fVar 0) (fCons (fIx (fVar 2) (fC (.int 1))) fNil))))
  (fSeq (fSet 5 (fLc (xRng1 (fCons (fIx (fVar 0) (fC (.int 0))) fNil)) (gfN 6) (fTest (fOp oNe (fIx (fVar 4) (fVar 6)) (fIx (fVar 1) (fVar 6)))) (fVar 6) [6]))
  (fRet none (fIf (fTest (fOp oNe (fVar 5) (fLst fNil))) (fTup (fCons (fC (.str "outs")) (fCons (fIx (fVar 5) (fC (.int 0))) fNil))) (fC .non))))) fNx)
  (fSeq (fIfS (fTest (fOp oNe (fVar 3) (fCal oLen (fCons (fIx (fVar 0) (fC (.int 1))) fNil)))) (fRet none (fTup (fCons (fC (.str "sum")) fNil))) fNx)
  (fSeq (fPar2 7 8 (fCons (fCall 2 m_roads_within (fCons (fVar 0) (fCons (fIx (fVar 2) (fC (.int 1))) fNil))) (fCons (fCall 2 m_outs_at (fCons (fVar 1) (fCons (fIx (fVar 2) (fC (.int 1))) fNil))) fNil)))
  (fRet none (fIf (fTest (fOp oGt (fVar 7) (fVar 8))) (fC .non) (fTup (fCons (fC (.str "within")) (fCons (fVar 7) (fCons (fVar 8) fNil))))))))))))
noncomputable def m_judge_outs : List M → Option M := runF 9 f_judge_outs
theorem ok_judge_outs {f : Addr} {fd : FuncData} {k : Nat}  (bl : Bl mg) (c_is_outs_form : Cl P w K mg base k "is_outs_form" 2 m_is_outs_form) (c_outs_of : Cl P w K mg base k "outs_of" 2 m_outs_of) (c_outs_at : Cl P w K mg base k "outs_at" 2 m_outs_at) (c_roads_within : Cl P w K mg base k "roads_within" 2 m_roads_within)  (U : Fun K "judge_outs" "judge_outs" s_judge_outs f fd) (g : mg "judge_outs" = some (.ref f)) : Cl P w K mg base (k + 1) "judge_outs" 3 m_judge_outs := by
  refine ⟨f, fd, ["frame", "outs", "value"], ok_def U sc_judge_outs rfl rfl (fun cdv A outer s H E hr => ?_), g, U.kp, U.binds fun _ _ _ _ _ _ us hl => match us, hl with | [_, _, _], _ => rfl⟩
  haveI F : Fx (cxOf CX0 P w K mg base n_judge_outs "judge_outs" (defScope s_judge_outs) f cdv A outer s H E).nox K := ⟨rfl, rfl, by have := hr.un; show (A.deeper _).units + 65 < cLine; omega, sc_judge_outs.nd, bl⟩
  exact ⟨_, (b_cons (s_if (t_not (t_val (d_cl c_is_outs_form hr (a_cons (d_name 0 (pv 0)) (a_cons (d_name 2 (pv 2)) a_nil))))) (b_one (s_ret (d_tup (a_cons d_str a_nil)))) b_nil)
    (b_cons (s_set (i := 3) (fun z => ps_set F.nd rfl (Or.inl rfl) z) (r_sum (a_cons (d_name 1 (pv 1)) a_nil)))
    (b_cons (s_if (q_eq (r_ix (d_name 2 (pv 2)) d_int (fun _ _ => rfl)) d_str) (b_one (s_ret (d_ifExp (q_ne (d_name 3 (pv 3)) (r_len (a_cons (r_ix (d_name 0 (pv 0)) d_int (fun _ _ => rfl)) a_nil))) d_non (d_tup (a_cons d_str a_nil))))) b_nil)
    (b_cons (s_if (q_eq (r_ix (d_name 2 (pv 2)) d_int (fun _ _ => rfl)) d_str) (b_cons (s_set (i := 4) (fun z => ps_set F.nd rfl (Or.inr rfl) z) (d_cl c_outs_of hr (a_cons (d_name 0 (pv 0)) (a_cons (r_ix (d_name 2 (pv 2)) d_int (fun _ _ => rfl)) a_nil))))
    (b_cons (s_lc1 (i := 5) (own := [("crossing", 6)]) rfl rfl (sw_true rfl rfl rfl (by decide +kernel)) (blkOk_by (own := [("crossing", 6)]) (N := n_judge_outs) (sc := defScope s_judge_outs) (by decide +kernel)) (i_rng1 (a_cons (r_ix (d_name 0 (pv 0)) d_int (fun _ _ => rfl)) a_nil)) (fun s1 H1 C1 l1 p1 => (g_nm (i := 6) rfl)) dg_name (by decide) (fun s1 H1 C1 l1 p1 => (q_ne (r_ix (d_name 4 (pv 4)) (d_name 6 (pv 6)) (fun _ _ => rfl)) (r_ix (d_name 1 (pv 1)) (d_name 6 (pv 6)) (fun _ _ => rfl)))) (fun s1 H1 C1 l1 p1 => (d_name 6 (pv 6))))
    (b_one (s_ret (d_ifExp (q_ne (d_name 5 (pv 5)) (d_lst a_nil)) (d_tup (a_cons d_str (a_cons (r_ix (d_name 5 (pv 5)) d_int (fun _ _ => rfl)) a_nil))) d_non))))) b_nil)
    (b_cons (s_if (q_ne (d_name 3 (pv 3)) (r_len (a_cons (r_ix (d_name 0 (pv 0)) d_int (fun _ _ => rfl)) a_nil))) (b_one (s_ret (d_tup (a_cons d_str a_nil)))) b_nil)
    (b_cons (s_par2 (i := 7) (j := 8) (fun z => ps_par rfl F.nd rfl rfl (by decide) rfl rfl z (by rfl)) (a_cons (d_cl c_roads_within hr (a_cons (d_name 0 (pv 0)) (a_cons (r_ix (d_name 2 (pv 2)) d_int (fun _ _ => rfl)) a_nil))) (a_cons (d_cl c_outs_at hr (a_cons (d_name 1 (pv 1)) (a_cons (r_ix (d_name 2 (pv 2)) d_int (fun _ _ => rfl)) a_nil))) a_nil)))
    (b_one (s_ret (d_ifExp (q_gt (d_name 7 (pv 7)) (d_name 8 (pv 8))) d_non (d_tup (a_cons d_str (a_cons (d_name 7 (pv 7)) (a_cons (d_name 8 (pv 8)) a_nil)))))))))))))⟩

abbrev s_is_tight : Stmt := top 23
abbrev n_is_tight : List Str := ["frame", "outs", "lot"]
theorem sc_is_tight : FnScope n_is_tight ["frame", "outs", "lot"] (defScope s_is_tight) := ⟨rfl, rfl, rfl, by decide +kernel, rfl, by decide +kernel, by decide +kernel⟩
noncomputable def f_is_tight : Fn Unit Out := (fRet none (fOp oEq (fCall 2 m_roads_within (fCons (fVar 0) (fCons (fVar 2) fNil))) (fCall 2 m_outs_at (fCons (fVar 1) (fCons (fVar 2) fNil)))))
noncomputable def m_is_tight : List M → Option M := runF 3 f_is_tight
theorem ok_is_tight {f : Addr} {fd : FuncData} {k : Nat}  (bl : Bl mg) (c_roads_within : Cl P w K mg base k "roads_within" 2 m_roads_within) (c_outs_at : Cl P w K mg base k "outs_at" 2 m_outs_at)  (U : Fun K "is_tight" "is_tight" s_is_tight f fd) (g : mg "is_tight" = some (.ref f)) : Cl P w K mg base (k + 1) "is_tight" 3 m_is_tight := by
  refine ⟨f, fd, ["frame", "outs", "lot"], ok_def U sc_is_tight rfl rfl (fun cdv A outer s H E hr => ?_), g, U.kp, U.binds fun _ _ _ _ _ _ us hl => match us, hl with | [_, _, _], _ => rfl⟩
  haveI F : Fx (cxOf CX0 P w K mg base n_is_tight "is_tight" (defScope s_is_tight) f cdv A outer s H E).nox K := ⟨rfl, rfl, by have := hr.un; show (A.deeper _).units + 65 < cLine; omega, sc_is_tight.nd, bl⟩
  exact ⟨_, (b_one (s_ret (c_eq (d_cl c_roads_within hr (a_cons (d_name 0 (pv 0)) (a_cons (d_name 2 (pv 2)) a_nil))) (d_cl c_outs_at hr (a_cons (d_name 1 (pv 1)) (a_cons (d_name 2 (pv 2)) a_nil))))))⟩

abbrev s_parts_of : Stmt := top 24
abbrev n_parts_of : List Str := ["frame", "turning", "there", "found", "crossing", "first", "part"]
theorem sc_parts_of : FnScope n_parts_of ["frame", "turning"] (defScope s_parts_of) := ⟨rfl, rfl, rfl, by decide +kernel, rfl, by decide +kernel, by decide +kernel⟩
noncomputable def f_parts_of : Fn Unit Out := (fSeq (fTup2 2 3 (fCons (fLc (xRng1 (fCons (fIx (fVar 0) (fC (.int 0))) fNil)) (gfN 4) fYes (fCall 3 m_led_from (fCons (fVar 0) (fCons (fVar 1) (fCons (fVar 4) fNil)))) [4]) (fCons (fLst fNil) fNil)))
  (fSeq (fFor none (xRng1 (fCons (fIx (fVar 0) (fC (.int 0))) fNil)) (gfN 5) (fSeq (fSet 6 (fCal oTuple (fCons (fLc (xTup (fIx (fVar 2) (fVar 5))) (gfN 4) (fTest (fOp (oIn false) (fVar 5) (fIx (fVar 2) (fVar 4)))) (fVar 4) [4]) fNil)))
  (fIfS (fTest (fOp oEq (fIx (fVar 6) (fC (.int 0))) (fVar 5))) (fApp 3 (fVar 6)) fNx)))
  (fRet none (fCal oTuple (fCons (fVar 3) fNil)))))
noncomputable def m_parts_of : List M → Option M := runF 7 f_parts_of
theorem ok_parts_of {f : Addr} {fd : FuncData} {k : Nat}  (bl : Bl mg) (c_led_from : Cl P w K mg base k "led_from" 3 m_led_from)  (U : Fun K "parts_of" "parts_of" s_parts_of f fd) (g : mg "parts_of" = some (.ref f)) : Cl P w K mg base (k + 1) "parts_of" 2 m_parts_of := by
  refine ⟨f, fd, ["frame", "turning"], ok_def U sc_parts_of rfl rfl (fun cdv A outer s H E hr => ?_), g, U.kp, U.binds fun _ _ _ _ _ _ us hl => match us, hl with | [_, _], _ => rfl⟩
  haveI F : Fx (cxOf CX0 P w K mg base n_parts_of "parts_of" (defScope s_parts_of) f cdv A outer s H E).nox K := ⟨rfl, rfl, by have := hr.un; show (A.deeper _).units + 65 < cLine; omega, sc_parts_of.nd, bl⟩
  exact ⟨_, (b_cons (s_tup2 (fun z => ps_asg (pe_tup z) (g_tup (pgs_cons (g_nm (i := 2) rfl) (pgs_cons (g_nm (i := 3) rfl) pgs_nil)))) (a_cons (d_lc0 (own := [("crossing", 4)]) (blkOk_by (own := [("crossing", 4)]) (N := n_parts_of) (sc := defScope s_parts_of) (by decide +kernel)) (i_rng1 (a_cons (r_ix (d_name 0 (pv 0)) d_int (fun _ _ => rfl)) a_nil)) (fun s1 H1 C1 l1 p1 => (g_nm (i := 4) rfl)) dg_name (by decide) (fun s1 H1 C1 l1 p1 => (d_cl c_led_from hr (a_cons (d_name 0 (pv 0)) (a_cons (d_name 1 (pv 1)) (a_cons (d_name 4 (pv 4)) a_nil)))))) (a_cons (d_lst a_nil) a_nil)))
    (b_cons (s_for (z := none) (fun x y z => ps_for PassesOwn.never rfl x y z) (i_rng1 (a_cons (r_ix (d_name 0 (pv 0)) d_int (fun _ _ => rfl)) a_nil)) (g_nm (i := 5) rfl) dg_name (b_cons (s_set (i := 6) (fun z => ps_set F.nd rfl (Or.inl rfl) z) (r_tuple (a_cons (d_lc1 (own := [("crossing", 4)]) (blkOk_by (own := [("crossing", 4)]) (N := n_parts_of) (sc := defScope s_parts_of) (by decide +kernel)) (i_tup (r_ix (d_name 2 (pv 2)) (d_name 5 (pv 5)) (fun _ _ => rfl))) (fun s1 H1 C1 l1 p1 => (g_nm (i := 4) rfl)) dg_name (by decide) (fun s1 H1 C1 l1 p1 => (q_in (d_name 5 (pv 5)) (r_ix (d_name 2 (pv 2)) (d_name 4 (pv 4)) (fun _ _ => rfl)))) (fun s1 H1 C1 l1 p1 => (d_name 4 (pv 4)))) a_nil)))
    (b_one (s_if (q_eq (r_ix (d_name 6 (pv 6)) d_int (fun _ _ => rfl)) (d_name 5 (pv 5))) (b_one (s_app (i := 3) (fun z => ps_expr (pe_bm PySem.F.plainAttrs_list PySem.F.slot_list_append PySem.F.type_list_append mt_append (pv 3) (pa_cons z pa_nil))) (d_name 6 (pv 6)))) b_nil))))
    (b_one (s_ret (r_tuple (a_cons (d_name 3 (pv 3)) a_nil))))))⟩

abbrev s_stiff_roads : Stmt := top 25
abbrev n_stiff_roads : List Str := ["frame", "turning", "parts", "found", "road", "a", "b", "part"]
theorem sc_stiff_roads : FnScope n_stiff_roads ["frame", "turning"] (defScope s_stiff_roads) := ⟨rfl, rfl, rfl, by decide +kernel, rfl, by decide +kernel, by decide +kernel⟩
noncomputable def f_stiff_roads : Fn Unit Out := (fSeq (fPar2 2 3 (fCons (fCall 2 m_parts_of (fCons (fVar 0) (fCons (fVar 1) fNil))) (fCons (fLst fNil) fNil)))
  (fSeq (fFor none (xEnumT (fCons (fIx (fVar 0) (fC (.int 1))) fNil)) (gfTup 2 (gfCons (gfN 4) (gfCons (gfTup 2 (gfCons (gfN 5) (gfCons (gfN 6) gfNil))) gfNil))) (fIfS (fTest (fOp oEq (fLc (xTup (fVar 2)) (gfN 7) (fAnd (fTest (fOp (oIn false) (fVar 5) (fVar 7))) (fTest (fOp (oIn false) (fVar 6) (fVar 7)))) (fVar 7) [7]) (fLst fNil))) (fApp 3 (fVar 4)) fNx))
  (fRet none (fCal oTuple (fCons (fVar 3) fNil)))))
noncomputable def m_stiff_roads : List M → Option M := runF 8 f_stiff_roads
theorem ok_stiff_roads {f : Addr} {fd : FuncData} {k : Nat}  (bl : Bl mg) (c_parts_of : Cl P w K mg base k "parts_of" 2 m_parts_of)  (U : Fun K "stiff_roads" "stiff_roads" s_stiff_roads f fd) (g : mg "stiff_roads" = some (.ref f)) : Cl P w K mg base (k + 1) "stiff_roads" 2 m_stiff_roads := by
  refine ⟨f, fd, ["frame", "turning"], ok_def U sc_stiff_roads rfl rfl (fun cdv A outer s H E hr => ?_), g, U.kp, U.binds fun _ _ _ _ _ _ us hl => match us, hl with | [_, _], _ => rfl⟩
  haveI F : Fx (cxOf CX0 P w K mg base n_stiff_roads "stiff_roads" (defScope s_stiff_roads) f cdv A outer s H E).nox K := ⟨rfl, rfl, by have := hr.un; show (A.deeper _).units + 65 < cLine; omega, sc_stiff_roads.nd, bl⟩
  exact ⟨_, (b_cons (s_par2 (i := 2) (j := 3) (fun z => ps_par rfl F.nd rfl rfl (by decide) rfl rfl z (by rfl)) (a_cons (d_cl c_parts_of hr (a_cons (d_name 0 (pv 0)) (a_cons (d_name 1 (pv 1)) a_nil))) (a_cons (d_lst a_nil) a_nil)))
    (b_cons (s_for (z := none) (fun x y z => ps_for PassesOwn.never rfl x y z) (i_enT (a_cons (r_ix (d_name 0 (pv 0)) d_int (fun _ _ => rfl)) a_nil)) (g_tup (pgs_cons (g_nm (i := 4) rfl) (pgs_cons (g_tup (pgs_cons (g_nm (i := 5) rfl) (pgs_cons (g_nm (i := 6) rfl) pgs_nil))) pgs_nil))) (dg_tup (dgs_cons dg_name (dgs_cons (dg_tup (dgs_cons dg_name (dgs_cons dg_name dgs_nil))) dgs_nil))) (b_one (s_if (q_eq (d_lc1 (own := [("part", 7)]) (blkOk_by (own := [("part", 7)]) (N := n_stiff_roads) (sc := defScope s_stiff_roads) (by decide +kernel)) (i_tup (d_name 2 (pv 2))) (fun s1 H1 C1 l1 p1 => (g_nm (i := 7) rfl)) dg_name (by decide) (fun s1 H1 C1 l1 p1 => (PDW.pt (w_and (q_in (d_name 5 (pv 5)) (d_name 7 (pv 7))) (w_and1 (q_in (d_name 6 (pv 6)) (d_name 7 (pv 7))))))) (fun s1 H1 C1 l1 p1 => (d_name 7 (pv 7)))) (d_lst a_nil)) (b_one (s_app (i := 3) (fun z => ps_expr (pe_bm PySem.F.plainAttrs_list PySem.F.slot_list_append PySem.F.type_list_append mt_append (pv 3) (pa_cons z pa_nil))) (d_name 4 (pv 4)))) b_nil)))
    (b_one (s_ret (r_tuple (a_cons (d_name 3 (pv 3)) a_nil))))))⟩

abbrev s_from_least : Stmt := top 26
abbrev n_from_least : List Str := ["ring", "k"]
theorem sc_from_least : FnScope n_from_least ["ring"] (defScope s_from_least) := ⟨rfl, rfl, rfl, by decide +kernel, rfl, by decide +kernel, by decide +kernel⟩
noncomputable def f_from_least : Fn Unit Out := (fSeq (fSet 1 (fTmt oIdxT (fVar 0) (fCal oMin (fCons (fVar 0) fNil))))
  (fRet none (fOpW oCatT (fSlice (fVar 0) (fPart (fVar 1)) (fun _ s => some (none, s))) (fSlice (fVar 0) (fun _ s => some (none, s)) (fPart (fVar 1))))))
noncomputable def m_from_least : List M → Option M := runF 2 f_from_least
theorem ok_from_least {f : Addr} {fd : FuncData} {k : Nat}  (bl : Bl mg)   (U : Fun K "from_least" "from_least" s_from_least f fd) (g : mg "from_least" = some (.ref f)) : Cl P w K mg base (k + 1) "from_least" 1 m_from_least := by
  refine ⟨f, fd, ["ring"], ok_def U sc_from_least rfl rfl (fun cdv A outer s H E hr => ?_), g, U.kp, U.binds fun _ _ _ _ _ _ us hl => match us, hl with | [_], _ => rfl⟩
  haveI F : Fx (cxOf CX0 P w K mg base n_from_least "from_least" (defScope s_from_least) f cdv A outer s H E).nox K := ⟨rfl, rfl, by have := hr.un; show (A.deeper _).units + 65 < cLine; omega, sc_from_least.nd, bl⟩
  exact ⟨_, (b_cons (s_set (i := 1) (fun z => ps_set F.nd rfl (Or.inl rfl) z) (r_idxT (d_name 0 (pv 0)) (r_min (a_cons (d_name 0 (pv 0)) a_nil))))
    (b_one (s_ret (r_catT (r_slice (d_name 0 (pv 0)) (o_some (d_name 1 (pv 1))) o_none) (r_slice (d_name 0 (pv 0)) o_none (o_some (d_name 1 (pv 1))))))))⟩

abbrev s_ring_with : Stmt := top 27
abbrev n_ring_with : List Str := ["frame", "turning", "road", "ways", "tail"]
theorem sc_ring_with : FnScope n_ring_with ["frame", "turning", "road"] (defScope s_ring_with) := ⟨rfl, rfl, rfl, by decide +kernel, rfl, by decide +kernel, by decide +kernel⟩
noncomputable def f_ring_with : Fn Unit Out := (fSeq (fSet 3 (fCall 3 m_ways_from (fCons (fVar 0) (fCons (fVar 1) (fCons (fCall 3 m_head_of (fCons (fVar 0) (fCons (fVar 1) (fCons (fVar 2) fNil)))) fNil)))))
  (fSeq (fSet 4 (fCall 3 m_tail_of (fCons (fVar 0) (fCons (fVar 1) (fCons (fVar 2) fNil)))))
  (fRet none (fIf (fTest (fDIn false (fVar 4) (fVar 3))) (fCall 1 m_from_least (fCons (fTupP (fCons (fVar 2) (fStar (fDIx (fVar 3) (fVar 4)) fNil))) fNil)) (fC .non)))))
noncomputable def m_ring_with : List M → Option M := runF 5 f_ring_with
theorem ok_ring_with {f : Addr} {fd : FuncData} {k : Nat}  (bl : Bl mg) (c_ways_from : Cl P w K mg base k "ways_from" 3 m_ways_from) (c_head_of : Cl P w K mg base k "head_of" 3 m_head_of) (c_tail_of : Cl P w K mg base k "tail_of" 3 m_tail_of) (c_from_least : Cl P w K mg base k "from_least" 1 m_from_least)  (U : Fun K "ring_with" "ring_with" s_ring_with f fd) (g : mg "ring_with" = some (.ref f)) : Cl P w K mg base (k + 1) "ring_with" 3 m_ring_with := by
  refine ⟨f, fd, ["frame", "turning", "road"], ok_def U sc_ring_with rfl rfl (fun cdv A outer s H E hr => ?_), g, U.kp, U.binds fun _ _ _ _ _ _ us hl => match us, hl with | [_, _, _], _ => rfl⟩
  haveI F : Fx (cxOf CX0 P w K mg base n_ring_with "ring_with" (defScope s_ring_with) f cdv A outer s H E).nox K := ⟨rfl, rfl, by have := hr.un; show (A.deeper _).units + 65 < cLine; omega, sc_ring_with.nd, bl⟩
  exact ⟨_, (b_cons (s_set (i := 3) (fun z => ps_set F.nd rfl (Or.inl rfl) z) (d_cl c_ways_from hr (a_cons (d_name 0 (pv 0)) (a_cons (d_name 1 (pv 1)) (a_cons (d_cl c_head_of hr (a_cons (d_name 0 (pv 0)) (a_cons (d_name 1 (pv 1)) (a_cons (d_name 2 (pv 2)) a_nil)))) a_nil)))))
    (b_cons (s_set (i := 4) (fun z => ps_set F.nd rfl (Or.inl rfl) z) (d_cl c_tail_of hr (a_cons (d_name 0 (pv 0)) (a_cons (d_name 1 (pv 1)) (a_cons (d_name 2 (pv 2)) a_nil)))))
    (b_one (s_ret (d_ifExp (q_din (d_name 4 (pv 4)) (d_name 3 (pv 3))) (d_cl c_from_least hr (a_cons (d_tupP (a_cons (d_name 2 (pv 2)) (r_star (r_dix (d_name 3 (pv 3)) (d_name 4 (pv 4)) (fun _ _ => rfl)) a_nil))) a_nil)) d_non)))))⟩

abbrev s_is_turning_ring : Stmt := top 28
abbrev n_is_turning_ring : List Str := ["frame", "turning", "value", "many", "road", "tails", "heads", "tail"]
theorem sc_is_turning_ring : FnScope n_is_turning_ring ["frame", "turning", "value"] (defScope s_is_turning_ring) := ⟨rfl, rfl, rfl, by decide +kernel, rfl, by decide +kernel, by decide +kernel⟩
noncomputable def f_is_turning_ring : Fn Unit Out := (fSeq (fSet 3 (fCal oLen (fCons (fIx (fVar 0) (fC (.int 1))) fNil)))
  (fSeq (fIfS (fOr (fNot (fTest (fIsi "tuple" (fVar 2)))) (fTest (fOp oEq (fVar 2) (fTup fNil)))) (fRet none (fC (.bl false))) fNx)
  (fSeq (fIfS (fNot (fTest (fCal (oD (oBol fun bs => bs.all id)) (fCons (fLc (xTup (fVar 2)) (gfN 4) fYes (fAndV (fIsi "int" (fVar 4)) (fAndV (fNotV (fIsi "bool" (fVar 4))) (fChain oLe oLt (fC (.int 0)) (fVar 4) (fVar 3)))) [4]) fNil)))) (fRet none (fC (.bl false))) fNx)
  (fSeq (fSet 5 (fLc (xTup (fVar 2)) (gfN 4) fYes (fCall 3 m_tail_of (fCons (fVar 0) (fCons (fVar 1) (fCons (fVar 4) fNil)))) [4]))
  (fSeq (fSet 6 (fLc (xTup (fVar 2)) (gfN 4) fYes (fCall 3 m_head_of (fCons (fVar 0) (fCons (fVar 1) (fCons (fVar 4) fNil)))) [4]))
  (fSeq (fIfS (fOr (fTest (fOp oNe (fIx (fVar 2) (fC (.int 0))) (fCal oMin (fCons (fVar 2) fNil)))) (fTest (fOp oNe (fLc (xList (fVar 5)) (gfN 7) (fTest (fOp oGt (fMet (fun x y => if isLst x = true then oCnt x y else none) (fVar 5) (fVar 7)) (fC (.int 1)))) (fVar 7) [7]) (fLst fNil)))) (fRet none (fC (.bl false))) fNx)
  (fRet none (fOp oEq (fVar 6) (fOpW oCatL (fSlice (fVar 5) (fPart (fC (.int 1))) (fun _ s => some (none, s))) (fSlice (fVar 5) (fun _ s => some (none, s)) (fPart (fC (.int 1)))))))))))))
noncomputable def m_is_turning_ring : List M → Option M := runF 8 f_is_turning_ring
theorem ok_is_turning_ring {f : Addr} {fd : FuncData} {k : Nat}  (bl : Bl mg) (c_tail_of : Cl P w K mg base k "tail_of" 3 m_tail_of) (c_head_of : Cl P w K mg base k "head_of" 3 m_head_of)  (U : Fun K "is_turning_ring" "is_turning_ring" s_is_turning_ring f fd) (g : mg "is_turning_ring" = some (.ref f)) : Cl P w K mg base (k + 1) "is_turning_ring" 3 m_is_turning_ring := by
  refine ⟨f, fd, ["frame", "turning", "value"], ok_def U sc_is_turning_ring rfl rfl (fun cdv A outer s H E hr => ?_), g, U.kp, U.binds fun _ _ _ _ _ _ us hl => match us, hl with | [_, _, _], _ => rfl⟩
  haveI F : Fx (cxOf CX0 P w K mg base n_is_turning_ring "is_turning_ring" (defScope s_is_turning_ring) f cdv A outer s H E).nox K := ⟨rfl, rfl, by have := hr.un; show (A.deeper _).units + 65 < cLine; omega, sc_is_turning_ring.nd, bl⟩
  exact ⟨_, (b_cons (s_set (i := 3) (fun z => ps_set F.nd rfl (Or.inr rfl) z) (r_len (a_cons (r_ix (d_name 0 (pv 0)) d_int (fun _ _ => rfl)) a_nil)))
    (b_cons (s_if (PDW.pt (w_or (t_not (t_val (r_isiT (d_name 2 (pv 2))))) (w_or1 (q_eq (d_name 2 (pv 2)) (d_tup a_nil))))) (b_one (s_ret d_bl)) b_nil)
    (b_cons (s_if (t_not (t_val (r_all (a_cons (d_lc0 (own := [("road", 4)]) (blkOk_by (own := [("road", 4)]) (N := n_is_turning_ring) (sc := defScope s_is_turning_ring) (by decide +kernel)) (i_tup (d_name 2 (pv 2))) (fun s1 H1 C1 l1 p1 => (g_nm (i := 4) rfl)) dg_name (by decide) (fun s1 H1 C1 l1 p1 => (d_and (r_isiI (d_name 4 (pv 4))) (d_and (d_not (r_isiB (d_name 4 (pv 4)))) (d_one (c_rng d_int (d_name 4 (pv 4)) (d_name 3 (pv 3)))))))) a_nil)))) (b_one (s_ret d_bl)) b_nil)
    (b_cons (s_set (i := 5) (fun z => ps_set F.nd rfl (Or.inr rfl) z) (d_lc0 (own := [("road", 4)]) (blkOk_by (own := [("road", 4)]) (N := n_is_turning_ring) (sc := defScope s_is_turning_ring) (by decide +kernel)) (i_tup (d_name 2 (pv 2))) (fun s1 H1 C1 l1 p1 => (g_nm (i := 4) rfl)) dg_name (by decide) (fun s1 H1 C1 l1 p1 => (d_cl c_tail_of hr (a_cons (d_name 0 (pv 0)) (a_cons (d_name 1 (pv 1)) (a_cons (d_name 4 (pv 4)) a_nil)))))))
    (b_cons (s_lc0 (i := 6) (own := [("road", 4)]) rfl rfl (sw_true rfl rfl rfl (by decide +kernel)) (blkOk_by (own := [("road", 4)]) (N := n_is_turning_ring) (sc := defScope s_is_turning_ring) (by decide +kernel)) (i_tup (d_name 2 (pv 2))) (fun s1 H1 C1 l1 p1 => (g_nm (i := 4) rfl)) dg_name (by decide) (fun s1 H1 C1 l1 p1 => (d_cl c_head_of hr (a_cons (d_name 0 (pv 0)) (a_cons (d_name 1 (pv 1)) (a_cons (d_name 4 (pv 4)) a_nil))))))
    (b_cons (s_if (PDW.pt (w_or (q_ne (r_ix (d_name 2 (pv 2)) d_int (fun _ _ => rfl)) (r_min (a_cons (d_name 2 (pv 2)) a_nil))) (w_or1 (q_ne (d_lc1 (own := [("tail", 7)]) (blkOk_by (own := [("tail", 7)]) (N := n_is_turning_ring) (sc := defScope s_is_turning_ring) (by decide +kernel)) (i_lst (d_name 5 (pv 5))) (fun s1 H1 C1 l1 p1 => (g_nm (i := 7) rfl)) dg_name (by decide) (fun s1 H1 C1 l1 p1 => (q_gt (r_cntL (d_name 5 (pv 5)) (d_name 7 (pv 7))) d_int)) (fun s1 H1 C1 l1 p1 => (d_name 7 (pv 7)))) (d_lst a_nil))))) (b_one (s_ret d_bl)) b_nil)
    (b_one (s_ret (c_eq (d_name 6 (pv 6)) (r_catL (r_slice (d_name 5 (pv 5)) (o_some d_int) o_none) (r_slice (d_name 5 (pv 5)) o_none (o_some d_int))))))))))))⟩

abbrev s_ring_within : Stmt := top 29
abbrev n_ring_within : List Str := ["frame", "turning", "roads", "here", "gone", "met", "road", "one"]
theorem sc_ring_within : FnScope n_ring_within ["frame", "turning", "roads"] (defScope s_ring_within) := ⟨rfl, rfl, rfl, by decide +kernel, rfl, by decide +kernel, by decide +kernel⟩
noncomputable def f_ring_within : Fn Unit Out := (fSeq (fTup3 3 4 5 (fCons (fCall 3 m_tail_of (fCons (fVar 0) (fCons (fVar 1) (fCons (fIx (fVar 2) (fC (.int 0))) fNil)))) (fCons (fLst fNil) (fCons (fLst fNil) fNil))))
  (fSeq (fWh (fTest (fOp (oIn true) (fVar 3) (fVar 5))) (fSeq (fApp 5 (fVar 3))
  (fSeq (fSet 6 (fIx (fLc (xList (fVar 2)) (gfN 7) (fAnd (fTest (fOp (oIn true) (fVar 7) (fVar 4))) (fTest (fOp oEq (fCall 3 m_tail_of (fCons (fVar 0) (fCons (fVar 1) (fCons (fVar 7) fNil)))) (fVar 3)))) (fVar 7) [7]) (fC (.int 0))))
  (fSeq (fApp 4 (fVar 6))
  (fSet 3 (fCall 3 m_head_of (fCons (fVar 0) (fCons (fVar 1) (fCons (fVar 6) fNil)))))))) 1000)
  (fRet none (fCall 1 m_from_least (fCons (fCal oTupP (fCons (fSlice (fVar 4) (fPart (fMet (fun x y => if isLst x = true then oIdx x y else none) (fVar 5) (fVar 3))) (fun _ s => some (none, s))) fNil)) fNil)))))
noncomputable def m_ring_within : List M → Option M := runF 8 f_ring_within
theorem ok_ring_within {f : Addr} {fd : FuncData} {k : Nat}  (bl : Bl mg) (c_tail_of : Cl P w K mg base k "tail_of" 3 m_tail_of) (c_head_of : Cl P w K mg base k "head_of" 3 m_head_of) (c_from_least : Cl P w K mg base k "from_least" 1 m_from_least)  (U : Fun K "ring_within" "ring_within" s_ring_within f fd) (g : mg "ring_within" = some (.ref f)) : Cl P w K mg base (k + 1) "ring_within" 3 m_ring_within := by
  refine ⟨f, fd, ["frame", "turning", "roads"], ok_def U sc_ring_within rfl rfl (fun cdv A outer s H E hr => ?_), g, U.kp, U.binds fun _ _ _ _ _ _ us hl => match us, hl with | [_, _, _], _ => rfl⟩
  haveI F : Fx (cxOf CX0 P w K mg base n_ring_within "ring_within" (defScope s_ring_within) f cdv A outer s H E).nox K := ⟨rfl, rfl, by have := hr.un; show (A.deeper _).units + 65 < cLine; omega, sc_ring_within.nd, bl⟩
  exact ⟨_, (b_cons (s_tup3 (fun z => ps_asg (pe_tup z) (g_tup (pgs_cons (g_nm (i := 3) rfl) (pgs_cons (g_nm (i := 4) rfl) (pgs_cons (g_nm (i := 5) rfl) pgs_nil))))) (a_cons (d_cl c_tail_of hr (a_cons (d_name 0 (pv 0)) (a_cons (d_name 1 (pv 1)) (a_cons (r_ix (d_name 2 (pv 2)) d_int (fun _ _ => rfl)) a_nil)))) (a_cons (d_lst a_nil) (a_cons (d_lst a_nil) a_nil))))
    (b_cons (s_wh (n := 1000) PassesOwn.never (q_nin (d_name 3 (pv 3)) (d_name 5 (pv 5))) (b_cons (s_app (i := 5) (fun z => ps_expr (pe_bm PySem.F.plainAttrs_list PySem.F.slot_list_append PySem.F.type_list_append mt_append (pv 5) (pa_cons z pa_nil))) (d_name 3 (pv 3)))
    (b_cons (s_set (i := 6) (fun z => ps_set F.nd rfl (Or.inl rfl) z) (r_ix (d_lc1 (own := [("one", 7)]) (blkOk_by (own := [("one", 7)]) (N := n_ring_within) (sc := defScope s_ring_within) (by decide +kernel)) (i_lst (d_name 2 (pv 2))) (fun s1 H1 C1 l1 p1 => (g_nm (i := 7) rfl)) dg_name (by decide) (fun s1 H1 C1 l1 p1 => (PDW.pt (w_and (q_nin (d_name 7 (pv 7)) (d_name 4 (pv 4))) (w_and1 (q_eq (d_cl c_tail_of hr (a_cons (d_name 0 (pv 0)) (a_cons (d_name 1 (pv 1)) (a_cons (d_name 7 (pv 7)) a_nil)))) (d_name 3 (pv 3))))))) (fun s1 H1 C1 l1 p1 => (d_name 7 (pv 7)))) d_int (fun _ _ => rfl)))
    (b_cons (s_app (i := 4) (fun z => ps_expr (pe_bm PySem.F.plainAttrs_list PySem.F.slot_list_append PySem.F.type_list_append mt_append (pv 4) (pa_cons z pa_nil))) (d_name 6 (pv 6)))
    (b_one (s_set (i := 3) (fun z => ps_set F.nd rfl (Or.inr rfl) z) (d_cl c_head_of hr (a_cons (d_name 0 (pv 0)) (a_cons (d_name 1 (pv 1)) (a_cons (d_name 6 (pv 6)) a_nil))))))))))
    (b_one (s_ret (d_cl c_from_least hr (a_cons (r_tupleP (a_cons (r_slice (d_name 4 (pv 4)) (o_some (r_idxL (d_name 5 (pv 5)) (d_name 3 (pv 3)))) o_none) a_nil)) a_nil))))))⟩

abbrev s_rings_turned : Stmt := top 30
abbrev n_rings_turned : List Str := ["frame", "one", "other", "left", "found", "road", "ring"]
theorem sc_rings_turned : FnScope n_rings_turned ["frame", "one", "other"] (defScope s_rings_turned) := ⟨rfl, rfl, rfl, by decide +kernel, rfl, by decide +kernel, by decide +kernel⟩
noncomputable def f_rings_turned : Fn Unit Out := (fSeq (fIfS (fTest (fOp oNe (fCall 2 m_outs_of (fCons (fVar 0) (fCons (fVar 1) fNil))) (fCall 2 m_outs_of (fCons (fVar 0) (fCons (fVar 2) fNil))))) fNo fNx)
  (fSeq (fPar2 3 4 (fCons (fLc (xRng1 (fCons (fCal oLen (fCons (fVar 1) fNil)) fNil)) (gfN 5) (fTest (fOp oNe (fIx (fVar 1) (fVar 5)) (fIx (fVar 2) (fVar 5)))) (fVar 5) [5]) (fCons (fLst fNil) fNil)))
  (fSeq (fWh (fTest (fOp oNe (fVar 3) (fLst fNil))) (fSeq (fSet 6 (fCall 3 m_ring_within (fCons (fVar 0) (fCons (fVar 1) (fCons (fVar 3) fNil)))))
  (fSeq (fApp 4 (fVar 6))
  (fSet 3 (fLc (xList (fVar 3)) (gfN 5) (fTest (fOp (oIn true) (fVar 5) (fVar 6))) (fVar 5) [5])))) 1000)
  (fRet none (fCal oTuple (fCons (fCal oSortD (fCons (fVar 4) fNil)) fNil))))))
noncomputable def m_rings_turned : List M → Option M := runF 7 f_rings_turned
theorem ok_rings_turned {f : Addr} {fd : FuncData} {k : Nat}  (bl : Bl mg) (c_outs_of : Cl P w K mg base k "outs_of" 2 m_outs_of) (c_ring_within : Cl P w K mg base k "ring_within" 3 m_ring_within)  (U : Fun K "rings_turned" "rings_turned" s_rings_turned f fd) (g : mg "rings_turned" = some (.ref f)) : Cl P w K mg base (k + 1) "rings_turned" 3 m_rings_turned := by
  refine ⟨f, fd, ["frame", "one", "other"], ok_def U sc_rings_turned rfl rfl (fun cdv A outer s H E hr => ?_), g, U.kp, U.binds fun _ _ _ _ _ _ us hl => match us, hl with | [_, _, _], _ => rfl⟩
  haveI F : Fx (cxOf CX0 P w K mg base n_rings_turned "rings_turned" (defScope s_rings_turned) f cdv A outer s H E).nox K := ⟨rfl, rfl, by have := hr.un; show (A.deeper _).units + 65 < cLine; omega, sc_rings_turned.nd, bl⟩
  exact ⟨_, (b_cons (s_if (q_ne (d_cl c_outs_of hr (a_cons (d_name 0 (pv 0)) (a_cons (d_name 1 (pv 1)) a_nil))) (d_cl c_outs_of hr (a_cons (d_name 0 (pv 0)) (a_cons (d_name 2 (pv 2)) a_nil)))) (b_one s_never) b_nil)
    (b_cons (s_par2 (i := 3) (j := 4) (fun z => ps_par rfl F.nd rfl rfl (by decide) rfl rfl z (by rfl)) (a_cons (d_lc1 (own := [("road", 5)]) (blkOk_by (own := [("road", 5)]) (N := n_rings_turned) (sc := defScope s_rings_turned) (by decide +kernel)) (i_rng1 (a_cons (r_len (a_cons (d_name 1 (pv 1)) a_nil)) a_nil)) (fun s1 H1 C1 l1 p1 => (g_nm (i := 5) rfl)) dg_name (by decide) (fun s1 H1 C1 l1 p1 => (q_ne (r_ix (d_name 1 (pv 1)) (d_name 5 (pv 5)) (fun _ _ => rfl)) (r_ix (d_name 2 (pv 2)) (d_name 5 (pv 5)) (fun _ _ => rfl)))) (fun s1 H1 C1 l1 p1 => (d_name 5 (pv 5)))) (a_cons (d_lst a_nil) a_nil)))
    (b_cons (s_wh (n := 1000) PassesOwn.never (q_ne (d_name 3 (pv 3)) (d_lst a_nil)) (b_cons (s_set (i := 6) (fun z => ps_set F.nd rfl (Or.inr rfl) z) (d_cl c_ring_within hr (a_cons (d_name 0 (pv 0)) (a_cons (d_name 1 (pv 1)) (a_cons (d_name 3 (pv 3)) a_nil)))))
    (b_cons (s_app (i := 4) (fun z => ps_expr (pe_bm PySem.F.plainAttrs_list PySem.F.slot_list_append PySem.F.type_list_append mt_append (pv 4) (pa_cons z pa_nil))) (d_name 6 (pv 6)))
    (b_one (s_lc1 (i := 3) (own := [("road", 5)]) rfl rfl (sw_true rfl rfl rfl (by decide +kernel)) (blkOk_by (own := [("road", 5)]) (N := n_rings_turned) (sc := defScope s_rings_turned) (by decide +kernel)) (i_lst (d_name 3 (pv 3))) (fun s1 H1 C1 l1 p1 => (g_nm (i := 5) rfl)) dg_name (by decide) (fun s1 H1 C1 l1 p1 => (q_nin (d_name 5 (pv 5)) (d_name 6 (pv 6)))) (fun s1 H1 C1 l1 p1 => (d_name 5 (pv 5))))))))
    (b_one (s_ret (r_tuple (a_cons (r_sorted (a_cons (d_name 4 (pv 4)) a_nil)) a_nil)))))))⟩

abbrev s_stiff_paper : Stmt := top 31
abbrev n_stiff_paper : List Str := ["frame", "turning", "road", "ring"]
theorem sc_stiff_paper : FnScope n_stiff_paper ["frame", "turning", "road"] (defScope s_stiff_paper) := ⟨rfl, rfl, rfl, by decide +kernel, rfl, by decide +kernel, by decide +kernel⟩
noncomputable def f_stiff_paper : Fn Unit Out := (fSeq (fSet 3 (fCall 3 m_ring_with (fCons (fVar 0) (fCons (fVar 1) (fCons (fVar 2) fNil)))))
  (fRet none (fIf (fTest (fOp (oIsN true) (fVar 3) (fC .non))) (fTup (fCons (fC (.str "ring")) (fCons (fVar 3) fNil))) (fTup (fCons (fC (.str "lot")) (fCons (fCall 3 m_led_from (fCons (fVar 0) (fCons (fVar 1) (fCons (fCall 3 m_head_of (fCons (fVar 0) (fCons (fVar 1) (fCons (fVar 2) fNil)))) fNil)))) fNil))))))
noncomputable def m_stiff_paper : List M → Option M := runF 4 f_stiff_paper
theorem ok_stiff_paper {f : Addr} {fd : FuncData} {k : Nat}  (bl : Bl mg) (c_ring_with : Cl P w K mg base k "ring_with" 3 m_ring_with) (c_led_from : Cl P w K mg base k "led_from" 3 m_led_from) (c_head_of : Cl P w K mg base k "head_of" 3 m_head_of)  (U : Fun K "stiff_paper" "stiff_paper" s_stiff_paper f fd) (g : mg "stiff_paper" = some (.ref f)) : Cl P w K mg base (k + 1) "stiff_paper" 3 m_stiff_paper := by
  refine ⟨f, fd, ["frame", "turning", "road"], ok_def U sc_stiff_paper rfl rfl (fun cdv A outer s H E hr => ?_), g, U.kp, U.binds fun _ _ _ _ _ _ us hl => match us, hl with | [_, _, _], _ => rfl⟩
  haveI F : Fx (cxOf CX0 P w K mg base n_stiff_paper "stiff_paper" (defScope s_stiff_paper) f cdv A outer s H E).nox K := ⟨rfl, rfl, by have := hr.un; show (A.deeper _).units + 65 < cLine; omega, sc_stiff_paper.nd, bl⟩
  exact ⟨_, (b_cons (s_set (i := 3) (fun z => ps_set F.nd rfl (Or.inl rfl) z) (d_cl c_ring_with hr (a_cons (d_name 0 (pv 0)) (a_cons (d_name 1 (pv 1)) (a_cons (d_name 2 (pv 2)) a_nil)))))
    (b_one (s_ret (d_ifExp (q_notN (d_name 3 (pv 3)) d_non) (d_tup (a_cons d_str (a_cons (d_name 3 (pv 3)) a_nil))) (d_tup (a_cons d_str (a_cons (d_cl c_led_from hr (a_cons (d_name 0 (pv 0)) (a_cons (d_name 1 (pv 1)) (a_cons (d_cl c_head_of hr (a_cons (d_name 0 (pv 0)) (a_cons (d_name 1 (pv 1)) (a_cons (d_name 2 (pv 2)) a_nil)))) a_nil)))) a_nil)))))))⟩

abbrev s_judge_stiff : Stmt := top 32
abbrev n_judge_stiff : List Str := ["frame", "turning", "road", "value", "tail", "head"]
theorem sc_judge_stiff : FnScope n_judge_stiff ["frame", "turning", "road", "value"] (defScope s_judge_stiff) := ⟨rfl, rfl, rfl, by decide +kernel, rfl, by decide +kernel, by decide +kernel⟩
noncomputable def f_judge_stiff : Fn Unit Out := (fSeq (fIfS (fOr (fNot (fTest (fIsi "tuple" (fVar 3)))) (fOr (fTest (fOp oNe (fCal oLen (fCons (fVar 3) fNil)) (fC (.int 2)))) (fNot (fTest (fIsi "str" (fIx (fVar 3) (fC (.int 0)))))))) (fRet none (fTup (fCons (fC (.str "form")) fNil))) fNx)
  (fSeq (fIfS (fTest (fOp oEq (fIx (fVar 3) (fC (.int 0))) (fC (.str "ring")))) (fSeq (fIfS (fNot (fTest (fCall 3 m_is_turning_ring (fCons (fVar 0) (fCons (fVar 1) (fCons (fIx (fVar 3) (fC (.int 1))) fNil)))))) (fRet none (fTup (fCons (fC (.str "form")) fNil))) fNx)
  (fRet none (fIf (fTest (fOp (oIn false) (fVar 2) (fIx (fVar 3) (fC (.int 1))))) (fC .non) (fTup (fCons (fC (.str "road")) fNil))))) fNx)
  (fSeq (fIfS (fOr (fTest (fOp oNe (fIx (fVar 3) (fC (.int 0))) (fC (.str "lot")))) (fNot (fTest (fCall 2 m_is_crossing_lot (fCons (fVar 0) (fCons (fIx (fVar 3) (fC (.int 1))) fNil)))))) (fRet none (fTup (fCons (fC (.str "form")) fNil))) fNx)
  (fSeq (fIfS (fNot (fTest (fCall 3 m_is_tight (fCons (fVar 0) (fCons (fCall 2 m_outs_of (fCons (fVar 0) (fCons (fVar 1) fNil))) (fCons (fIx (fVar 3) (fC (.int 1))) fNil)))))) (fRet none (fTup (fCons (fC (.str "tight")) fNil))) fNx)
  (fSeq (fPar2 4 5 (fCons (fCall 3 m_tail_of (fCons (fVar 0) (fCons (fVar 1) (fCons (fVar 2) fNil)))) (fCons (fCall 3 m_head_of (fCons (fVar 0) (fCons (fVar 1) (fCons (fVar 2) fNil)))) fNil)))
  (fRet none (fIf (fAnd (fTest (fOp (oIn false) (fVar 5) (fIx (fVar 3) (fC (.int 1))))) (fTest (fOp (oIn true) (fVar 4) (fIx (fVar 3) (fC (.int 1)))))) (fC .non) (fTup (fCons (fC (.str "road")) fNil)))))))))
noncomputable def m_judge_stiff : List M → Option M := runF 6 f_judge_stiff
theorem ok_judge_stiff {f : Addr} {fd : FuncData} {k : Nat}  (bl : Bl mg) (c_is_turning_ring : Cl P w K mg base k "is_turning_ring" 3 m_is_turning_ring) (c_is_crossing_lot : Cl P w K mg base k "is_crossing_lot" 2 m_is_crossing_lot) (c_is_tight : Cl P w K mg base k "is_tight" 3 m_is_tight) (c_outs_of : Cl P w K mg base k "outs_of" 2 m_outs_of) (c_head_of : Cl P w K mg base k "head_of" 3 m_head_of) (c_tail_of : Cl P w K mg base k "tail_of" 3 m_tail_of)  (U : Fun K "judge_stiff" "judge_stiff" s_judge_stiff f fd) (g : mg "judge_stiff" = some (.ref f)) : Cl P w K mg base (k + 1) "judge_stiff" 4 m_judge_stiff := by
  refine ⟨f, fd, ["frame", "turning", "road", "value"], ok_def U sc_judge_stiff rfl rfl (fun cdv A outer s H E hr => ?_), g, U.kp, U.binds fun _ _ _ _ _ _ us hl => match us, hl with | [_, _, _, _], _ => rfl⟩
  haveI F : Fx (cxOf CX0 P w K mg base n_judge_stiff "judge_stiff" (defScope s_judge_stiff) f cdv A outer s H E).nox K := ⟨rfl, rfl, by have := hr.un; show (A.deeper _).units + 65 < cLine; omega, sc_judge_stiff.nd, bl⟩
  exact ⟨_, (b_cons (s_if (PDW.pt (w_or (t_not (t_val (r_isiT (d_name 3 (pv 3))))) (w_or (q_ne (r_len (a_cons (d_name 3 (pv 3)) a_nil)) d_int) (w_or1 (t_not (t_val (r_isiS (r_ix (d_name 3 (pv 3)) d_int (fun _ _ => rfl))))))))) (b_one (s_ret (d_tup (a_cons d_str a_nil)))) b_nil)
    (b_cons (s_if (q_eq (r_ix (d_name 3 (pv 3)) d_int (fun _ _ => rfl)) d_str) (b_cons (s_if (t_not (t_val (d_cl c_is_turning_ring hr (a_cons (d_name 0 (pv 0)) (a_cons (d_name 1 (pv 1)) (a_cons (r_ix (d_name 3 (pv 3)) d_int (fun _ _ => rfl)) a_nil)))))) (b_one (s_ret (d_tup (a_cons d_str a_nil)))) b_nil)
    (b_one (s_ret (d_ifExp (q_in (d_name 2 (pv 2)) (r_ix (d_name 3 (pv 3)) d_int (fun _ _ => rfl))) d_non (d_tup (a_cons d_str a_nil)))))) b_nil)
    (b_cons (s_if (PDW.pt (w_or (q_ne (r_ix (d_name 3 (pv 3)) d_int (fun _ _ => rfl)) d_str) (w_or1 (t_not (t_val (d_cl c_is_crossing_lot hr (a_cons (d_name 0 (pv 0)) (a_cons (r_ix (d_name 3 (pv 3)) d_int (fun _ _ => rfl)) a_nil)))))))) (b_one (s_ret (d_tup (a_cons d_str a_nil)))) b_nil)
    (b_cons (s_if (t_not (t_val (d_cl c_is_tight hr (a_cons (d_name 0 (pv 0)) (a_cons (d_cl c_outs_of hr (a_cons (d_name 0 (pv 0)) (a_cons (d_name 1 (pv 1)) a_nil))) (a_cons (r_ix (d_name 3 (pv 3)) d_int (fun _ _ => rfl)) a_nil)))))) (b_one (s_ret (d_tup (a_cons d_str a_nil)))) b_nil)
    (b_cons (s_par2 (i := 4) (j := 5) (fun z => ps_par rfl F.nd rfl rfl (by decide) rfl rfl z (by rfl)) (a_cons (d_cl c_tail_of hr (a_cons (d_name 0 (pv 0)) (a_cons (d_name 1 (pv 1)) (a_cons (d_name 2 (pv 2)) a_nil)))) (a_cons (d_cl c_head_of hr (a_cons (d_name 0 (pv 0)) (a_cons (d_name 1 (pv 1)) (a_cons (d_name 2 (pv 2)) a_nil)))) a_nil)))
    (b_one (s_ret (d_ifExp (PDW.pt (w_and (q_in (d_name 5 (pv 5)) (r_ix (d_name 3 (pv 3)) d_int (fun _ _ => rfl))) (w_and1 (q_nin (d_name 4 (pv 4)) (r_ix (d_name 3 (pv 3)) d_int (fun _ _ => rfl)))))) d_non (d_tup (a_cons d_str a_nil))))))))))⟩

abbrev s_with_one : Stmt := top 36
abbrev n_with_one : List Str := ["outs", "crossing", "more", "place", "number"]
theorem sc_with_one : FnScope n_with_one ["outs", "crossing", "more"] (defScope s_with_one) := ⟨rfl, rfl, rfl, by decide +kernel, rfl, by decide +kernel, by decide +kernel⟩
noncomputable def f_with_one : Fn Unit Out := (fRet none (fCal oTuple (fCons (fLc (xEnumT (fCons (fVar 0) fNil)) (gfTup 2 (gfCons (gfN 3) (gfCons (gfN 4) gfNil))) fYes (fIf (fTest (fOp oEq (fVar 3) (fVar 1))) (fOp oAdd (fVar 4) (fVar 2)) (fVar 4)) [3, 4]) fNil)))
noncomputable def m_with_one : List M → Option M := runF 5 f_with_one
theorem ok_with_one {f : Addr} {fd : FuncData} {k : Nat}  (bl : Bl mg)   (U : Fun K "with_one" "with_one" s_with_one f fd) (g : mg "with_one" = some (.ref f)) : Cl P w K mg base (k + 1) "with_one" 3 m_with_one := by
  refine ⟨f, fd, ["outs", "crossing", "more"], ok_def U sc_with_one rfl rfl (fun cdv A outer s H E hr => ?_), g, U.kp, U.binds fun _ _ _ _ _ _ us hl => match us, hl with | [_, _, _], _ => rfl⟩
  haveI F : Fx (cxOf CX0 P w K mg base n_with_one "with_one" (defScope s_with_one) f cdv A outer s H E).nox K := ⟨rfl, rfl, by have := hr.un; show (A.deeper _).units + 65 < cLine; omega, sc_with_one.nd, bl⟩
  exact ⟨_, (b_one (s_ret (r_tuple (a_cons (d_lc0 (own := [("place", 3), ("number", 4)]) (blkOk_by (own := [("place", 3), ("number", 4)]) (N := n_with_one) (sc := defScope s_with_one) (by decide +kernel)) (i_enT (a_cons (d_name 0 (pv 0)) a_nil)) (fun s1 H1 C1 l1 p1 => (g_tup (pgs_cons (g_nm (i := 3) rfl) (pgs_cons (g_nm (i := 4) rfl) pgs_nil)))) (dg_tup (dgs_cons dg_name (dgs_cons dg_name dgs_nil))) (by decide) (fun s1 H1 C1 l1 p1 => (d_ifExp (q_eq (d_name 3 (pv 3)) (d_name 1 (pv 1))) (r_add (d_name 4 (pv 4)) (d_name 2 (pv 2))) (d_name 4 (pv 4))))) a_nil))))⟩

abbrev s_later_counts : Stmt := top 37
abbrev n_later_counts : List Str := ["frame", "outs", "found", "a", "b", "known", "row", "many", "crossing", "late"]
theorem sc_later_counts : FnScope n_later_counts ["frame", "outs"] (defScope s_later_counts) := ⟨rfl, rfl, rfl, by decide +kernel, rfl, by decide +kernel, by decide +kernel⟩
noncomputable def f_later_counts : Fn Unit Out := (fSeq (fSet 2 (fLst (fCons (fDsT (fOpW oRepT (fTup (fCons (fC (.int 0)) fNil)) (fIx (fVar 0) (fC (.int 0)))) (fC (.int 1))) fNil)))
  (fSeq (fFor none (xRevT (fIx (fVar 0) (fC (.int 1)))) (gfTup 2 (gfCons (gfN 3) (gfCons (gfN 4) gfNil))) (fSeq (fSet 5 fDnT)
  (fSeq (fForD 2 (selIx 0) itsT (gfTup 2 (gfCons (gfN 6) (gfCons (gfN 7) gfNil))) (fFor none (xTup (fTup (fCons (fVar 3) (fCons (fVar 4) fNil)))) (gfN 8) (fSeq (fSet 9 (fCall 3 m_with_one (fCons (fVar 6) (fCons (fVar 8) (fCons (fC (.int 1)) fNil)))))
  (fIfS (fTest (fOp oLe (fIx (fVar 9) (fVar 8)) (fIx (fVar 1) (fVar 8)))) (fPutD 5 (fOp oAdd (fDGt (fVar 5) (fVar 9) (fC (.int 0))) (fVar 7)) (fVar 9)) fNx))))
  (fSeq (fIfS (fTest (fOp oGt (fCal oLen (fCons (fVar 5) fNil)) (fC (.int 8000)))) fNo fNx)
  (fConsMv 2 5)))))
  (fRet (some 2) (fC .non))))
noncomputable def m_later_counts : List M → Option M := runF 10 f_later_counts
theorem ok_later_counts {f : Addr} {fd : FuncData} {k : Nat} {tMOST_ROWS : Tok} (bl : Bl mg) (c_with_one : Cl P w K mg base k "with_one" 3 m_with_one) (cMOST_ROWS : mg "MOST_ROWS" = some (.int 8000 tMOST_ROWS)) (U : Fun K "later_counts" "later_counts" s_later_counts f fd) (g : mg "later_counts" = some (.ref f)) : Cl P w K mg base (k + 1) "later_counts" 2 m_later_counts := by
  refine ⟨f, fd, ["frame", "outs"], ok_def U sc_later_counts rfl rfl (fun cdv A outer s H E hr => ?_), g, U.kp, U.binds fun _ _ _ _ _ _ us hl => match us, hl with | [_, _], _ => rfl⟩
  haveI F : Fx (cxOf CX0 P w K mg base n_later_counts "later_counts" (defScope s_later_counts) f cdv A outer s H E).nox K := ⟨rfl, rfl, by have := hr.un; show (A.deeper _).units + 65 < cLine; omega, sc_later_counts.nd, bl⟩
  exact ⟨_, (b_cons (s_set (i := 2) (fun z => ps_set F.nd rfl (Or.inl rfl) z) (d_lst (a_cons (r_dsT (r_repT (d_tup (a_cons d_int a_nil)) (r_ix (d_name 0 (pv 0)) d_int (fun _ _ => rfl))) d_int) a_nil)))
    (b_cons (s_for (z := none) (fun x y z => ps_for PassesOwn.never rfl x y z) (i_revT (r_ix (d_name 0 (pv 0)) d_int (fun _ _ => rfl))) (g_tup (pgs_cons (g_nm (i := 3) rfl) (pgs_cons (g_nm (i := 4) rfl) pgs_nil))) (dg_tup (dgs_cons dg_name (dgs_cons dg_name dgs_nil))) (b_cons (s_set (i := 5) (fun z => ps_set F.nd rfl (Or.inl rfl) z) d_dnT)
    (b_cons (s_forD (k := 2) (fun z => ps_for PassesOwn.never rfl (pi_itT (pe_ix ix_seq (pv 2) pe_int (fun _ _ => rfl))) (g_tup (pgs_cons (g_nm (i := 6) rfl) (pgs_cons (g_nm (i := 7) rfl) pgs_nil))) z) (dp_ix (n := 0)) kw_its (dg_tup (dgs_cons dg_name (dgs_cons dg_name dgs_nil))) (b_one (s_for (z := none) (fun x y z => ps_for PassesOwn.never rfl x y z) (i_tup (d_tup (a_cons (d_name 3 (pv 3)) (a_cons (d_name 4 (pv 4)) a_nil)))) (g_nm (i := 8) rfl) dg_name (b_cons (s_set (i := 9) (fun z => ps_set F.nd rfl (Or.inl rfl) z) (d_cl c_with_one hr (a_cons (d_name 6 (pv 6)) (a_cons (d_name 8 (pv 8)) (a_cons d_int a_nil)))))
    (b_one (s_if (q_le (r_ix (d_name 9 (pv 9)) (d_name 8 (pv 8)) (fun _ _ => rfl)) (r_ix (d_name 1 (pv 1)) (d_name 8 (pv 8)) (fun _ _ => rfl))) (b_one (s_putD (i := 5) (fun z y => ps_dput (by have := F.hu; omega) (pv 5) z y rfl) (r_add (r_dgt (d_name 5 (pv 5)) (d_name 9 (pv 9)) d_int) (d_name 7 (pv 7))) (d_name 9 (pv 9)))) b_nil))))))
    (b_cons (s_if (q_gt (r_len (a_cons (d_name 5 (pv 5)) a_nil)) (r_gint cMOST_ROWS)) (b_one s_never) b_nil)
    (b_one (s_consMv (ps_set (i := 2) F.nd rfl (Or.inl rfl) (pe_op op_cat (pe_lst (pa_cons (pv 5) pa_nil)) (pv 2)))))))))
    (b_one (s_retV (pv 2)))))⟩

abbrev s_outs_rows : Stmt := top 38
abbrev n_outs_rows : List Str := ["frame", "found", "a", "b", "late", "row"]
theorem sc_outs_rows : FnScope n_outs_rows ["frame"] (defScope s_outs_rows) := ⟨rfl, rfl, rfl, by decide +kernel, rfl, by decide +kernel, by decide +kernel⟩
noncomputable def f_outs_rows : Fn Unit Out := (fSeq (fSet 1 (fDsT (fOpW oRepT (fTup (fCons (fC (.int 0)) fNil)) (fIx (fVar 0) (fC (.int 0)))) (fC (.bl true))))
  (fSeq (fFor none (xTup (fIx (fVar 0) (fC (.int 1)))) (gfTup 2 (gfCons (gfN 2) (gfCons (gfN 3) gfNil))) (fSeq (fSet 4 fDnT)
  (fSeq (fForD 1 (fun m => some m) keysT (gfN 5) (fSeq (fPutD 4 (fC (.bl true)) (fCall 3 m_with_one (fCons (fVar 5) (fCons (fVar 2) (fCons (fC (.int 1)) fNil)))))
  (fPutD 4 (fC (.bl true)) (fCall 3 m_with_one (fCons (fVar 5) (fCons (fVar 3) (fCons (fC (.int 1)) fNil)))))))
  (fSeq (fMv 1 4)
  (fIfS (fTest (fOp oGt (fCal oLen (fCons (fVar 1) fNil)) (fC (.int 8000)))) fNo fNx)))))
  (fRet none (fCal oTuple (fCons (fCal oSortDT (fCons (fVar 1) fNil)) fNil)))))
noncomputable def m_outs_rows : List M → Option M := runF 6 f_outs_rows
theorem ok_outs_rows {f : Addr} {fd : FuncData} {k : Nat} {tMOST_ROWS : Tok} (bl : Bl mg) (c_with_one : Cl P w K mg base k "with_one" 3 m_with_one) (cMOST_ROWS : mg "MOST_ROWS" = some (.int 8000 tMOST_ROWS)) (U : Fun K "outs_rows" "outs_rows" s_outs_rows f fd) (g : mg "outs_rows" = some (.ref f)) : Cl P w K mg base (k + 1) "outs_rows" 1 m_outs_rows := by
  refine ⟨f, fd, ["frame"], ok_def U sc_outs_rows rfl rfl (fun cdv A outer s H E hr => ?_), g, U.kp, U.binds fun _ _ _ _ _ _ us hl => match us, hl with | [_], _ => rfl⟩
  haveI F : Fx (cxOf CX0 P w K mg base n_outs_rows "outs_rows" (defScope s_outs_rows) f cdv A outer s H E).nox K := ⟨rfl, rfl, by have := hr.un; show (A.deeper _).units + 65 < cLine; omega, sc_outs_rows.nd, bl⟩
  exact ⟨_, (b_cons (s_set (i := 1) (fun z => ps_set F.nd rfl (Or.inl rfl) z) (r_dsT (r_repT (d_tup (a_cons d_int a_nil)) (r_ix (d_name 0 (pv 0)) d_int (fun _ _ => rfl))) d_bl))
    (b_cons (s_for (z := none) (fun x y z => ps_for PassesOwn.never rfl x y z) (i_tup (r_ix (d_name 0 (pv 0)) d_int (fun _ _ => rfl))) (g_tup (pgs_cons (g_nm (i := 2) rfl) (pgs_cons (g_nm (i := 3) rfl) pgs_nil))) (dg_tup (dgs_cons dg_name (dgs_cons dg_name dgs_nil))) (b_cons (s_set (i := 4) (fun z => ps_set F.nd rfl (Or.inl rfl) z) d_dnT)
    (b_cons (s_forD (k := 1) (fun z => ps_for PassesOwn.never rfl (pi_keys (pv 1)) (g_nm (i := 5) rfl) z) dp_var kw_keys dg_name (b_cons (s_putD (i := 4) (fun z y => ps_dput (by have := F.hu; omega) (pv 4) z y rfl) d_bl (d_cl c_with_one hr (a_cons (d_name 5 (pv 5)) (a_cons (d_name 2 (pv 2)) (a_cons d_int a_nil)))))
    (b_one (s_putD (i := 4) (fun z y => ps_dput (by have := F.hu; omega) (pv 4) z y rfl) d_bl (d_cl c_with_one hr (a_cons (d_name 5 (pv 5)) (a_cons (d_name 3 (pv 3)) (a_cons d_int a_nil))))))))
    (b_cons (s_mv (ps_set (i := 1) F.nd rfl (Or.inl rfl) (pv 4)))
    (b_one (s_if (q_gt (r_len (a_cons (d_name 1 (pv 1)) a_nil)) (r_gint cMOST_ROWS)) (b_one s_never) b_nil))))))
    (b_one (s_ret (r_tuple (a_cons (r_sortDT (a_cons (d_name 1 (pv 1)) a_nil)) a_nil))))))⟩

abbrev s_turnings_count : Stmt := top 39
abbrev n_turnings_count : List Str := ["frame", "outs"]
theorem sc_turnings_count : FnScope n_turnings_count ["frame", "outs"] (defScope s_turnings_count) := ⟨rfl, rfl, rfl, by decide +kernel, rfl, by decide +kernel, by decide +kernel⟩
noncomputable def f_turnings_count : Fn Unit Out := (fRet none (fDGt (fIx (fCall 2 m_later_counts (fCons (fVar 0) (fCons (fVar 1) fNil))) (fC (.int 0))) (fVar 1) (fC (.int 0))))
noncomputable def m_turnings_count : List M → Option M := runF 2 f_turnings_count
theorem ok_turnings_count {f : Addr} {fd : FuncData} {k : Nat}  (bl : Bl mg) (c_later_counts : Cl P w K mg base k "later_counts" 2 m_later_counts)  (U : Fun K "turnings_count" "turnings_count" s_turnings_count f fd) (g : mg "turnings_count" = some (.ref f)) : Cl P w K mg base (k + 1) "turnings_count" 2 m_turnings_count := by
  refine ⟨f, fd, ["frame", "outs"], ok_def U sc_turnings_count rfl rfl (fun cdv A outer s H E hr => ?_), g, U.kp, U.binds fun _ _ _ _ _ _ us hl => match us, hl with | [_, _], _ => rfl⟩
  haveI F : Fx (cxOf CX0 P w K mg base n_turnings_count "turnings_count" (defScope s_turnings_count) f cdv A outer s H E).nox K := ⟨rfl, rfl, by have := hr.un; show (A.deeper _).units + 65 < cLine; omega, sc_turnings_count.nd, bl⟩
  exact ⟨_, (b_one (s_ret (r_dgt (r_ix (d_cl c_later_counts hr (a_cons (d_name 0 (pv 0)) (a_cons (d_name 1 (pv 1)) a_nil))) d_int (fun _ _ => rfl)) (d_name 1 (pv 1)) d_int)))⟩

abbrev s_all_turnings : Stmt := top 40
abbrev n_all_turnings : List Str := ["frame", "outs", "later", "found", "road", "pair", "late", "marks", "left", "mark", "less"]
theorem sc_all_turnings : FnScope n_all_turnings ["frame", "outs"] (defScope s_all_turnings) := ⟨rfl, rfl, rfl, by decide +kernel, rfl, by decide +kernel, by decide +kernel⟩
noncomputable def f_all_turnings : Fn Unit Out := (fSeq (fSet 2 (fCall 2 m_later_counts (fCons (fVar 0) (fCons (fVar 1) fNil))))
  (fSeq (fIfS (fTest (fOp oGt (fDGt (fIx (fVar 2) (fC (.int 0))) (fVar 1) (fC (.int 0))) (fC (.int 2000)))) fNo fNx)
  (fSeq (fSet 3 (fIf (fTest (fDIn false (fVar 1) (fIx (fVar 2) (fC (.int 0))))) (fLst (fCons (fTup (fCons (fTup fNil) (fCons (fVar 1) fNil))) fNil)) (fLst fNil)))
  (fSeq (fFor none (xEnumT (fCons (fIx (fVar 0) (fC (.int 1))) fNil)) (gfTup 2 (gfCons (gfN 4) (gfCons (gfN 5) gfNil))) (fSeq (fSet 6 (fLst fNil))
  (fSeq (fFor (some 3) (xList (fVar 3)) (gfTup 2 (gfCons (gfN 7) (gfCons (gfN 8) gfNil))) (fFor none (xTup (fTup (fCons (fC (.int 0)) (fCons (fC (.int 1)) fNil)))) (gfN 9) (fSeq (fSet 10 (fCall 3 m_with_one (fCons (fVar 8) (fCons (fIx (fVar 5) (fVar 9)) (fCons (fUn (fC (.int 1))) fNil)))))
  (fIfS (fTest (fDIn false (fVar 10) (fIx (fVar 2) (fOp oAdd (fVar 4) (fC (.int 1)))))) (fApp 6 (fTup (fCons (fTup (fStar (fVar 7) (fCons (fVar 9) fNil))) (fCons (fVar 10) fNil)))) fNx))))
  (fMv 3 6))))
  (fRet none (fLc (xList (fVar 3)) (gfTup 2 (gfCons (gfN 7) (gfCons (gfN 8) gfNil))) fYes (fVar 7) [7, 8]))))))
noncomputable def m_all_turnings : List M → Option M := runF 11 f_all_turnings
theorem ok_all_turnings {f : Addr} {fd : FuncData} {k : Nat} {tMOST_TURNINGS : Tok} (bl : Bl mg) (c_later_counts : Cl P w K mg base k "later_counts" 2 m_later_counts) (c_with_one : Cl P w K mg base k "with_one" 3 m_with_one) (cMOST_TURNINGS : mg "MOST_TURNINGS" = some (.int 2000 tMOST_TURNINGS)) (U : Fun K "all_turnings" "all_turnings" s_all_turnings f fd) (g : mg "all_turnings" = some (.ref f)) : Cl P w K mg base (k + 1) "all_turnings" 2 m_all_turnings := by
  refine ⟨f, fd, ["frame", "outs"], ok_def U sc_all_turnings rfl rfl (fun cdv A outer s H E hr => ?_), g, U.kp, U.binds fun _ _ _ _ _ _ us hl => match us, hl with | [_, _], _ => rfl⟩
  haveI F : Fx (cxOf CX0 P w K mg base n_all_turnings "all_turnings" (defScope s_all_turnings) f cdv A outer s H E).nox K := ⟨rfl, rfl, by have := hr.un; show (A.deeper _).units + 65 < cLine; omega, sc_all_turnings.nd, bl⟩
  exact ⟨_, (b_cons (s_set (i := 2) (fun z => ps_set F.nd rfl (Or.inl rfl) z) (d_cl c_later_counts hr (a_cons (d_name 0 (pv 0)) (a_cons (d_name 1 (pv 1)) a_nil))))
    (b_cons (s_if (q_gt (r_dgt (r_ix (d_name 2 (pv 2)) d_int (fun _ _ => rfl)) (d_name 1 (pv 1)) d_int) (r_gint cMOST_TURNINGS)) (b_one s_never) b_nil)
    (b_cons (s_set (i := 3) (fun z => ps_set F.nd rfl (Or.inl rfl) z) (d_ifExp (q_din (d_name 1 (pv 1)) (r_ix (d_name 2 (pv 2)) d_int (fun _ _ => rfl))) (d_lst (a_cons (d_tup (a_cons (d_tup a_nil) (a_cons (d_name 1 (pv 1)) a_nil))) a_nil)) (d_lst a_nil)))
    (b_cons (s_for (z := none) (fun x y z => ps_for PassesOwn.never rfl x y z) (i_enT (a_cons (r_ix (d_name 0 (pv 0)) d_int (fun _ _ => rfl)) a_nil)) (g_tup (pgs_cons (g_nm (i := 4) rfl) (pgs_cons (g_nm (i := 5) rfl) pgs_nil))) (dg_tup (dgs_cons dg_name (dgs_cons dg_name dgs_nil))) (b_cons (s_set (i := 6) (fun z => ps_set F.nd rfl (Or.inl rfl) z) (d_lst a_nil))
    (b_cons (s_for (z := (some 3)) (fun x y z => ps_for PassesOwn.never rfl x y z) (i_lst (d_name 3 (pv 3))) (g_tup (pgs_cons (g_nm (i := 7) rfl) (pgs_cons (g_nm (i := 8) rfl) pgs_nil))) (dg_tup (dgs_cons dg_name (dgs_cons dg_name dgs_nil))) (b_one (s_for (z := none) (fun x y z => ps_for PassesOwn.never rfl x y z) (i_tup (d_tup (a_cons d_int (a_cons d_int a_nil)))) (g_nm (i := 9) rfl) dg_name (b_cons (s_set (i := 10) (fun z => ps_set F.nd rfl (Or.inl rfl) z) (d_cl c_with_one hr (a_cons (d_name 8 (pv 8)) (a_cons (r_ix (d_name 5 (pv 5)) (d_name 9 (pv 9)) (fun _ _ => rfl)) (a_cons (r_neg d_int) a_nil)))))
    (b_one (s_if (q_din (d_name 10 (pv 10)) (r_ix (d_name 2 (pv 2)) (r_add (d_name 4 (pv 4)) d_int) (fun _ _ => rfl))) (b_one (s_app (i := 6) (fun z => ps_expr (pe_bm PySem.F.plainAttrs_list PySem.F.slot_list_append PySem.F.type_list_append mt_append (pv 6) (pa_cons z pa_nil))) (d_tup (a_cons (d_tup (r_star (d_name 7 (pv 7)) (a_cons (d_name 9 (pv 9)) a_nil))) (a_cons (d_name 10 (pv 10)) a_nil))))) b_nil))))))
    (b_one (s_mv (ps_set (i := 3) F.nd rfl (Or.inl rfl) (pv 6)))))))
    (b_one (s_ret (d_lc0 (own := [("marks", 7), ("left", 8)]) (blkOk_by (own := [("marks", 7), ("left", 8)]) (N := n_all_turnings) (sc := defScope s_all_turnings) (by decide +kernel)) (i_lst (d_name 3 (pv 3))) (fun s1 H1 C1 l1 p1 => (g_tup (pgs_cons (g_nm (i := 7) rfl) (pgs_cons (g_nm (i := 8) rfl) pgs_nil)))) (dg_tup (dgs_cons dg_name (dgs_cons dg_name dgs_nil))) (by decide) (fun s1 H1 C1 l1 p1 => (d_name 7 (pv 7))))))))))⟩

abbrev s__law_pick : Stmt := top 43
abbrev n__law_pick : List Str := ["source", "many", "left", "mixed"]
theorem sc__law_pick : FnScope n__law_pick ["source", "many"] (defScope s__law_pick) := ⟨rfl, rfl, rfl, by decide +kernel, rfl, by decide +kernel, by decide +kernel⟩
noncomputable def f__law_pick : Fn Src Out := (fSeq (fWh (fAnd (fTest (fOp oGt (fVar 1) (fC (.int 1)))) (fAnd (fTest (fOp oLt (fSG 0 Src.left) (fC (.int 2)))) (fTest (fOp oGt (fSLen 0) (fC (.int 0)))))) (fSPut 0 stL (fSPop 0)) 1000)
  (fSeq (fSet 2 (fSG 0 Src.left))
  (fSeq (fIfS (fOr (fTest (fOp oLt (fVar 1) (fC (.int 2)))) (fTest (fOp oGt (fVar 2) (fC (.int 1))))) (fSeq (fSPut 0 stL (fOp oDiv (fVar 2) (fCal (oD oMax2) (fCons (fC (.int 1)) (fCons (fVar 1) fNil)))))
  (fRet none (fOp oMod (fCal (oD oInt) (fCons (fVar 2) fNil)) (fCal (oD oMax2) (fCons (fC (.int 1)) (fCons (fVar 1) fNil)))))) fNx)
  (fSeq (fSPut 0 stT (fOp oAdd (fSG 0 Src.turn) (fC (.int 1))))
  (fSeq (fSet 3 (fOp oMod (fCal (oD oInt) (fCons (fOp oAdd (fSG 0 Src.mixed) (fOp oMul (fSG 0 Src.turn) (fC (.int 104729)))) fNil)) (fC (.int 998244353))))
  (fSeq (fSet 3 (fOp oMod (fCal (oD oInt) (fCons (fOp oAdd (fOp oMul (fVar 3) (fVar 3)) (fOp oMul (fSG 0 Src.turn) (fC (.int 17)))) fNil)) (fC (.int 2147483647))))
  (fSeq (fSPut 0 stMx (fVar 3))
  (fRet none (fOp oMod (fCal (oD oInt) (fCons (fOp oDiv (fVar 3) (fC (.int 16))) fNil)) (fVar 1))))))))))
noncomputable def m__law_pick : Src → List M → Option (M × Src) := runS 3 f__law_pick
theorem ok__law_pick {f : Addr} {fd : FuncData} {k : Nat}  (bl : Bl mg)   (U : Fun K "_law_pick" "_law_pick" s__law_pick f fd) (g : mg "_law_pick" = some (.ref f)) : ClS P w K mg base (k + 1) "_law_pick" 1 m__law_pick := by
  refine ⟨f, fd, ["source", "many"], ok_defS U sc__law_pick rfl rfl (fun cdv A outer s H E hr => ?_), g, U.kp, U.binds fun _ _ _ _ _ _ us hl => match us, hl with | [_, _], _ => rfl⟩
  haveI F : Fx (cxOf CX0 P w K mg base n__law_pick "_law_pick" (defScope s__law_pick) f cdv A outer s H E).nox K := ⟨rfl, rfl, by have := hr.un; show (A.deeper _).units + 65 < cLine; omega, sc__law_pick.nd, bl⟩
  exact ⟨_, (b_cons (s_wh (n := 1000) PassesOwn.never (PDW.pt (w_and (q_gt (d_name 1 (pv 1)) d_int) (w_and (q_lt (r_sg (sel := Src.left) (pv 0) (fun _ _ => rfl) (fun _ _ => rfl)) d_int) (w_and1 (q_gt (r_slen (pv 0) (fun _ _ => rfl)) d_int))))) (b_one (s_sput (stf := stL) (fun z => ps_dput (by have := F.hu; omega) (pv 0) pe_str z rfl) (fun _ _ _ => rfl) (fun _ _ => rfl) (r_spop (pv 0) (fun _ _ => rfl)))))
    (b_cons (s_set (i := 2) (fun z => ps_set F.nd rfl (Or.inl rfl) z) (r_sg (sel := Src.left) (pv 0) (fun _ _ => rfl) (fun _ _ => rfl)))
    (b_cons (s_if (PDW.pt (w_or (q_lt (d_name 1 (pv 1)) d_int) (w_or1 (q_gt (d_name 2 (pv 2)) d_int)))) (b_cons (s_sput (stf := stL) (fun z => ps_dput (by have := F.hu; omega) (pv 0) pe_str z rfl) (fun _ _ _ => rfl) (fun _ _ => rfl) (r_div (d_name 2 (pv 2)) (r_max2 (a_cons d_int (a_cons (d_name 1 (pv 1)) a_nil)))))
    (b_one (s_ret (r_mod (r_int (a_cons (d_name 2 (pv 2)) a_nil)) (r_max2 (a_cons d_int (a_cons (d_name 1 (pv 1)) a_nil))))))) b_nil)
    (b_cons (s_sput (stf := stT) (fun z => ps_dput (by have := F.hu; omega) (pv 0) pe_str z rfl) (fun _ _ _ => rfl) (fun _ _ => rfl) (r_add (r_sg (sel := Src.turn) (pv 0) (fun _ _ => rfl) (fun _ _ => rfl)) d_int))
    (b_cons (s_set (i := 3) (fun z => ps_set F.nd rfl (Or.inl rfl) z) (r_mod (r_int (a_cons (r_add (r_sg (sel := Src.mixed) (pv 0) (fun _ _ => rfl) (fun _ _ => rfl)) (r_mul (r_sg (sel := Src.turn) (pv 0) (fun _ _ => rfl) (fun _ _ => rfl)) d_int)) a_nil)) d_int))
    (b_cons (s_set (i := 3) (fun z => ps_set F.nd rfl (Or.inl rfl) z) (r_mod (r_int (a_cons (r_add (r_mul (d_name 3 (pv 3)) (d_name 3 (pv 3))) (r_mul (r_sg (sel := Src.turn) (pv 0) (fun _ _ => rfl) (fun _ _ => rfl)) d_int)) a_nil)) d_int))
    (b_cons (s_sput (stf := stMx) (fun z => ps_dput (by have := F.hu; omega) (pv 0) pe_str z rfl) (fun _ _ _ => rfl) (fun _ _ => rfl) (d_name 3 (pv 3)))
    (b_one (s_ret (r_mod (r_int (a_cons (r_div (d_name 3 (pv 3)) d_int) a_nil)) (d_name 1 (pv 1))))))))))))⟩

abbrev s__law_of : Stmt := top 44
abbrev n__law_of : List Str := ["source", "some"]
theorem sc__law_of : FnScope n__law_of ["source", "some"] (defScope s__law_of) := ⟨rfl, rfl, rfl, by decide +kernel, rfl, by decide +kernel, by decide +kernel⟩
noncomputable def f__law_of : Fn Src Out := (fRet none (fIx (fVar 1) (fCallS 1 m__law_pick (fCons (fVar 0) (fCons (fCal oLen (fCons (fVar 1) fNil)) fNil)))))
noncomputable def m__law_of : Src → List M → Option (M × Src) := runS 1 f__law_of
theorem ok__law_of {f : Addr} {fd : FuncData} {k : Nat}  (bl : Bl mg) (c__law_pick : ClS P w K mg base k "_law_pick" 1 m__law_pick)  (U : Fun K "_law_of" "_law_of" s__law_of f fd) (g : mg "_law_of" = some (.ref f)) : ClS P w K mg base (k + 1) "_law_of" 1 m__law_of := by
  refine ⟨f, fd, ["source", "some"], ok_defS U sc__law_of rfl rfl (fun cdv A outer s H E hr => ?_), g, U.kp, U.binds fun _ _ _ _ _ _ us hl => match us, hl with | [_, _], _ => rfl⟩
  haveI F : Fx (cxOf CX0 P w K mg base n__law_of "_law_of" (defScope s__law_of) f cdv A outer s H E).nox K := ⟨rfl, rfl, by have := hr.un; show (A.deeper _).units + 65 < cLine; omega, sc__law_of.nd, bl⟩
  exact ⟨_, (b_one (s_ret (r_ix (d_name 1 (pv 1)) (d_clS c__law_pick hr (a_cons (d_name 0 (pv 0)) (a_cons (r_len (a_cons (d_name 1 (pv 1)) a_nil)) a_nil))) (fun _ _ => rfl))))⟩

abbrev s__law_frame : Stmt := top 45
abbrev n__law_frame : List Str := ["source", "most", "n", "r"]
theorem sc__law_frame : FnScope n__law_frame ["source", "most"] (defScope s__law_frame) := ⟨rfl, rfl, rfl, by decide +kernel, rfl, by decide +kernel, by decide +kernel⟩
noncomputable def f__law_frame : Fn Src Out := (fSeq (fSet 2 (fOp oAdd (fC (.int 1)) (fCallS 1 m__law_pick (fCons (fVar 0) (fCons (fC (.int 4)) fNil)))))
  (fRet none (fTup (fCons (fVar 2) (fCons (fCal oTuple (fCons (fLc (xRng1 (fCons (fOp oAdd (fC (.int 1)) (fCallS 1 m__law_pick (fCons (fVar 0) (fCons (fVar 1) fNil)))) fNil)) (gfN 3) fYes (fTup (fCons (fCallS 1 m__law_pick (fCons (fVar 0) (fCons (fVar 2) fNil))) (fCons (fCallS 1 m__law_pick (fCons (fVar 0) (fCons (fVar 2) fNil))) fNil))) [3]) fNil)) fNil)))))
noncomputable def m__law_frame : Src → List M → Option (M × Src) := runS 3 f__law_frame
theorem ok__law_frame {f : Addr} {fd : FuncData} {k : Nat}  (bl : Bl mg) (c__law_pick : ClS P w K mg base k "_law_pick" 1 m__law_pick)  (U : Fun K "_law_frame" "_law_frame" s__law_frame f fd) (g : mg "_law_frame" = some (.ref f)) : ClS P w K mg base (k + 1) "_law_frame" 1 m__law_frame := by
  refine ⟨f, fd, ["source", "most"], ok_defS U sc__law_frame rfl rfl (fun cdv A outer s H E hr => ?_), g, U.kp, U.binds fun _ _ _ _ _ _ us hl => match us, hl with | [_, _], _ => rfl⟩
  haveI F : Fx (cxOf CX0 P w K mg base n__law_frame "_law_frame" (defScope s__law_frame) f cdv A outer s H E).nox K := ⟨rfl, rfl, by have := hr.un; show (A.deeper _).units + 65 < cLine; omega, sc__law_frame.nd, bl⟩
  exact ⟨_, (b_cons (s_set (i := 2) (fun z => ps_set F.nd rfl (Or.inr rfl) z) (r_add d_int (d_clS c__law_pick hr (a_cons (d_name 0 (pv 0)) (a_cons d_int a_nil)))))
    (b_one (s_ret (d_tup (a_cons (d_name 2 (pv 2)) (a_cons (r_tuple (a_cons (d_lc0 (own := [("r", 3)]) (blkOk_by (own := [("r", 3)]) (N := n__law_frame) (sc := defScope s__law_frame) (by decide +kernel)) (i_rng1 (a_cons (r_add d_int (d_clS c__law_pick hr (a_cons (d_name 0 (pv 0)) (a_cons (d_name 1 (pv 1)) a_nil)))) a_nil)) (fun s1 H1 C1 l1 p1 => (g_nm (i := 3) rfl)) dg_name (by decide) (fun s1 H1 C1 l1 p1 => (d_tup (a_cons (d_clS c__law_pick hr (a_cons (d_name 0 (pv 0)) (a_cons (d_name 2 (pv 2)) a_nil))) (a_cons (d_clS c__law_pick hr (a_cons (d_name 0 (pv 0)) (a_cons (d_name 2 (pv 2)) a_nil))) a_nil))))) a_nil)) a_nil))))))⟩

abbrev s__law_marks : Stmt := top 46
abbrev n__law_marks : List Str := ["m", "found", "r", "row"]
theorem sc__law_marks : FnScope n__law_marks ["m"] (defScope s__law_marks) := ⟨rfl, rfl, rfl, by decide +kernel, rfl, by decide +kernel, by decide +kernel⟩
noncomputable def f__law_marks : Fn Unit Out := (fSeq (fSet 1 (fLst (fCons (fTup fNil) fNil)))
  (fSeq (fFor none (xRng1 (fCons (fVar 0) fNil)) (gfN 2) (fSet 1 (fCal oSortD (fCons (fOpW oCatL (fLc (xList (fVar 1)) (gfN 3) fYes (fOpW oCatT (fVar 3) (fTup (fCons (fC (.int 0)) fNil))) [3]) (fLc (xList (fVar 1)) (gfN 3) fYes (fOpW oCatT (fVar 3) (fTup (fCons (fC (.int 1)) fNil))) [3])) fNil))))
  (fRet (some 1) (fC .non))))
noncomputable def m__law_marks : List M → Option M := runF 4 f__law_marks
theorem ok__law_marks {f : Addr} {fd : FuncData} {k : Nat}  (bl : Bl mg)   (U : Fun K "_law_marks" "_law_marks" s__law_marks f fd) (g : mg "_law_marks" = some (.ref f)) : Cl P w K mg base (k + 1) "_law_marks" 1 m__law_marks := by
  refine ⟨f, fd, ["m"], ok_def U sc__law_marks rfl rfl (fun cdv A outer s H E hr => ?_), g, U.kp, U.binds fun _ _ _ _ _ _ us hl => match us, hl with | [_], _ => rfl⟩
  haveI F : Fx (cxOf CX0 P w K mg base n__law_marks "_law_marks" (defScope s__law_marks) f cdv A outer s H E).nox K := ⟨rfl, rfl, by have := hr.un; show (A.deeper _).units + 65 < cLine; omega, sc__law_marks.nd, bl⟩
  exact ⟨_, (b_cons (s_set (i := 1) (fun z => ps_set F.nd rfl (Or.inl rfl) z) (d_lst (a_cons (d_tup a_nil) a_nil)))
    (b_cons (s_for (z := none) (fun x y z => ps_for PassesOwn.never rfl x y z) (i_rng1 (a_cons (d_name 0 (pv 0)) a_nil)) (g_nm (i := 2) rfl) dg_name (b_one (s_set (i := 1) (fun z => ps_set F.nd rfl (Or.inl rfl) z) (r_sorted (a_cons (r_catL (d_lc0 (own := [("row", 3)]) (blkOk_by (own := [("row", 3)]) (N := n__law_marks) (sc := defScope s__law_marks) (by decide +kernel)) (i_lst (d_name 1 (pv 1))) (fun s1 H1 C1 l1 p1 => (g_nm (i := 3) rfl)) dg_name (by decide) (fun s1 H1 C1 l1 p1 => (r_catT (d_name 3 (pv 3)) (d_tup (a_cons d_int a_nil))))) (d_lc0 (own := [("row", 3)]) (blkOk_by (own := [("row", 3)]) (N := n__law_marks) (sc := defScope s__law_marks) (by decide +kernel)) (i_lst (d_name 1 (pv 1))) (fun s1 H1 C1 l1 p1 => (g_nm (i := 3) rfl)) dg_name (by decide) (fun s1 H1 C1 l1 p1 => (r_catT (d_name 3 (pv 3)) (d_tup (a_cons d_int a_nil)))))) a_nil)))))
    (b_one (s_retV (pv 1)))))⟩

abbrev s__law_outs : Stmt := top 47
abbrev n__law_outs : List Str := ["frame", "turning", "tails", "r", "tail", "c"]
theorem sc__law_outs : FnScope n__law_outs ["frame", "turning"] (defScope s__law_outs) := ⟨rfl, rfl, rfl, by decide +kernel, rfl, by decide +kernel, by decide +kernel⟩
noncomputable def f__law_outs : Fn Unit Out := (fSeq (fSet 2 (fLc (xRng1 (fCons (fCal oLen (fCons (fVar 1) fNil)) fNil)) (gfN 3) fYes (fIx (fIx (fIx (fVar 0) (fC (.int 1))) (fVar 3)) (fIx (fVar 1) (fVar 3))) [3]))
  (fRet none (fCal oTuple (fCons (fLc (xRng1 (fCons (fIx (fVar 0) (fC (.int 0))) fNil)) (gfN 5) fYes (fCal oLen (fCons (fLc (xList (fVar 2)) (gfN 4) (fTest (fOp oEq (fVar 4) (fVar 5))) (fC (.int 1)) [4]) fNil)) [5]) fNil))))
noncomputable def m__law_outs : List M → Option M := runF 6 f__law_outs
theorem ok__law_outs {f : Addr} {fd : FuncData} {k : Nat}  (bl : Bl mg)   (U : Fun K "_law_outs" "_law_outs" s__law_outs f fd) (g : mg "_law_outs" = some (.ref f)) : Cl P w K mg base (k + 1) "_law_outs" 2 m__law_outs := by
  refine ⟨f, fd, ["frame", "turning"], ok_def U sc__law_outs rfl rfl (fun cdv A outer s H E hr => ?_), g, U.kp, U.binds fun _ _ _ _ _ _ us hl => match us, hl with | [_, _], _ => rfl⟩
  haveI F : Fx (cxOf CX0 P w K mg base n__law_outs "_law_outs" (defScope s__law_outs) f cdv A outer s H E).nox K := ⟨rfl, rfl, by have := hr.un; show (A.deeper _).units + 65 < cLine; omega, sc__law_outs.nd, bl⟩
  exact ⟨_, (b_cons (s_set (i := 2) (fun z => ps_set F.nd rfl (Or.inr rfl) z) (d_lc0 (own := [("r", 3)]) (blkOk_by (own := [("r", 3)]) (N := n__law_outs) (sc := defScope s__law_outs) (by decide +kernel)) (i_rng1 (a_cons (r_len (a_cons (d_name 1 (pv 1)) a_nil)) a_nil)) (fun s1 H1 C1 l1 p1 => (g_nm (i := 3) rfl)) dg_name (by decide) (fun s1 H1 C1 l1 p1 => (r_ix (r_ix (r_ix (d_name 0 (pv 0)) d_int (fun _ _ => rfl)) (d_name 3 (pv 3)) (fun _ _ => rfl)) (r_ix (d_name 1 (pv 1)) (d_name 3 (pv 3)) (fun _ _ => rfl)) (fun _ _ => rfl)))))
    (b_one (s_ret (r_tuple (a_cons (d_lc0 (own := [("c", 5)]) (blkOk_by (own := [("c", 5)]) (N := n__law_outs) (sc := defScope s__law_outs) (by decide +kernel)) (i_rng1 (a_cons (r_ix (d_name 0 (pv 0)) d_int (fun _ _ => rfl)) a_nil)) (fun s1 H1 C1 l1 p1 => (g_nm (i := 5) rfl)) dg_name (by decide) (fun s1 H1 C1 l1 p1 => (r_len (a_cons (d_lc1 (own := [("tail", 4)]) (blkOk_by (own := [("tail", 4)]) (N := n__law_outs) (by rfl)) (i_lst (d_name 2 (pv 2))) (fun s2 H2 C2 l2 p2 => (g_nm (i := 4) rfl)) dg_name (by decide) (fun s2 H2 C2 l2 p2 => (q_eq (d_name 4 (pv 4)) (d_name 5 (pv 5)))) (fun s2 H2 C2 l2 p2 => d_int)) a_nil)))) a_nil)))))⟩

abbrev s_law : Stmt := top 48
abbrev n_law : List Str := ["script", "source", "frame", "m", "turnings", "outs", "turning", "k", "one", "same", "i", "other", "stiff", "r", "late", "ring", "told", "c", "d", "found"]
theorem sc_law : FnScope n_law ["script"] (defScope s_law) := ⟨rfl, rfl, rfl, by decide +kernel, rfl, by decide +kernel, by decide +kernel⟩
noncomputable def f_law : Fn Src Out := (fSeq (fSet 2 (fCallS 1 m__law_frame (fCons (fVar 1) (fCons (fC (.int 7)) fNil))))
  (fSeq (fSet 3 (fCal oLen (fCons (fIx (fVar 2) (fC (.int 1))) fNil)))
  (fSeq (fSet 4 (fCall 1 m__law_marks (fCons (fVar 3) fNil)))
  (fSeq (fSet 5 (fLc (xList (fVar 4)) (gfN 6) fYes (fCall 2 m__law_outs (fCons (fVar 2) (fCons (fVar 6) fNil))) [6]))
  (fSeq (fIfS (fTest (fOp oNe (fCal oRepr (fCons (fCall 1 m_outs_rows (fCons (fVar 2) fNil)) fNil)) (fCal oRepr (fCons (fCal oTuple (fCons (fSortSet (fVar 5)) fNil)) fNil)))) (fRet none (fC (.bl false))) fNx)
  (fSeq (fSet 7 (fCallS 1 m__law_pick (fCons (fVar 1) (fCons (fCal oLen (fCons (fVar 4) fNil)) fNil))))
  (fSeq (fSet 8 (fIx (fVar 4) (fVar 7)))
  (fSeq (fSet 9 (fLc (xRng1 (fCons (fCal oLen (fCons (fVar 4) fNil)) fNil)) (gfN 10) (fTest (fOp oEq (fIx (fVar 5) (fVar 10)) (fIx (fVar 5) (fVar 7)))) (fIx (fVar 4) (fVar 10)) [10]))
  (fSeq (fSet 11 (fCallS 1 m__law_of (fCons (fVar 1) (fCons (fVar 9) fNil))))
  (fSeq (fIfS (fTest (fOp oNe (fCal oRepr (fCons (fCall 2 m_outs_of (fCons (fVar 2) (fCons (fVar 8) fNil))) fNil)) (fCal oRepr (fCons (fIx (fVar 5) (fVar 7)) fNil)))) (fRet none (fC (.bl false))) fNx)
  (fSeq (fIfS (fTest (fOp oNe (fReprL (fCons (fCall 2 m_turnings_count (fCons (fVar 2) (fCons (fIx (fVar 5) (fVar 7)) fNil))) (fCons (fCall 2 m_all_turnings (fCons (fVar 2) (fCons (fIx (fVar 5) (fVar 7)) fNil))) fNil))) (fReprL (fCons (fCal oLen (fCons (fVar 9) fNil)) (fCons (fVar 9) fNil))))) (fRet none (fC (.bl false))) fNx)
  (fSeq (fSet 12 (fCal oTuple (fCons (fLc (xRng1 (fCons (fVar 3) fNil)) (gfN 13) (fTest (fOp oEq (fLenSet (fLc (xList (fVar 9)) (gfN 6) fYes (fIx (fVar 6) (fVar 13)) [6])) (fC (.int 1)))) (fVar 13) [13]) fNil)))
  (fSeq (fIfS (fTest (fOp oNe (fCal oRepr (fCons (fCall 2 m_stiff_roads (fCons (fVar 2) (fCons (fVar 8) fNil))) fNil)) (fCal oRepr (fCons (fVar 12) fNil)))) (fRet none (fC (.bl false))) fNx)
  (fSeq (fSet 13 (fCallS 1 m__law_pick (fCons (fVar 1) (fCons (fVar 3) fNil))))
  (fSeq (fIfS (fTest (fOp (oIsN true) (fCall 4 m_judge_stiff (fCons (fVar 2) (fCons (fVar 8) (fCons (fVar 13) (fCons (fCall 3 m_stiff_paper (fCons (fVar 2) (fCons (fVar 8) (fCons (fVar 13) fNil)))) fNil))))) (fC .non))) (fRet none (fC (.bl false))) fNx)
  (fSeq (fMv 14 8)
  (fSeq (fFor none (xTup (fCall 3 m_rings_turned (fCons (fVar 2) (fCons (fVar 8) (fCons (fVar 11) fNil))))) (gfN 15) (fSet 14 (fCall 2 m_turned_roads (fCons (fVar 14) (fCons (fVar 15) fNil)))))
  (fSeq (fIfS (fTest (fOp oNe (fVar 14) (fVar 11))) (fRet none (fC (.bl false))) fNx)
  (fSeq (fSet 16 (fCal oList (fCons (fIx (fVar 5) (fVar 7)) fNil)))
  (fSeq (fSet 17 (fCallS 1 m__law_pick (fCons (fVar 1) (fCons (fIx (fVar 2) (fC (.int 0))) fNil))))
  (fSeq (fPutL 16 (fOp oSub (fOp oAdd (fIx (fVar 16) (fVar 17)) (fCallS 1 m__law_pick (fCons (fVar 1) (fCons (fC (.int 3)) fNil)))) (fC (.int 1))) (fVar 17))
  (fSeq (fSet 18 (fCallS 1 m__law_pick (fCons (fVar 1) (fCons (fIx (fVar 2) (fC (.int 0))) fNil))))
  (fSeq (fPutL 16 (fOp oSub (fOp oAdd (fIx (fVar 16) (fVar 18)) (fCallS 1 m__law_pick (fCons (fVar 1) (fCons (fC (.int 3)) fNil)))) (fC (.int 1))) (fVar 18))
  (fSeq (fSet 16 (fCal oTuple (fCons (fVar 16) fNil)))
  (fSeq (fIfS (fTest (fOp (oIsN true) (fCall 3 m_judge_outs (fCons (fVar 2) (fCons (fVar 16) (fCons (fCall 2 m_outs_paper (fCons (fVar 2) (fCons (fVar 16) fNil))) fNil)))) (fC .non))) (fRet none (fC (.bl false))) fNx)
  (fSeq (fSet 19 (fCall 2 m_turning_with (fCons (fVar 2) (fCons (fVar 16) fNil))))
  (fSeq (fIfS (fTest (fOp (oIsN false) (fVar 19) (fC .non))) (fRet none (fOp (oIn true) (fVar 16) (fVar 5))) fNx)
  (fRet none (fAndV (fOp (oIn false) (fVar 19) (fVar 4)) (fOp oEq (fCall 2 m__law_outs (fCons (fVar 2) (fCons (fVar 19) fNil))) (fVar 16)))))))))))))))))))))))))))))))
theorem ok_law {f fS : Addr} {fd fdS : FuncData} {k : Nat} (bl : Bl mg) (hC : Room (k + 1) callerA) (oS : FnOk P w K mg base CX0 k fS fdS ["script"] (spSrc K)) (gS : mg "_law_source" = some (.ref fS)) (kS : PySem.W.keepIn K (.ref fS) = true) (bS : Binds K fdS ["script"] []) (c__law_frame : ClS P w K mg base k "_law_frame" 1 m__law_frame) (c__law_marks : Cl P w K mg base k "_law_marks" 1 m__law_marks) (c__law_outs : Cl P w K mg base k "_law_outs" 2 m__law_outs) (c_outs_rows : Cl P w K mg base k "outs_rows" 1 m_outs_rows) (c__law_pick : ClS P w K mg base k "_law_pick" 1 m__law_pick) (c__law_of : ClS P w K mg base k "_law_of" 1 m__law_of) (c_outs_of : Cl P w K mg base k "outs_of" 2 m_outs_of) (c_all_turnings : Cl P w K mg base k "all_turnings" 2 m_all_turnings) (c_turnings_count : Cl P w K mg base k "turnings_count" 2 m_turnings_count) (c_stiff_roads : Cl P w K mg base k "stiff_roads" 2 m_stiff_roads) (c_judge_stiff : Cl P w K mg base k "judge_stiff" 4 m_judge_stiff) (c_stiff_paper : Cl P w K mg base k "stiff_paper" 3 m_stiff_paper) (c_rings_turned : Cl P w K mg base k "rings_turned" 3 m_rings_turned) (c_turned_roads : Cl P w K mg base k "turned_roads" 2 m_turned_roads) (c_judge_outs : Cl P w K mg base k "judge_outs" 3 m_judge_outs) (c_outs_paper : Cl P w K mg base k "outs_paper" 2 m_outs_paper) (c_turning_with : Cl P w K mg base k "turning_with" 2 m_turning_with) (U : Fun K "law" "law" s_law f fd) : RunC P w K mg base f fd ["script"] (spLaw K f_law 18) := by
  refine runC_of U sc_law (fun vs H Q E h => ?_) hC fun cdv out s H vs Q E hr h => ?_
  · obtain ⟨a, ns, s2, rfl, _⟩ := h
    rfl
  haveI F : Fx (cxOf CX0 P w K mg base n_law "law" (defScope s_law) f cdv callerA out s H E).nox K := ⟨rfl, rfl, by have := hr.un; show (callerA.deeper _).units + 65 < cLine; omega, sc_law.nd, bl⟩
  haveI G : Gx (cxOf CX0 P w K mg base n_law "law" (defScope s_law) f cdv callerA out s H E).nox := ⟨rfl⟩
  obtain ⟨a, ns, s2, rfl, hS, hl, hf, q⟩ := h
  have rest : PDB (cxOf CX0 P w K mg base n_law "law" (defScope s_law) f cdv callerA out s H E).nox FamS (defBody s_law).tail _ f_law := ((b_cons (s_set (i := 2) (fun z => ps_set F.nd rfl (Or.inr rfl) z) (d_clS c__law_frame hr (a_cons (d_name 1 (pv 1)) (a_cons d_int a_nil))))
    (b_cons (s_set (i := 3) (fun z => ps_set F.nd rfl (Or.inl rfl) z) (r_len (a_cons (r_ix (d_name 2 (pv 2)) d_int (fun _ _ => rfl)) a_nil)))
    (b_cons (s_set (i := 4) (fun z => ps_set F.nd rfl (Or.inr rfl) z) (d_cl c__law_marks hr (a_cons (d_name 3 (pv 3)) a_nil)))
    (b_cons (s_set (i := 5) (fun z => ps_set F.nd rfl (Or.inr rfl) z) (d_lc0 (own := [("turning", 6)]) (blkOk_by (own := [("turning", 6)]) (N := n_law) (sc := defScope s_law) (by decide +kernel)) (i_lst (d_name 4 (pv 4))) (fun s1 H1 C1 l1 p1 => (g_nm (i := 6) rfl)) dg_name (by decide) (fun s1 H1 C1 l1 p1 => (d_cl c__law_outs hr (a_cons (d_name 2 (pv 2)) (a_cons (d_name 6 (pv 6)) a_nil))))))
    (b_cons (s_if (q_ne (r_repr (a_cons (d_cl c_outs_rows hr (a_cons (d_name 2 (pv 2)) a_nil)) a_nil)) (r_repr (a_cons (r_tuple (a_cons (r_sortSet (d_name 5 (pv 5))) a_nil)) a_nil))) (b_one (s_ret d_bl)) b_nil)
    (b_cons (s_set (i := 7) (fun z => ps_set F.nd rfl (Or.inr rfl) z) (d_clS c__law_pick hr (a_cons (d_name 1 (pv 1)) (a_cons (r_len (a_cons (d_name 4 (pv 4)) a_nil)) a_nil))))
    (b_cons (s_set (i := 8) (fun z => ps_set F.nd rfl (Or.inl rfl) z) (r_ix (d_name 4 (pv 4)) (d_name 7 (pv 7)) (fun _ _ => rfl)))
    (b_cons (s_set (i := 9) (fun z => ps_set F.nd rfl (Or.inr rfl) z) (d_lc1 (own := [("i", 10)]) (blkOk_by (own := [("i", 10)]) (N := n_law) (sc := defScope s_law) (by decide +kernel)) (i_rng1 (a_cons (r_len (a_cons (d_name 4 (pv 4)) a_nil)) a_nil)) (fun s1 H1 C1 l1 p1 => (g_nm (i := 10) rfl)) dg_name (by decide) (fun s1 H1 C1 l1 p1 => (q_eq (r_ix (d_name 5 (pv 5)) (d_name 10 (pv 10)) (fun _ _ => rfl)) (r_ix (d_name 5 (pv 5)) (d_name 7 (pv 7)) (fun _ _ => rfl)))) (fun s1 H1 C1 l1 p1 => (r_ix (d_name 4 (pv 4)) (d_name 10 (pv 10)) (fun _ _ => rfl)))))
    (b_cons (s_set (i := 11) (fun z => ps_set F.nd rfl (Or.inl rfl) z) (d_clS c__law_of hr (a_cons (d_name 1 (pv 1)) (a_cons (d_name 9 (pv 9)) a_nil))))
    (b_cons (s_if (q_ne (r_repr (a_cons (d_cl c_outs_of hr (a_cons (d_name 2 (pv 2)) (a_cons (d_name 8 (pv 8)) a_nil))) a_nil)) (r_repr (a_cons (r_ix (d_name 5 (pv 5)) (d_name 7 (pv 7)) (fun _ _ => rfl)) a_nil))) (b_one (s_ret d_bl)) b_nil)
    (b_cons (s_if (q_ne (r_reprL (a_cons (d_cl c_turnings_count hr (a_cons (d_name 2 (pv 2)) (a_cons (r_ix (d_name 5 (pv 5)) (d_name 7 (pv 7)) (fun _ _ => rfl)) a_nil))) (a_cons (d_cl c_all_turnings hr (a_cons (d_name 2 (pv 2)) (a_cons (r_ix (d_name 5 (pv 5)) (d_name 7 (pv 7)) (fun _ _ => rfl)) a_nil))) a_nil))) (r_reprL (a_cons (r_len (a_cons (d_name 9 (pv 9)) a_nil)) (a_cons (d_name 9 (pv 9)) a_nil)))) (b_one (s_ret d_bl)) b_nil)
    (b_cons (s_set (i := 12) (fun z => ps_set F.nd rfl (Or.inl rfl) z) (r_tuple (a_cons (d_lc1 (own := [("r", 13)]) (blkOk_by (own := [("r", 13)]) (N := n_law) (sc := defScope s_law) (by decide +kernel)) (i_rng1 (a_cons (d_name 3 (pv 3)) a_nil)) (fun s1 H1 C1 l1 p1 => (g_nm (i := 13) rfl)) dg_name (by decide) (fun s1 H1 C1 l1 p1 => (q_eq (r_lenSet (d_lc0 (own := [("turning", 6)]) (blkOk_by (own := [("turning", 6)]) (N := n_law) (by rfl)) (i_lst (d_name 9 (pv 9))) (fun s2 H2 C2 l2 p2 => (g_nm (i := 6) rfl)) dg_name (by decide) (fun s2 H2 C2 l2 p2 => (r_ix (d_name 6 (pv 6)) (d_name 13 (pv 13)) (fun _ _ => rfl))))) d_int)) (fun s1 H1 C1 l1 p1 => (d_name 13 (pv 13)))) a_nil)))
    (b_cons (s_if (q_ne (r_repr (a_cons (d_cl c_stiff_roads hr (a_cons (d_name 2 (pv 2)) (a_cons (d_name 8 (pv 8)) a_nil))) a_nil)) (r_repr (a_cons (d_name 12 (pv 12)) a_nil))) (b_one (s_ret d_bl)) b_nil)
    (b_cons (s_set (i := 13) (fun z => ps_set F.nd rfl (Or.inl rfl) z) (d_clS c__law_pick hr (a_cons (d_name 1 (pv 1)) (a_cons (d_name 3 (pv 3)) a_nil))))
    (b_cons (s_if (q_notN (d_cl c_judge_stiff hr (a_cons (d_name 2 (pv 2)) (a_cons (d_name 8 (pv 8)) (a_cons (d_name 13 (pv 13)) (a_cons (d_cl c_stiff_paper hr (a_cons (d_name 2 (pv 2)) (a_cons (d_name 8 (pv 8)) (a_cons (d_name 13 (pv 13)) a_nil)))) a_nil))))) d_non) (b_one (s_ret d_bl)) b_nil)
    (b_cons (s_mv (ps_set (i := 14) F.nd rfl (Or.inl rfl) (pv 8)))
    (b_cons (s_for (z := none) (fun x y z => ps_for PassesOwn.never rfl x y z) (i_tup (d_cl c_rings_turned hr (a_cons (d_name 2 (pv 2)) (a_cons (d_name 8 (pv 8)) (a_cons (d_name 11 (pv 11)) a_nil))))) (g_nm (i := 15) rfl) dg_name (b_one (s_set (i := 14) (fun z => ps_set F.nd rfl (Or.inl rfl) z) (d_cl c_turned_roads hr (a_cons (d_name 14 (pv 14)) (a_cons (d_name 15 (pv 15)) a_nil))))))
    (b_cons (s_if (q_ne (d_name 14 (pv 14)) (d_name 11 (pv 11))) (b_one (s_ret d_bl)) b_nil)
    (b_cons (s_set (i := 16) (fun z => ps_set F.nd rfl (Or.inl rfl) z) (r_list (a_cons (r_ix (d_name 5 (pv 5)) (d_name 7 (pv 7)) (fun _ _ => rfl)) a_nil)))
    (b_cons (s_set (i := 17) (fun z => ps_set F.nd rfl (Or.inl rfl) z) (d_clS c__law_pick hr (a_cons (d_name 1 (pv 1)) (a_cons (r_ix (d_name 2 (pv 2)) d_int (fun _ _ => rfl)) a_nil))))
    (b_cons (s_putL (i := 16) (fun z y => ps_asg z (pg_sub (pv 16) y set_list)) (r_sub (r_add (r_ix (d_name 16 (pv 16)) (d_name 17 (pv 17)) (fun _ _ => rfl)) (d_clS c__law_pick hr (a_cons (d_name 1 (pv 1)) (a_cons d_int a_nil)))) d_int) (d_name 17 (pv 17)))
    (b_cons (s_set (i := 18) (fun z => ps_set F.nd rfl (Or.inl rfl) z) (d_clS c__law_pick hr (a_cons (d_name 1 (pv 1)) (a_cons (r_ix (d_name 2 (pv 2)) d_int (fun _ _ => rfl)) a_nil))))
    (b_cons (s_putL (i := 16) (fun z y => ps_asg z (pg_sub (pv 16) y set_list)) (r_sub (r_add (r_ix (d_name 16 (pv 16)) (d_name 18 (pv 18)) (fun _ _ => rfl)) (d_clS c__law_pick hr (a_cons (d_name 1 (pv 1)) (a_cons d_int a_nil)))) d_int) (d_name 18 (pv 18)))
    (b_cons (s_set (i := 16) (fun z => ps_set F.nd rfl (Or.inl rfl) z) (r_tuple (a_cons (d_name 16 (pv 16)) a_nil)))
    (b_cons (s_if (q_notN (d_cl c_judge_outs hr (a_cons (d_name 2 (pv 2)) (a_cons (d_name 16 (pv 16)) (a_cons (d_cl c_outs_paper hr (a_cons (d_name 2 (pv 2)) (a_cons (d_name 16 (pv 16)) a_nil))) a_nil)))) d_non) (b_one (s_ret d_bl)) b_nil)
    (b_cons (s_set (i := 19) (fun z => ps_set F.nd rfl (Or.inl rfl) z) (d_cl c_turning_with hr (a_cons (d_name 2 (pv 2)) (a_cons (d_name 16 (pv 16)) a_nil))))
    (b_cons (s_if (q_isN (d_name 19 (pv 19)) d_non) (b_one (s_ret (c_nin (d_name 16 (pv 16)) (d_name 5 (pv 5))))) b_nil)
    (b_one (s_ret (d_and (c_in (d_name 19 (pv 19)) (d_name 4 (pv 4))) (d_one (c_eq (d_cl c__law_outs hr (a_cons (d_name 2 (pv 2)) (a_cons (d_name 19 (pv 19)) a_nil))) (d_name 16 (pv 16)))))))))))))))))))))))))))))))))))
  exact ⟨_, pss_cons (ps_set (i := 1) F.nd rfl (.inl rfl) (pe_call oS hr (by rfl) gS kS bS .nil pass0 (pa_cons (pv 0) pa_nil))) rest.pe, ⟨.ref a, rfl, a, ns, rfl, hS, hl, fun H' d l kp nd nl sa => law_rest rest.de hf sa rfl rfl q⟩⟩

/-! ### all of them -/
theorem all_ok {f_is_turning : Addr} {fd_is_turning : FuncData} {f_tail_of : Addr} {fd_tail_of : FuncData} {f_head_of : Addr} {fd_head_of : FuncData} {f_outs_of : Addr} {fd_outs_of : FuncData} {f_turned_roads : Addr} {fd_turned_roads : FuncData} {f_roads_within : Addr} {fd_roads_within : FuncData} {f_outs_at : Addr} {fd_outs_at : FuncData} {f_ways_from : Addr} {fd_ways_from : FuncData} {f_led_from : Addr} {fd_led_from : FuncData} {f_too_many : Addr} {fd_too_many : FuncData} {f_nearest_turning : Addr} {fd_nearest_turning : FuncData} {f_outs_paper : Addr} {fd_outs_paper : FuncData} {f_turning_with : Addr} {fd_turning_with : FuncData} {f_is_crossing_lot : Addr} {fd_is_crossing_lot : FuncData} {f_is_outs_form : Addr} {fd_is_outs_form : FuncData} {f_judge_outs : Addr} {fd_judge_outs : FuncData} {f_is_tight : Addr} {fd_is_tight : FuncData} {f_parts_of : Addr} {fd_parts_of : FuncData} {f_stiff_roads : Addr} {fd_stiff_roads : FuncData} {f_from_least : Addr} {fd_from_least : FuncData} {f_ring_with : Addr} {fd_ring_with : FuncData} {f_is_turning_ring : Addr} {fd_is_turning_ring : FuncData} {f_ring_within : Addr} {fd_ring_within : FuncData} {f_rings_turned : Addr} {fd_rings_turned : FuncData} {f_stiff_paper : Addr} {fd_stiff_paper : FuncData} {f_judge_stiff : Addr} {fd_judge_stiff : FuncData} {f_with_one : Addr} {fd_with_one : FuncData} {f_later_counts : Addr} {fd_later_counts : FuncData} {f_outs_rows : Addr} {fd_outs_rows : FuncData} {f_turnings_count : Addr} {fd_turnings_count : FuncData} {f_all_turnings : Addr} {fd_all_turnings : FuncData} {f__law_pick : Addr} {fd__law_pick : FuncData} {f__law_of : Addr} {fd__law_of : FuncData} {f__law_frame : Addr} {fd__law_frame : FuncData} {f__law_marks : Addr} {fd__law_marks : FuncData} {f__law_outs : Addr} {fd__law_outs : FuncData} {f_law : Addr} {fd_law : FuncData} {f__law_source : Addr} {fd__law_source : FuncData} (bl : Bl mg) {tMOST_ROWS : Tok} (cMOST_ROWS : mg "MOST_ROWS" = some (.int 8000 tMOST_ROWS)) {tMOST_TURNINGS : Tok} (cMOST_TURNINGS : mg "MOST_TURNINGS" = some (.int 2000 tMOST_TURNINGS)) (US : Fun K "_law_source" "_law_source" sSrc f__law_source fd__law_source) (gS : mg "_law_source" = some (.ref f__law_source)) (U_is_turning : Fun K "is_turning" "is_turning" s_is_turning f_is_turning fd_is_turning) (g_is_turning : mg "is_turning" = some (.ref f_is_turning)) (U_tail_of : Fun K "tail_of" "tail_of" s_tail_of f_tail_of fd_tail_of) (g_tail_of : mg "tail_of" = some (.ref f_tail_of)) (U_head_of : Fun K "head_of" "head_of" s_head_of f_head_of fd_head_of) (g_head_of : mg "head_of" = some (.ref f_head_of)) (U_outs_of : Fun K "outs_of" "outs_of" s_outs_of f_outs_of fd_outs_of) (g_outs_of : mg "outs_of" = some (.ref f_outs_of)) (U_turned_roads : Fun K "turned_roads" "turned_roads" s_turned_roads f_turned_roads fd_turned_roads) (g_turned_roads : mg "turned_roads" = some (.ref f_turned_roads)) (U_roads_within : Fun K "roads_within" "roads_within" s_roads_within f_roads_within fd_roads_within) (g_roads_within : mg "roads_within" = some (.ref f_roads_within)) (U_outs_at : Fun K "outs_at" "outs_at" s_outs_at f_outs_at fd_outs_at) (g_outs_at : mg "outs_at" = some (.ref f_outs_at)) (U_ways_from : Fun K "ways_from" "ways_from" s_ways_from f_ways_from fd_ways_from) (g_ways_from : mg "ways_from" = some (.ref f_ways_from)) (U_led_from : Fun K "led_from" "led_from" s_led_from f_led_from fd_led_from) (g_led_from : mg "led_from" = some (.ref f_led_from)) (U_too_many : Fun K "too_many" "too_many" s_too_many f_too_many fd_too_many) (g_too_many : mg "too_many" = some (.ref f_too_many)) (U_nearest_turning : Fun K "nearest_turning" "nearest_turning" s_nearest_turning f_nearest_turning fd_nearest_turning) (g_nearest_turning : mg "nearest_turning" = some (.ref f_nearest_turning)) (U_outs_paper : Fun K "outs_paper" "outs_paper" s_outs_paper f_outs_paper fd_outs_paper) (g_outs_paper : mg "outs_paper" = some (.ref f_outs_paper)) (U_turning_with : Fun K "turning_with" "turning_with" s_turning_with f_turning_with fd_turning_with) (g_turning_with : mg "turning_with" = some (.ref f_turning_with)) (U_is_crossing_lot : Fun K "is_crossing_lot" "is_crossing_lot" s_is_crossing_lot f_is_crossing_lot fd_is_crossing_lot) (g_is_crossing_lot : mg "is_crossing_lot" = some (.ref f_is_crossing_lot)) (U_is_outs_form : Fun K "is_outs_form" "is_outs_form" s_is_outs_form f_is_outs_form fd_is_outs_form) (g_is_outs_form : mg "is_outs_form" = some (.ref f_is_outs_form)) (U_judge_outs : Fun K "judge_outs" "judge_outs" s_judge_outs f_judge_outs fd_judge_outs) (g_judge_outs : mg "judge_outs" = some (.ref f_judge_outs)) (U_is_tight : Fun K "is_tight" "is_tight" s_is_tight f_is_tight fd_is_tight) (g_is_tight : mg "is_tight" = some (.ref f_is_tight)) (U_parts_of : Fun K "parts_of" "parts_of" s_parts_of f_parts_of fd_parts_of) (g_parts_of : mg "parts_of" = some (.ref f_parts_of)) (U_stiff_roads : Fun K "stiff_roads" "stiff_roads" s_stiff_roads f_stiff_roads fd_stiff_roads) (g_stiff_roads : mg "stiff_roads" = some (.ref f_stiff_roads)) (U_from_least : Fun K "from_least" "from_least" s_from_least f_from_least fd_from_least) (g_from_least : mg "from_least" = some (.ref f_from_least)) (U_ring_with : Fun K "ring_with" "ring_with" s_ring_with f_ring_with fd_ring_with) (g_ring_with : mg "ring_with" = some (.ref f_ring_with)) (U_is_turning_ring : Fun K "is_turning_ring" "is_turning_ring" s_is_turning_ring f_is_turning_ring fd_is_turning_ring) (g_is_turning_ring : mg "is_turning_ring" = some (.ref f_is_turning_ring)) (U_ring_within : Fun K "ring_within" "ring_within" s_ring_within f_ring_within fd_ring_within) (g_ring_within : mg "ring_within" = some (.ref f_ring_within)) (U_rings_turned : Fun K "rings_turned" "rings_turned" s_rings_turned f_rings_turned fd_rings_turned) (g_rings_turned : mg "rings_turned" = some (.ref f_rings_turned)) (U_stiff_paper : Fun K "stiff_paper" "stiff_paper" s_stiff_paper f_stiff_paper fd_stiff_paper) (g_stiff_paper : mg "stiff_paper" = some (.ref f_stiff_paper)) (U_judge_stiff : Fun K "judge_stiff" "judge_stiff" s_judge_stiff f_judge_stiff fd_judge_stiff) (g_judge_stiff : mg "judge_stiff" = some (.ref f_judge_stiff)) (U_with_one : Fun K "with_one" "with_one" s_with_one f_with_one fd_with_one) (g_with_one : mg "with_one" = some (.ref f_with_one)) (U_later_counts : Fun K "later_counts" "later_counts" s_later_counts f_later_counts fd_later_counts) (g_later_counts : mg "later_counts" = some (.ref f_later_counts)) (U_outs_rows : Fun K "outs_rows" "outs_rows" s_outs_rows f_outs_rows fd_outs_rows) (g_outs_rows : mg "outs_rows" = some (.ref f_outs_rows)) (U_turnings_count : Fun K "turnings_count" "turnings_count" s_turnings_count f_turnings_count fd_turnings_count) (g_turnings_count : mg "turnings_count" = some (.ref f_turnings_count)) (U_all_turnings : Fun K "all_turnings" "all_turnings" s_all_turnings f_all_turnings fd_all_turnings) (g_all_turnings : mg "all_turnings" = some (.ref f_all_turnings)) (U__law_pick : Fun K "_law_pick" "_law_pick" s__law_pick f__law_pick fd__law_pick) (g__law_pick : mg "_law_pick" = some (.ref f__law_pick)) (U__law_of : Fun K "_law_of" "_law_of" s__law_of f__law_of fd__law_of) (g__law_of : mg "_law_of" = some (.ref f__law_of)) (U__law_frame : Fun K "_law_frame" "_law_frame" s__law_frame f__law_frame fd__law_frame) (g__law_frame : mg "_law_frame" = some (.ref f__law_frame)) (U__law_marks : Fun K "_law_marks" "_law_marks" s__law_marks f__law_marks fd__law_marks) (g__law_marks : mg "_law_marks" = some (.ref f__law_marks)) (U__law_outs : Fun K "_law_outs" "_law_outs" s__law_outs f__law_outs fd__law_outs) (g__law_outs : mg "_law_outs" = some (.ref f__law_outs)) (U_law : Fun K "law" "law" s_law f_law fd_law) : RunC P w K mg base f_law fd_law ["script"] (spLaw K K96.f_law 18) := by
  have c_is_turning : Cl P w K mg base 1 "is_turning" 2 m_is_turning := ok_is_turning (k := 0) bl   U_is_turning g_is_turning
  have c_tail_of : Cl P w K mg base 1 "tail_of" 3 m_tail_of := ok_tail_of (k := 0) bl   U_tail_of g_tail_of
  have c_head_of : Cl P w K mg base 1 "head_of" 3 m_head_of := ok_head_of (k := 0) bl   U_head_of g_head_of
  have c_outs_of : Cl P w K mg base 2 "outs_of" 2 m_outs_of := ok_outs_of (k := 1) bl (c_tail_of.up (by decide))  U_outs_of g_outs_of
  have c_turned_roads : Cl P w K mg base 1 "turned_roads" 2 m_turned_roads := ok_turned_roads (k := 0) bl   U_turned_roads g_turned_roads
  have c_roads_within : Cl P w K mg base 1 "roads_within" 2 m_roads_within := ok_roads_within (k := 0) bl   U_roads_within g_roads_within
  have c_outs_at : Cl P w K mg base 1 "outs_at" 2 m_outs_at := ok_outs_at (k := 0) bl   U_outs_at g_outs_at
  have c_ways_from : Cl P w K mg base 2 "ways_from" 3 m_ways_from := ok_ways_from (k := 1) bl (c_head_of.up (by decide)) (c_tail_of.up (by decide))  U_ways_from g_ways_from
  have c_led_from : Cl P w K mg base 3 "led_from" 3 m_led_from := ok_led_from (k := 2) bl (c_ways_from.up (by decide))  U_led_from g_led_from
  have c_too_many : Cl P w K mg base 1 "too_many" 2 m_too_many := ok_too_many (k := 0) bl   U_too_many g_too_many
  have c_nearest_turning : Cl P w K mg base 3 "nearest_turning" 2 m_nearest_turning := ok_nearest_turning (k := 2) bl (c_outs_of.up (by decide)) (c_too_many.up (by decide)) (c_ways_from.up (by decide)) (c_turned_roads.up (by decide))  U_nearest_turning g_nearest_turning
  have c_outs_paper : Cl P w K mg base 4 "outs_paper" 2 m_outs_paper := ok_outs_paper (k := 3) bl (c_nearest_turning.up (by decide))  U_outs_paper g_outs_paper
  have c_turning_with : Cl P w K mg base 5 "turning_with" 2 m_turning_with := ok_turning_with (k := 4) bl (c_outs_paper.up (by decide))  U_turning_with g_turning_with
  have c_is_crossing_lot : Cl P w K mg base 1 "is_crossing_lot" 2 m_is_crossing_lot := ok_is_crossing_lot (k := 0) bl   U_is_crossing_lot g_is_crossing_lot
  have c_is_outs_form : Cl P w K mg base 2 "is_outs_form" 2 m_is_outs_form := ok_is_outs_form (k := 1) bl (c_is_turning.up (by decide)) (c_is_crossing_lot.up (by decide))  U_is_outs_form g_is_outs_form
  have c_judge_outs : Cl P w K mg base 3 "judge_outs" 3 m_judge_outs := ok_judge_outs (k := 2) bl (c_is_outs_form.up (by decide)) (c_outs_of.up (by decide)) (c_outs_at.up (by decide)) (c_roads_within.up (by decide))  U_judge_outs g_judge_outs
  have c_is_tight : Cl P w K mg base 2 "is_tight" 3 m_is_tight := ok_is_tight (k := 1) bl (c_roads_within.up (by decide)) (c_outs_at.up (by decide))  U_is_tight g_is_tight
  have c_parts_of : Cl P w K mg base 4 "parts_of" 2 m_parts_of := ok_parts_of (k := 3) bl (c_led_from.up (by decide))  U_parts_of g_parts_of
  have c_stiff_roads : Cl P w K mg base 5 "stiff_roads" 2 m_stiff_roads := ok_stiff_roads (k := 4) bl (c_parts_of.up (by decide))  U_stiff_roads g_stiff_roads
  have c_from_least : Cl P w K mg base 1 "from_least" 1 m_from_least := ok_from_least (k := 0) bl   U_from_least g_from_least
  have c_ring_with : Cl P w K mg base 3 "ring_with" 3 m_ring_with := ok_ring_with (k := 2) bl (c_ways_from.up (by decide)) (c_head_of.up (by decide)) (c_tail_of.up (by decide)) (c_from_least.up (by decide))  U_ring_with g_ring_with
  have c_is_turning_ring : Cl P w K mg base 2 "is_turning_ring" 3 m_is_turning_ring := ok_is_turning_ring (k := 1) bl (c_tail_of.up (by decide)) (c_head_of.up (by decide))  U_is_turning_ring g_is_turning_ring
  have c_ring_within : Cl P w K mg base 2 "ring_within" 3 m_ring_within := ok_ring_within (k := 1) bl (c_tail_of.up (by decide)) (c_head_of.up (by decide)) (c_from_least.up (by decide))  U_ring_within g_ring_within
  have c_rings_turned : Cl P w K mg base 3 "rings_turned" 3 m_rings_turned := ok_rings_turned (k := 2) bl (c_outs_of.up (by decide)) (c_ring_within.up (by decide))  U_rings_turned g_rings_turned
  have c_stiff_paper : Cl P w K mg base 4 "stiff_paper" 3 m_stiff_paper := ok_stiff_paper (k := 3) bl (c_ring_with.up (by decide)) (c_led_from.up (by decide)) (c_head_of.up (by decide))  U_stiff_paper g_stiff_paper
  have c_judge_stiff : Cl P w K mg base 3 "judge_stiff" 4 m_judge_stiff := ok_judge_stiff (k := 2) bl (c_is_turning_ring.up (by decide)) (c_is_crossing_lot.up (by decide)) (c_is_tight.up (by decide)) (c_outs_of.up (by decide)) (c_head_of.up (by decide)) (c_tail_of.up (by decide))  U_judge_stiff g_judge_stiff
  have c_with_one : Cl P w K mg base 1 "with_one" 3 m_with_one := ok_with_one (k := 0) bl   U_with_one g_with_one
  have c_later_counts : Cl P w K mg base 2 "later_counts" 2 m_later_counts := ok_later_counts (k := 1) bl (c_with_one.up (by decide)) cMOST_ROWS U_later_counts g_later_counts
  have c_outs_rows : Cl P w K mg base 2 "outs_rows" 1 m_outs_rows := ok_outs_rows (k := 1) bl (c_with_one.up (by decide)) cMOST_ROWS U_outs_rows g_outs_rows
  have c_turnings_count : Cl P w K mg base 3 "turnings_count" 2 m_turnings_count := ok_turnings_count (k := 2) bl (c_later_counts.up (by decide))  U_turnings_count g_turnings_count
  have c_all_turnings : Cl P w K mg base 3 "all_turnings" 2 m_all_turnings := ok_all_turnings (k := 2) bl (c_later_counts.up (by decide)) (c_with_one.up (by decide)) cMOST_TURNINGS U_all_turnings g_all_turnings
  have c__law_pick : ClS P w K mg base 1 "_law_pick" 1 m__law_pick := ok__law_pick (k := 0) bl   U__law_pick g__law_pick
  have c__law_of : ClS P w K mg base 2 "_law_of" 1 m__law_of := ok__law_of (k := 1) bl (c__law_pick.up (by decide))  U__law_of g__law_of
  have c__law_frame : ClS P w K mg base 2 "_law_frame" 1 m__law_frame := ok__law_frame (k := 1) bl (c__law_pick.up (by decide))  U__law_frame g__law_frame
  have c__law_marks : Cl P w K mg base 1 "_law_marks" 1 m__law_marks := ok__law_marks (k := 0) bl   U__law_marks g__law_marks
  have c__law_outs : Cl P w K mg base 1 "_law_outs" 2 m__law_outs := ok__law_outs (k := 0) bl   U__law_outs g__law_outs
  have oS : FnOk P w K mg base CX0 5 f__law_source fd__law_source ["script"] (spSrc K) := (ok_src (k := 0) bl US).mono (by decide)
  exact ok_law (k := 5) bl ⟨rfl, by decide, by decide⟩ oS gS US.kp (US.binds (ps := ["script"]) fun _ _ _ _ _ _ us hl => match us, hl with | [_], _ => rfl) (c__law_frame.up (by decide)) (c__law_marks.up (by decide)) (c__law_outs.up (by decide)) (c_outs_rows.up (by decide)) (c__law_pick.up (by decide)) (c__law_of.up (by decide)) (c_outs_of.up (by decide)) (c_all_turnings.up (by decide)) (c_turnings_count.up (by decide)) (c_stiff_roads.up (by decide)) (c_judge_stiff.up (by decide)) (c_stiff_paper.up (by decide)) (c_rings_turned.up (by decide)) (c_turned_roads.up (by decide)) (c_judge_outs.up (by decide)) (c_outs_paper.up (by decide)) (c_turning_with.up (by decide)) U_law
theorem all_mk {h : Heap} {fa : Addr} (X : K.In h) (G : h.Ns mainGlobals mg) (hfa : mg "law" = some (.ref fa))
  {f0 : Addr} {od0 an0 : Option Addr} {sl0 : Array (Option Value)} {oc0 kV0 dc0 pm0 cd0 ct0 : Value}
  (a0 : PySem.W.nsIn K mainGlobals "is_turning" = some (some (.ref f0))) (l0 : K.lookup f0 = some ⟨oc0, od0, .func (PySem.W.fnOf "is_turning" "is_turning" (defArgs s_is_turning) (defBody s_is_turning) (defScope s_is_turning) .none kV0 dc0 pm0 an0 cd0 ct0), sl0⟩) (e0 : PySem.W.codeIn K cd0 "is_turning" = true) (k0 : PySem.W.keepIn K (.ref f0) = true)
  {f1 : Addr} {od1 an1 : Option Addr} {sl1 : Array (Option Value)} {oc1 kV1 dc1 pm1 cd1 ct1 : Value}
  (a1 : PySem.W.nsIn K mainGlobals "tail_of" = some (some (.ref f1))) (l1 : K.lookup f1 = some ⟨oc1, od1, .func (PySem.W.fnOf "tail_of" "tail_of" (defArgs s_tail_of) (defBody s_tail_of) (defScope s_tail_of) .none kV1 dc1 pm1 an1 cd1 ct1), sl1⟩) (e1 : PySem.W.codeIn K cd1 "tail_of" = true) (k1 : PySem.W.keepIn K (.ref f1) = true)
  {f2 : Addr} {od2 an2 : Option Addr} {sl2 : Array (Option Value)} {oc2 kV2 dc2 pm2 cd2 ct2 : Value}
  (a2 : PySem.W.nsIn K mainGlobals "head_of" = some (some (.ref f2))) (l2 : K.lookup f2 = some ⟨oc2, od2, .func (PySem.W.fnOf "head_of" "head_of" (defArgs s_head_of) (defBody s_head_of) (defScope s_head_of) .none kV2 dc2 pm2 an2 cd2 ct2), sl2⟩) (e2 : PySem.W.codeIn K cd2 "head_of" = true) (k2 : PySem.W.keepIn K (.ref f2) = true)
  {f3 : Addr} {od3 an3 : Option Addr} {sl3 : Array (Option Value)} {oc3 kV3 dc3 pm3 cd3 ct3 : Value}
  (a3 : PySem.W.nsIn K mainGlobals "outs_of" = some (some (.ref f3))) (l3 : K.lookup f3 = some ⟨oc3, od3, .func (PySem.W.fnOf "outs_of" "outs_of" (defArgs s_outs_of) (defBody s_outs_of) (defScope s_outs_of) .none kV3 dc3 pm3 an3 cd3 ct3), sl3⟩) (e3 : PySem.W.codeIn K cd3 "outs_of" = true) (k3 : PySem.W.keepIn K (.ref f3) = true)
  {f4 : Addr} {od4 an4 : Option Addr} {sl4 : Array (Option Value)} {oc4 kV4 dc4 pm4 cd4 ct4 : Value}
  (a4 : PySem.W.nsIn K mainGlobals "turned_roads" = some (some (.ref f4))) (l4 : K.lookup f4 = some ⟨oc4, od4, .func (PySem.W.fnOf "turned_roads" "turned_roads" (defArgs s_turned_roads) (defBody s_turned_roads) (defScope s_turned_roads) .none kV4 dc4 pm4 an4 cd4 ct4), sl4⟩) (e4 : PySem.W.codeIn K cd4 "turned_roads" = true) (k4 : PySem.W.keepIn K (.ref f4) = true)
  {f5 : Addr} {od5 an5 : Option Addr} {sl5 : Array (Option Value)} {oc5 kV5 dc5 pm5 cd5 ct5 : Value}
  (a5 : PySem.W.nsIn K mainGlobals "roads_within" = some (some (.ref f5))) (l5 : K.lookup f5 = some ⟨oc5, od5, .func (PySem.W.fnOf "roads_within" "roads_within" (defArgs s_roads_within) (defBody s_roads_within) (defScope s_roads_within) .none kV5 dc5 pm5 an5 cd5 ct5), sl5⟩) (e5 : PySem.W.codeIn K cd5 "roads_within" = true) (k5 : PySem.W.keepIn K (.ref f5) = true)
  {f6 : Addr} {od6 an6 : Option Addr} {sl6 : Array (Option Value)} {oc6 kV6 dc6 pm6 cd6 ct6 : Value}
  (a6 : PySem.W.nsIn K mainGlobals "outs_at" = some (some (.ref f6))) (l6 : K.lookup f6 = some ⟨oc6, od6, .func (PySem.W.fnOf "outs_at" "outs_at" (defArgs s_outs_at) (defBody s_outs_at) (defScope s_outs_at) .none kV6 dc6 pm6 an6 cd6 ct6), sl6⟩) (e6 : PySem.W.codeIn K cd6 "outs_at" = true) (k6 : PySem.W.keepIn K (.ref f6) = true)
  {f7 : Addr} {od7 an7 : Option Addr} {sl7 : Array (Option Value)} {oc7 kV7 dc7 pm7 cd7 ct7 : Value}
  (a7 : PySem.W.nsIn K mainGlobals "ways_from" = some (some (.ref f7))) (l7 : K.lookup f7 = some ⟨oc7, od7, .func (PySem.W.fnOf "ways_from" "ways_from" (defArgs s_ways_from) (defBody s_ways_from) (defScope s_ways_from) .none kV7 dc7 pm7 an7 cd7 ct7), sl7⟩) (e7 : PySem.W.codeIn K cd7 "ways_from" = true) (k7 : PySem.W.keepIn K (.ref f7) = true)
  {f8 : Addr} {od8 an8 : Option Addr} {sl8 : Array (Option Value)} {oc8 kV8 dc8 pm8 cd8 ct8 : Value}
  (a8 : PySem.W.nsIn K mainGlobals "led_from" = some (some (.ref f8))) (l8 : K.lookup f8 = some ⟨oc8, od8, .func (PySem.W.fnOf "led_from" "led_from" (defArgs s_led_from) (defBody s_led_from) (defScope s_led_from) .none kV8 dc8 pm8 an8 cd8 ct8), sl8⟩) (e8 : PySem.W.codeIn K cd8 "led_from" = true) (k8 : PySem.W.keepIn K (.ref f8) = true)
  {f9 : Addr} {od9 an9 : Option Addr} {sl9 : Array (Option Value)} {oc9 kV9 dc9 pm9 cd9 ct9 : Value}
  (a9 : PySem.W.nsIn K mainGlobals "too_many" = some (some (.ref f9))) (l9 : K.lookup f9 = some ⟨oc9, od9, .func (PySem.W.fnOf "too_many" "too_many" (defArgs s_too_many) (defBody s_too_many) (defScope s_too_many) .none kV9 dc9 pm9 an9 cd9 ct9), sl9⟩) (e9 : PySem.W.codeIn K cd9 "too_many" = true) (k9 : PySem.W.keepIn K (.ref f9) = true)
  {f10 : Addr} {od10 an10 : Option Addr} {sl10 : Array (Option Value)} {oc10 kV10 dc10 pm10 cd10 ct10 : Value}
  (a10 : PySem.W.nsIn K mainGlobals "nearest_turning" = some (some (.ref f10))) (l10 : K.lookup f10 = some ⟨oc10, od10, .func (PySem.W.fnOf "nearest_turning" "nearest_turning" (defArgs s_nearest_turning) (defBody s_nearest_turning) (defScope s_nearest_turning) .none kV10 dc10 pm10 an10 cd10 ct10), sl10⟩) (e10 : PySem.W.codeIn K cd10 "nearest_turning" = true) (k10 : PySem.W.keepIn K (.ref f10) = true)
  {f11 : Addr} {od11 an11 : Option Addr} {sl11 : Array (Option Value)} {oc11 kV11 dc11 pm11 cd11 ct11 : Value}
  (a11 : PySem.W.nsIn K mainGlobals "outs_paper" = some (some (.ref f11))) (l11 : K.lookup f11 = some ⟨oc11, od11, .func (PySem.W.fnOf "outs_paper" "outs_paper" (defArgs s_outs_paper) (defBody s_outs_paper) (defScope s_outs_paper) .none kV11 dc11 pm11 an11 cd11 ct11), sl11⟩) (e11 : PySem.W.codeIn K cd11 "outs_paper" = true) (k11 : PySem.W.keepIn K (.ref f11) = true)
  {f12 : Addr} {od12 an12 : Option Addr} {sl12 : Array (Option Value)} {oc12 kV12 dc12 pm12 cd12 ct12 : Value}
  (a12 : PySem.W.nsIn K mainGlobals "turning_with" = some (some (.ref f12))) (l12 : K.lookup f12 = some ⟨oc12, od12, .func (PySem.W.fnOf "turning_with" "turning_with" (defArgs s_turning_with) (defBody s_turning_with) (defScope s_turning_with) .none kV12 dc12 pm12 an12 cd12 ct12), sl12⟩) (e12 : PySem.W.codeIn K cd12 "turning_with" = true) (k12 : PySem.W.keepIn K (.ref f12) = true)
  {f13 : Addr} {od13 an13 : Option Addr} {sl13 : Array (Option Value)} {oc13 kV13 dc13 pm13 cd13 ct13 : Value}
  (a13 : PySem.W.nsIn K mainGlobals "is_crossing_lot" = some (some (.ref f13))) (l13 : K.lookup f13 = some ⟨oc13, od13, .func (PySem.W.fnOf "is_crossing_lot" "is_crossing_lot" (defArgs s_is_crossing_lot) (defBody s_is_crossing_lot) (defScope s_is_crossing_lot) .none kV13 dc13 pm13 an13 cd13 ct13), sl13⟩) (e13 : PySem.W.codeIn K cd13 "is_crossing_lot" = true) (k13 : PySem.W.keepIn K (.ref f13) = true)
  {f14 : Addr} {od14 an14 : Option Addr} {sl14 : Array (Option Value)} {oc14 kV14 dc14 pm14 cd14 ct14 : Value}
  (a14 : PySem.W.nsIn K mainGlobals "is_outs_form" = some (some (.ref f14))) (l14 : K.lookup f14 = some ⟨oc14, od14, .func (PySem.W.fnOf "is_outs_form" "is_outs_form" (defArgs s_is_outs_form) (defBody s_is_outs_form) (defScope s_is_outs_form) .none kV14 dc14 pm14 an14 cd14 ct14), sl14⟩) (e14 : PySem.W.codeIn K cd14 "is_outs_form" = true) (k14 : PySem.W.keepIn K (.ref f14) = true)
  {f15 : Addr} {od15 an15 : Option Addr} {sl15 : Array (Option Value)} {oc15 kV15 dc15 pm15 cd15 ct15 : Value}
  (a15 : PySem.W.nsIn K mainGlobals "judge_outs" = some (some (.ref f15))) (l15 : K.lookup f15 = some ⟨oc15, od15, .func (PySem.W.fnOf "judge_outs" "judge_outs" (defArgs s_judge_outs) (defBody s_judge_outs) (defScope s_judge_outs) .none kV15 dc15 pm15 an15 cd15 ct15), sl15⟩) (e15 : PySem.W.codeIn K cd15 "judge_outs" = true) (k15 : PySem.W.keepIn K (.ref f15) = true)
  {f16 : Addr} {od16 an16 : Option Addr} {sl16 : Array (Option Value)} {oc16 kV16 dc16 pm16 cd16 ct16 : Value}
  (a16 : PySem.W.nsIn K mainGlobals "is_tight" = some (some (.ref f16))) (l16 : K.lookup f16 = some ⟨oc16, od16, .func (PySem.W.fnOf "is_tight" "is_tight" (defArgs s_is_tight) (defBody s_is_tight) (defScope s_is_tight) .none kV16 dc16 pm16 an16 cd16 ct16), sl16⟩) (e16 : PySem.W.codeIn K cd16 "is_tight" = true) (k16 : PySem.W.keepIn K (.ref f16) = true)
  {f17 : Addr} {od17 an17 : Option Addr} {sl17 : Array (Option Value)} {oc17 kV17 dc17 pm17 cd17 ct17 : Value}
  (a17 : PySem.W.nsIn K mainGlobals "parts_of" = some (some (.ref f17))) (l17 : K.lookup f17 = some ⟨oc17, od17, .func (PySem.W.fnOf "parts_of" "parts_of" (defArgs s_parts_of) (defBody s_parts_of) (defScope s_parts_of) .none kV17 dc17 pm17 an17 cd17 ct17), sl17⟩) (e17 : PySem.W.codeIn K cd17 "parts_of" = true) (k17 : PySem.W.keepIn K (.ref f17) = true)
  {f18 : Addr} {od18 an18 : Option Addr} {sl18 : Array (Option Value)} {oc18 kV18 dc18 pm18 cd18 ct18 : Value}
  (a18 : PySem.W.nsIn K mainGlobals "stiff_roads" = some (some (.ref f18))) (l18 : K.lookup f18 = some ⟨oc18, od18, .func (PySem.W.fnOf "stiff_roads" "stiff_roads" (defArgs s_stiff_roads) (defBody s_stiff_roads) (defScope s_stiff_roads) .none kV18 dc18 pm18 an18 cd18 ct18), sl18⟩) (e18 : PySem.W.codeIn K cd18 "stiff_roads" = true) (k18 : PySem.W.keepIn K (.ref f18) = true)
  {f19 : Addr} {od19 an19 : Option Addr} {sl19 : Array (Option Value)} {oc19 kV19 dc19 pm19 cd19 ct19 : Value}
  (a19 : PySem.W.nsIn K mainGlobals "from_least" = some (some (.ref f19))) (l19 : K.lookup f19 = some ⟨oc19, od19, .func (PySem.W.fnOf "from_least" "from_least" (defArgs s_from_least) (defBody s_from_least) (defScope s_from_least) .none kV19 dc19 pm19 an19 cd19 ct19), sl19⟩) (e19 : PySem.W.codeIn K cd19 "from_least" = true) (k19 : PySem.W.keepIn K (.ref f19) = true)
  {f20 : Addr} {od20 an20 : Option Addr} {sl20 : Array (Option Value)} {oc20 kV20 dc20 pm20 cd20 ct20 : Value}
  (a20 : PySem.W.nsIn K mainGlobals "ring_with" = some (some (.ref f20))) (l20 : K.lookup f20 = some ⟨oc20, od20, .func (PySem.W.fnOf "ring_with" "ring_with" (defArgs s_ring_with) (defBody s_ring_with) (defScope s_ring_with) .none kV20 dc20 pm20 an20 cd20 ct20), sl20⟩) (e20 : PySem.W.codeIn K cd20 "ring_with" = true) (k20 : PySem.W.keepIn K (.ref f20) = true)
  {f21 : Addr} {od21 an21 : Option Addr} {sl21 : Array (Option Value)} {oc21 kV21 dc21 pm21 cd21 ct21 : Value}
  (a21 : PySem.W.nsIn K mainGlobals "is_turning_ring" = some (some (.ref f21))) (l21 : K.lookup f21 = some ⟨oc21, od21, .func (PySem.W.fnOf "is_turning_ring" "is_turning_ring" (defArgs s_is_turning_ring) (defBody s_is_turning_ring) (defScope s_is_turning_ring) .none kV21 dc21 pm21 an21 cd21 ct21), sl21⟩) (e21 : PySem.W.codeIn K cd21 "is_turning_ring" = true) (k21 : PySem.W.keepIn K (.ref f21) = true)
  {f22 : Addr} {od22 an22 : Option Addr} {sl22 : Array (Option Value)} {oc22 kV22 dc22 pm22 cd22 ct22 : Value}
  (a22 : PySem.W.nsIn K mainGlobals "ring_within" = some (some (.ref f22))) (l22 : K.lookup f22 = some ⟨oc22, od22, .func (PySem.W.fnOf "ring_within" "ring_within" (defArgs s_ring_within) (defBody s_ring_within) (defScope s_ring_within) .none kV22 dc22 pm22 an22 cd22 ct22), sl22⟩) (e22 : PySem.W.codeIn K cd22 "ring_within" = true) (k22 : PySem.W.keepIn K (.ref f22) = true)
  {f23 : Addr} {od23 an23 : Option Addr} {sl23 : Array (Option Value)} {oc23 kV23 dc23 pm23 cd23 ct23 : Value}
  (a23 : PySem.W.nsIn K mainGlobals "rings_turned" = some (some (.ref f23))) (l23 : K.lookup f23 = some ⟨oc23, od23, .func (PySem.W.fnOf "rings_turned" "rings_turned" (defArgs s_rings_turned) (defBody s_rings_turned) (defScope s_rings_turned) .none kV23 dc23 pm23 an23 cd23 ct23), sl23⟩) (e23 : PySem.W.codeIn K cd23 "rings_turned" = true) (k23 : PySem.W.keepIn K (.ref f23) = true)
  {f24 : Addr} {od24 an24 : Option Addr} {sl24 : Array (Option Value)} {oc24 kV24 dc24 pm24 cd24 ct24 : Value}
  (a24 : PySem.W.nsIn K mainGlobals "stiff_paper" = some (some (.ref f24))) (l24 : K.lookup f24 = some ⟨oc24, od24, .func (PySem.W.fnOf "stiff_paper" "stiff_paper" (defArgs s_stiff_paper) (defBody s_stiff_paper) (defScope s_stiff_paper) .none kV24 dc24 pm24 an24 cd24 ct24), sl24⟩) (e24 : PySem.W.codeIn K cd24 "stiff_paper" = true) (k24 : PySem.W.keepIn K (.ref f24) = true)
  {f25 : Addr} {od25 an25 : Option Addr} {sl25 : Array (Option Value)} {oc25 kV25 dc25 pm25 cd25 ct25 : Value}
  (a25 : PySem.W.nsIn K mainGlobals "judge_stiff" = some (some (.ref f25))) (l25 : K.lookup f25 = some ⟨oc25, od25, .func (PySem.W.fnOf "judge_stiff" "judge_stiff" (defArgs s_judge_stiff) (defBody s_judge_stiff) (defScope s_judge_stiff) .none kV25 dc25 pm25 an25 cd25 ct25), sl25⟩) (e25 : PySem.W.codeIn K cd25 "judge_stiff" = true) (k25 : PySem.W.keepIn K (.ref f25) = true)
  {f26 : Addr} {od26 an26 : Option Addr} {sl26 : Array (Option Value)} {oc26 kV26 dc26 pm26 cd26 ct26 : Value}
  (a26 : PySem.W.nsIn K mainGlobals "with_one" = some (some (.ref f26))) (l26 : K.lookup f26 = some ⟨oc26, od26, .func (PySem.W.fnOf "with_one" "with_one" (defArgs s_with_one) (defBody s_with_one) (defScope s_with_one) .none kV26 dc26 pm26 an26 cd26 ct26), sl26⟩) (e26 : PySem.W.codeIn K cd26 "with_one" = true) (k26 : PySem.W.keepIn K (.ref f26) = true)
  {f27 : Addr} {od27 an27 : Option Addr} {sl27 : Array (Option Value)} {oc27 kV27 dc27 pm27 cd27 ct27 : Value}
  (a27 : PySem.W.nsIn K mainGlobals "later_counts" = some (some (.ref f27))) (l27 : K.lookup f27 = some ⟨oc27, od27, .func (PySem.W.fnOf "later_counts" "later_counts" (defArgs s_later_counts) (defBody s_later_counts) (defScope s_later_counts) .none kV27 dc27 pm27 an27 cd27 ct27), sl27⟩) (e27 : PySem.W.codeIn K cd27 "later_counts" = true) (k27 : PySem.W.keepIn K (.ref f27) = true)
  {f28 : Addr} {od28 an28 : Option Addr} {sl28 : Array (Option Value)} {oc28 kV28 dc28 pm28 cd28 ct28 : Value}
  (a28 : PySem.W.nsIn K mainGlobals "outs_rows" = some (some (.ref f28))) (l28 : K.lookup f28 = some ⟨oc28, od28, .func (PySem.W.fnOf "outs_rows" "outs_rows" (defArgs s_outs_rows) (defBody s_outs_rows) (defScope s_outs_rows) .none kV28 dc28 pm28 an28 cd28 ct28), sl28⟩) (e28 : PySem.W.codeIn K cd28 "outs_rows" = true) (k28 : PySem.W.keepIn K (.ref f28) = true)
  {f29 : Addr} {od29 an29 : Option Addr} {sl29 : Array (Option Value)} {oc29 kV29 dc29 pm29 cd29 ct29 : Value}
  (a29 : PySem.W.nsIn K mainGlobals "turnings_count" = some (some (.ref f29))) (l29 : K.lookup f29 = some ⟨oc29, od29, .func (PySem.W.fnOf "turnings_count" "turnings_count" (defArgs s_turnings_count) (defBody s_turnings_count) (defScope s_turnings_count) .none kV29 dc29 pm29 an29 cd29 ct29), sl29⟩) (e29 : PySem.W.codeIn K cd29 "turnings_count" = true) (k29 : PySem.W.keepIn K (.ref f29) = true)
  {f30 : Addr} {od30 an30 : Option Addr} {sl30 : Array (Option Value)} {oc30 kV30 dc30 pm30 cd30 ct30 : Value}
  (a30 : PySem.W.nsIn K mainGlobals "all_turnings" = some (some (.ref f30))) (l30 : K.lookup f30 = some ⟨oc30, od30, .func (PySem.W.fnOf "all_turnings" "all_turnings" (defArgs s_all_turnings) (defBody s_all_turnings) (defScope s_all_turnings) .none kV30 dc30 pm30 an30 cd30 ct30), sl30⟩) (e30 : PySem.W.codeIn K cd30 "all_turnings" = true) (k30 : PySem.W.keepIn K (.ref f30) = true)
  {f31 : Addr} {od31 an31 : Option Addr} {sl31 : Array (Option Value)} {oc31 kV31 dc31 pm31 cd31 ct31 : Value}
  (a31 : PySem.W.nsIn K mainGlobals "_law_pick" = some (some (.ref f31))) (l31 : K.lookup f31 = some ⟨oc31, od31, .func (PySem.W.fnOf "_law_pick" "_law_pick" (defArgs s__law_pick) (defBody s__law_pick) (defScope s__law_pick) .none kV31 dc31 pm31 an31 cd31 ct31), sl31⟩) (e31 : PySem.W.codeIn K cd31 "_law_pick" = true) (k31 : PySem.W.keepIn K (.ref f31) = true)
  {f32 : Addr} {od32 an32 : Option Addr} {sl32 : Array (Option Value)} {oc32 kV32 dc32 pm32 cd32 ct32 : Value}
  (a32 : PySem.W.nsIn K mainGlobals "_law_of" = some (some (.ref f32))) (l32 : K.lookup f32 = some ⟨oc32, od32, .func (PySem.W.fnOf "_law_of" "_law_of" (defArgs s__law_of) (defBody s__law_of) (defScope s__law_of) .none kV32 dc32 pm32 an32 cd32 ct32), sl32⟩) (e32 : PySem.W.codeIn K cd32 "_law_of" = true) (k32 : PySem.W.keepIn K (.ref f32) = true)
  {f33 : Addr} {od33 an33 : Option Addr} {sl33 : Array (Option Value)} {oc33 kV33 dc33 pm33 cd33 ct33 : Value}
  (a33 : PySem.W.nsIn K mainGlobals "_law_frame" = some (some (.ref f33))) (l33 : K.lookup f33 = some ⟨oc33, od33, .func (PySem.W.fnOf "_law_frame" "_law_frame" (defArgs s__law_frame) (defBody s__law_frame) (defScope s__law_frame) .none kV33 dc33 pm33 an33 cd33 ct33), sl33⟩) (e33 : PySem.W.codeIn K cd33 "_law_frame" = true) (k33 : PySem.W.keepIn K (.ref f33) = true)
  {f34 : Addr} {od34 an34 : Option Addr} {sl34 : Array (Option Value)} {oc34 kV34 dc34 pm34 cd34 ct34 : Value}
  (a34 : PySem.W.nsIn K mainGlobals "_law_marks" = some (some (.ref f34))) (l34 : K.lookup f34 = some ⟨oc34, od34, .func (PySem.W.fnOf "_law_marks" "_law_marks" (defArgs s__law_marks) (defBody s__law_marks) (defScope s__law_marks) .none kV34 dc34 pm34 an34 cd34 ct34), sl34⟩) (e34 : PySem.W.codeIn K cd34 "_law_marks" = true) (k34 : PySem.W.keepIn K (.ref f34) = true)
  {f35 : Addr} {od35 an35 : Option Addr} {sl35 : Array (Option Value)} {oc35 kV35 dc35 pm35 cd35 ct35 : Value}
  (a35 : PySem.W.nsIn K mainGlobals "_law_outs" = some (some (.ref f35))) (l35 : K.lookup f35 = some ⟨oc35, od35, .func (PySem.W.fnOf "_law_outs" "_law_outs" (defArgs s__law_outs) (defBody s__law_outs) (defScope s__law_outs) .none kV35 dc35 pm35 an35 cd35 ct35), sl35⟩) (e35 : PySem.W.codeIn K cd35 "_law_outs" = true) (k35 : PySem.W.keepIn K (.ref f35) = true)
  {f36 : Addr} {od36 an36 : Option Addr} {sl36 : Array (Option Value)} {oc36 kV36 dc36 pm36 cd36 ct36 : Value}
  (a36 : PySem.W.nsIn K mainGlobals "law" = some (some (.ref f36))) (l36 : K.lookup f36 = some ⟨oc36, od36, .func (PySem.W.fnOf "law" "law" (defArgs s_law) (defBody s_law) (defScope s_law) .none kV36 dc36 pm36 an36 cd36 ct36), sl36⟩) (e36 : PySem.W.codeIn K cd36 "law" = true) (k36 : PySem.W.keepIn K (.ref f36) = true)
  {f37 : Addr} {od37 an37 : Option Addr} {sl37 : Array (Option Value)} {oc37 kV37 dc37 pm37 cd37 ct37 : Value}
  (a37 : PySem.W.nsIn K mainGlobals "_law_source" = some (some (.ref f37))) (l37 : K.lookup f37 = some ⟨oc37, od37, .func (PySem.W.fnOf "_law_source" "_law_source" (defArgs sSrc) (defBody sSrc) (defScope sSrc) .none kV37 dc37 pm37 an37 cd37 ct37), sl37⟩) (e37 : PySem.W.codeIn K cd37 "_law_source" = true) (k37 : PySem.W.keepIn K (.ref f37) = true)
  {t0 : Tok} (n0 : PySem.W.nsIn K mainGlobals "MOST_ROWS" = some (some (.int 8000 t0)))
  {t1 : Tok} (n1 : PySem.W.nsIn K mainGlobals "MOST_TURNINGS" = some (some (.int 2000 t1)))
  (z0 : PySem.W.nsIn K mainGlobals "len" = some none)
  (z1 : PySem.W.nsIn K mainGlobals "sorted" = some none)
  (z2 : PySem.W.nsIn K mainGlobals "tuple" = some none)
  (z3 : PySem.W.nsIn K mainGlobals "sum" = some none)
  (z4 : PySem.W.nsIn K mainGlobals "min" = some none)
  (z5 : PySem.W.nsIn K mainGlobals "max" = some none)
  (z6 : PySem.W.nsIn K mainGlobals "all" = some none)
  (z7 : PySem.W.nsIn K mainGlobals "abs" = some none)
  (z8 : PySem.W.nsIn K mainGlobals "int" = some none)
  (z9 : PySem.W.nsIn K mainGlobals "bool" = some none)
  (z10 : PySem.W.nsIn K mainGlobals "str" = some none)
  (z11 : PySem.W.nsIn K mainGlobals "set" = some none)
  (z12 : PySem.W.nsIn K mainGlobals "list" = some none)
  (z13 : PySem.W.nsIn K mainGlobals "repr" = some none)
  (z14 : PySem.W.nsIn K mainGlobals "range" = some none)
  (z15 : PySem.W.nsIn K mainGlobals "enumerate" = some none)
  (z16 : PySem.W.nsIn K mainGlobals "reversed" = some none)
  (z17 : PySem.W.nsIn K mainGlobals "isinstance" = some none) :
    ∃ fd : FuncData, (∀ (s : Shared) (v : Value), BindsTo s fd ⟨[v], []⟩ [("script", v)]) ∧ ∀ base : Heap, K.In base → base.Ns mainGlobals mg → RunC P w K mg base fa fd ["script"] (spLaw K K96.f_law 18) := by
  have e := hfa.symm.trans (PySem.W.mg_of X G a36)
  cases e
  refine ⟨PySem.W.fnOf "law" "law" (defArgs s_law) (defBody s_law) (defScope s_law) .none kV36 dc36 pm36 an36 cd36 ct36, fun s v => .of_eq rfl, fun base _ _ => ?_⟩
  have bl : Bl mg := ⟨PySem.W.mg_none_of X G z0, PySem.W.mg_none_of X G z1, PySem.W.mg_none_of X G z2, PySem.W.mg_none_of X G z3, PySem.W.mg_none_of X G z4, PySem.W.mg_none_of X G z5, PySem.W.mg_none_of X G z6, PySem.W.mg_none_of X G z7, PySem.W.mg_none_of X G z8, PySem.W.mg_none_of X G z9, PySem.W.mg_none_of X G z10, PySem.W.mg_none_of X G z11, PySem.W.mg_none_of X G z12, PySem.W.mg_none_of X G z13, PySem.W.mg_none_of X G z14, PySem.W.mg_none_of X G z15, PySem.W.mg_none_of X G z16, PySem.W.mg_none_of X G z17⟩
  exact all_ok bl (PySem.W.mg_of X G n0) (PySem.W.mg_of X G n1) (fun_mk (st := sSrc) l37 e37 k37) (PySem.W.mg_of X G a37) (fun_mk (st := s_is_turning) l0 e0 k0) (PySem.W.mg_of X G a0) (fun_mk (st := s_tail_of) l1 e1 k1) (PySem.W.mg_of X G a1) (fun_mk (st := s_head_of) l2 e2 k2) (PySem.W.mg_of X G a2) (fun_mk (st := s_outs_of) l3 e3 k3) (PySem.W.mg_of X G a3) (fun_mk (st := s_turned_roads) l4 e4 k4) (PySem.W.mg_of X G a4) (fun_mk (st := s_roads_within) l5 e5 k5) (PySem.W.mg_of X G a5) (fun_mk (st := s_outs_at) l6 e6 k6) (PySem.W.mg_of X G a6) (fun_mk (st := s_ways_from) l7 e7 k7) (PySem.W.mg_of X G a7) (fun_mk (st := s_led_from) l8 e8 k8) (PySem.W.mg_of X G a8) (fun_mk (st := s_too_many) l9 e9 k9) (PySem.W.mg_of X G a9) (fun_mk (st := s_nearest_turning) l10 e10 k10) (PySem.W.mg_of X G a10) (fun_mk (st := s_outs_paper) l11 e11 k11) (PySem.W.mg_of X G a11) (fun_mk (st := s_turning_with) l12 e12 k12) (PySem.W.mg_of X G a12) (fun_mk (st := s_is_crossing_lot) l13 e13 k13) (PySem.W.mg_of X G a13) (fun_mk (st := s_is_outs_form) l14 e14 k14) (PySem.W.mg_of X G a14) (fun_mk (st := s_judge_outs) l15 e15 k15) (PySem.W.mg_of X G a15) (fun_mk (st := s_is_tight) l16 e16 k16) (PySem.W.mg_of X G a16) (fun_mk (st := s_parts_of) l17 e17 k17) (PySem.W.mg_of X G a17) (fun_mk (st := s_stiff_roads) l18 e18 k18) (PySem.W.mg_of X G a18) (fun_mk (st := s_from_least) l19 e19 k19) (PySem.W.mg_of X G a19) (fun_mk (st := s_ring_with) l20 e20 k20) (PySem.W.mg_of X G a20) (fun_mk (st := s_is_turning_ring) l21 e21 k21) (PySem.W.mg_of X G a21) (fun_mk (st := s_ring_within) l22 e22 k22) (PySem.W.mg_of X G a22) (fun_mk (st := s_rings_turned) l23 e23 k23) (PySem.W.mg_of X G a23) (fun_mk (st := s_stiff_paper) l24 e24 k24) (PySem.W.mg_of X G a24) (fun_mk (st := s_judge_stiff) l25 e25 k25) (PySem.W.mg_of X G a25) (fun_mk (st := s_with_one) l26 e26 k26) (PySem.W.mg_of X G a26) (fun_mk (st := s_later_counts) l27 e27 k27) (PySem.W.mg_of X G a27) (fun_mk (st := s_outs_rows) l28 e28 k28) (PySem.W.mg_of X G a28) (fun_mk (st := s_turnings_count) l29 e29 k29) (PySem.W.mg_of X G a29) (fun_mk (st := s_all_turnings) l30 e30 k30) (PySem.W.mg_of X G a30) (fun_mk (st := s__law_pick) l31 e31 k31) (PySem.W.mg_of X G a31) (fun_mk (st := s__law_of) l32 e32 k32) (PySem.W.mg_of X G a32) (fun_mk (st := s__law_frame) l33 e33 k33) (PySem.W.mg_of X G a33) (fun_mk (st := s__law_marks) l34 e34 k34) (PySem.W.mg_of X G a34) (fun_mk (st := s__law_outs) l35 e35 k35) (PySem.W.mg_of X G a35) (fun_mk (st := s_law) l36 e36 k36)
end
end K96
end

section
set_option Elab.async false
set_option linter.all false
set_option maxRecDepth 100000
set_option maxHeartbeats 4000000
/-! the functions on cells, computed -/
namespace Pl
open PySem PySem.Spec PyProof.Rows L2
@[simp] theorem itemW_tup (ds : List D) (i : Int) : itemW (.im (.tup ds)) i = (atI ds i).map W.im := rfl
@[simp] theorem itemW_new (ms : List M) (i : Int) : itemW (.new (.lst ms)) i = (atI ms i).map ofNew := rfl
@[simp] theorem itemW_sl (j : Nat) (ms : List M) (i : Int) : itemW (.sl j (.lst ms)) i = (atI ms i).map (ofIx (W.sl j)) := rfl
theorem atI_nat2 {α : Type} {xs : List α} {j : Nat} {v : α} (h : xs[j]? = some v) : atI xs (j : Int) = some v := atI_nat h
theorem atI_lt {α : Type} {xs : List α} {j : Nat} (h : j < xs.length) : atI xs (j : Int) = some xs[j] := atI_nat (List.getElem?_eq_getElem h)
@[simp] theorem atI_zero {α : Type} (x : α) (xs : List α) : atI (x :: xs) 0 = some x := atI_nat (j := 0) rfl
@[simp] theorem atI_one {α : Type} (x y : α) (xs : List α) : atI (x :: y :: xs) 1 = some y := atI_nat (j := 1) rfl
section
variable {S : Type}
/-- a comprehension that leaves the state -/
theorem lc_all {α : Type} {fg : D → Rho → Option Rho} {ft : Fn S Bool} {fe : Fn S W} {ρ : Rho} {s : S} (e : α → D) (p : α → Bool) (g : α → M) : ∀ (xs : List α), (∀ x ∈ xs, ∃ ρ1, fg (e x) ρ = some ρ1 ∧ ft ρ1 s = some (p x, s) ∧ (p x = true → ∃ w, fe ρ1 s = some (w, s) ∧ sto w = some (g x))) →
    lcL fg ft fe ρ (xs.map e) s = some ((xs.filter p).map g, s)
  | [], _ => rfl
  | x :: xs, h => by
    obtain ⟨ρ1, h1, h2, h3⟩ := h x List.mem_cons_self
    have ih := lc_all e p g xs fun y hy => h y (List.mem_cons_of_mem _ hy)
    rw [List.map_cons, lcL, h1]
    simp only [h2, bnd_some]
    cases c : p x with
    | true =>
      obtain ⟨w, h4, h5⟩ := h3 c
      simp [h4, h5, ih, c]
    | false => simp [ih, c]
/-- a for loop: the cells after i items are R i -/
theorem for_all {α : Type} {fg : D → Rho → Option Rho} {f : Fn S Out} {s : S} (e : α → D) (R : Nat → Rho) : ∀ (xs : List α) (i : Nat), (∀ j x, xs[j]? = some x → ∃ ρ1, fg (e x) (R (i + j)) = some ρ1 ∧ (f ρ1 s = some (.nx (R (i + j + 1)), s) ∨ f ρ1 s = some (.ct (R (i + j + 1)), s))) →
    forL fg f (xs.map e) (R i) s = some (.nx (R (i + xs.length)), s)
  | [], i, _ => rfl
  | x :: xs, i, h => by
    obtain ⟨ρ1, h1, h2⟩ := h 0 x rfl
    have ih := for_all e R xs (i + 1) fun j y hy => by
      have q := h (j + 1) y (by simpa using hy)
      rw [show i + 1 + j = i + (j + 1) by omega]
      exact q
    rw [show i + 1 + xs.length = i + (xs.length + 1) by omega] at ih
    rw [List.map_cons, forL]
    simp only [Nat.add_zero] at h1 h2
    rw [h1]
    rcases h2 with h2 | h2 <;> simp [h2, ih]
theorem seq_nx {f g : Fn S Out} {ρ ρ1 : Rho} {s s1 : S} {r : Option (Out × S)} (h : f ρ s = some (.nx ρ1, s1)) (k : g ρ1 s1 = r) : fSeq f g ρ s = r := by
  unfold fSeq
  rw [h]
  exact k
theorem seq_rt {f g : Fn S Out} {ρ : Rho} {s s1 : S} {m : M} (h : f ρ s = some (.rt m, s1)) : fSeq f g ρ s = some (.rt m, s1) := by
  unfold fSeq
  rw [h]
  rfl
@[simp] theorem szOk_0 : szOk 0 = true := rfl
@[simp] theorem szOk_1 : szOk 1 = true := rfl
@[simp] theorem szOk_2 : szOk 2 = true := rfl
theorem szOk_small {n : Nat} (h : n ≤ 1000) : szOk n = true := decide_eq_true (Nat.le_trans h (by decide))
theorem smI_small {i : Int} (h1 : -1000 ≤ i) (h2 : i ≤ 1000) : smI i = true := by
  unfold smI
  simp
  omega
theorem allIm_ints (xs : List Int) : allIm (xs.map fun x => M.im (.int x)) = some (xs.map D.int) := by
  have q := allIm_ims (xs.map D.int)
  rw [List.map_map] at q
  exact q
end
end Pl
end

section
set_option Elab.async false
set_option linter.all false
set_option maxRecDepth 100000
set_option maxHeartbeats 4000000
/-! the functions on cells, computed: unfolding rules for simp, loops by what is done -/
namespace Pl
open PySem PySem.Spec PyProof.Rows L2
section
variable {S : Type} {α : Type}
@[simp] theorem bnd_s {S α β : Type} (a : α) (s : S) (k : α → S → Option (β × S)) : bnd (some (a, s)) k = k a s := rfl
@[simp] theorem lft_s {S α β : Type} (a : α) (s : S) (k : α → β) : lft (some a) s k = some (k a, s) := rfl
@[simp] theorem fVar_ev (i : Nat) (ρ : Rho) (s : S) : fVar i ρ s = lft (ofCel i (cel ρ i)) s id := rfl
@[simp] theorem fC_ev (d : D) (ρ : Rho) (s : S) : fC d ρ s = some (.im d, s) := rfl
@[simp] theorem fNil_ev (ρ : Rho) (s : S) : (fNil : Fn S (List W)) ρ s = some ([], s) := rfl
@[simp] theorem fCons_ev (f : Fn S W) (fs : Fn S (List W)) (ρ : Rho) (s : S) : fCons f fs ρ s = bnd (f ρ s) fun w s1 => bnd (fs ρ s1) fun ws s2 => some (w :: ws, s2) := rfl
@[simp] theorem fTup_ev (fs : Fn S (List W)) (ρ : Rho) (s : S) : fTup fs ρ s = bnd (fs ρ s) fun ws s1 => if szOk ws.length then lft (stos ws) s1 fun ms => ofM (tupM ms) else none := rfl
@[simp] theorem fLst_ev (fs : Fn S (List W)) (ρ : Rho) (s : S) : fLst fs ρ s = bnd (fs ρ s) fun ws s1 => if szOk ws.length then lft (stos ws) s1 fun ms => .new (.lst ms) else none := rfl
@[simp] theorem fOp_ev (o : W → W → Option D) (fa fb : Fn S W) (ρ : Rho) (s : S) : fOp o fa fb ρ s = bnd (fa ρ s) fun x s1 => bnd (fb ρ s1) fun y s2 => lft (o x y) s2 W.im := rfl
@[simp] theorem fTest_ev (f : Fn S W) (ρ : Rho) (s : S) : fTest f ρ s = bnd (f ρ s) fun w s1 => lft (asB w) s1 id := rfl
@[simp] theorem fAnd_ev (ft fu : Fn S Bool) (ρ : Rho) (s : S) : fAnd ft fu ρ s = bnd (ft ρ s) fun b s1 => if b then fu ρ s1 else some (false, s1) := rfl
@[simp] theorem fOr_ev (ft fu : Fn S Bool) (ρ : Rho) (s : S) : fOr ft fu ρ s = bnd (ft ρ s) fun b s1 => if b then some (true, s1) else fu ρ s1 := rfl
@[simp] theorem fNot_ev (ft : Fn S Bool) (ρ : Rho) (s : S) : fNot ft ρ s = bnd (ft ρ s) fun b s1 => some (!b, s1) := rfl
@[simp] theorem fIf_ev (ft : Fn S Bool) (fa fb : Fn S W) (ρ : Rho) (s : S) : fIf ft fa fb ρ s = bnd (ft ρ s) fun b s1 => if b then fa ρ s1 else fb ρ s1 := rfl
@[simp] theorem fAndV_ev (fa fb : Fn S W) (ρ : Rho) (s : S) : fAndV fa fb ρ s = bnd (fa ρ s) fun x s1 => match asB x with
  | some true => fb ρ s1
  | some false => some (.im (.bl false), s1)
  | none => none := rfl
@[simp] theorem fNotV_ev (fa : Fn S W) (ρ : Rho) (s : S) : fNotV fa ρ s = bnd (fa ρ s) fun x s1 => lft (asB x) s1 fun b => .im (.bl (!b)) := rfl
@[simp] theorem fIx_ev (fa fb : Fn S W) (ρ : Rho) (s : S) : fIx fa fb ρ s = bnd (fa ρ s) fun x s1 => bnd (fb ρ s1) fun y s2 => match intW y with
  | some i => lft (itemW x i) s2 id
  | none => none := rfl
@[simp] theorem fCal_ev (o : List W → Option W) (fs : Fn S (List W)) (ρ : Rho) (s : S) : fCal o fs ρ s = bnd (fs ρ s) fun ws s1 => lft (o ws) s1 id := rfl
@[simp] theorem fIsi_ev (T : String) (f : Fn S W) (ρ : Rho) (s : S) : fIsi T f ρ s = bnd (f ρ s) fun x s1 => lft ((tyW x).bind fun t => kitB t T) s1 fun b => W.im (.bl b) := rfl
@[simp] theorem fMet_ev (o : W → W → Option D) (fa fb : Fn S W) (ρ : Rho) (s : S) : fMet o fa fb ρ s = bnd (fa ρ s) fun x s1 => if isLst x = true then bnd (fb ρ s1) fun y s2 => lft (o x y) s2 W.im else none := rfl
@[simp] theorem fTmt_ev (o : W → W → Option D) (fa fb : Fn S W) (ρ : Rho) (s : S) : fTmt o fa fb ρ s = bnd (fa ρ s) fun x s1 => if isPtp x = true then bnd (fb ρ s1) fun y s2 => lft (o x y) s2 W.im else none := rfl
@[simp] theorem fTupP_ev (fs : Fn S (List W)) (ρ : Rho) (s : S) : fTupP fs ρ s = bnd (fs ρ s) fun ws s1 => if szOk ws.length then lft ((stos ws).bind ptpM) s1 W.im else none := rfl
@[simp] theorem fStar_ev (f : Fn S W) (fs : Fn S (List W)) (ρ : Rho) (s : S) : fStar f fs ρ s = bnd (f ρ s) fun w s1 => bnd (fs ρ s1) fun ws s2 => lft (seqD w) s2 fun ds => ds.map W.im ++ ws := rfl
@[simp] theorem fPart_ev (f : Fn S W) (ρ : Rho) (s : S) : fPart f ρ s = bnd (f ρ s) fun w s1 => lft (intW w) s1 some := rfl
@[simp] theorem fSlice_ev (f : Fn S W) (fl fh : FO S) (ρ : Rho) (s : S) : fSlice f fl fh ρ s = bnd (f ρ s) fun w s1 => bnd (fl ρ s1) fun l s2 => bnd (fh ρ s2) fun u s3 => lft (sliceW w l u) s3 (fun z => z) := rfl
@[simp] theorem fNx_ev (ρ : Rho) (s : S) : (fNx : Fn S Out) ρ s = some (.nx ρ, s) := rfl
@[simp] theorem fSeq_ev (f g : Fn S Out) (ρ : Rho) (s : S) : fSeq f g ρ s = bnd (f ρ s) fun o s1 => match o with
  | .nx ρ' => g ρ' s1
  | o => some (o, s1) := rfl
@[simp] theorem fRet_none (fe : Fn S W) (ρ : Rho) (s : S) : fRet none fe ρ s = bnd (fe ρ s) fun w s1 => match w with
    | .im d => some (.rt (.im d), s1)
    | .new m => some (.rt m, s1)
    | _ => none := rfl
@[simp] theorem fRet_some (i : Nat) (fe : Fn S W) (ρ : Rho) (s : S) : fRet (some i) fe ρ s = match cel ρ i with
    | .im d => some (.rt (.im d), s)
    | .own m => some (.rt m, s)
    | .frz true (.lst ms) => some (.rt (.lst ms), s)
    | .frz true (.mtp ms) => some (.rt (.mtp ms), s)
    | _ => none := rfl
@[simp] theorem fIfS_ev (fc : Fn S Bool) (f f' : Fn S Out) (ρ : Rho) (s : S) : fIfS fc f f' ρ s = bnd (fc ρ s) fun b s1 => if b then f ρ s1 else f' ρ s1 := rfl
@[simp] theorem fSet_ev (i : Nat) (fe : Fn S W) (ρ : Rho) (s : S) : fSet i fe ρ s = bnd (fe ρ s) fun w s1 => if i < ρ.length then lft (cellOf ρ w) s1 fun c => .nx (ρ.set i c) else none := rfl
@[simp] theorem fMv_ev (i j : Nat) (ρ : Rho) (s : S) : fMv i j ρ s = if i < ρ.length then lft (mvC ρ i j) s Out.nx else none := rfl
@[simp] theorem fPar2_ev (i j : Nat) (fa : Fn S (List W)) (ρ : Rho) (s : S) : fPar2 i j fa ρ s = bnd (fa ρ s) fun ws s1 => lft (st2 ρ i j ws) s1 Out.nx := rfl
@[simp] theorem fPar3_ev (i j l : Nat) (fa : Fn S (List W)) (ρ : Rho) (s : S) : fPar3 i j l fa ρ s = bnd (fa ρ s) fun ws s1 => lft (st3 ρ i j l ws) s1 Out.nx := rfl
@[simp] theorem fTup2_ev (i j : Nat) (fa : Fn S (List W)) (ρ : Rho) (s : S) : fTup2 i j fa ρ s = bnd (fa ρ s) fun ws s1 => if szOk ws.length = true then lft (st2 ρ i j ws) s1 Out.nx else none := rfl
@[simp] theorem fTup3_ev (i j l : Nat) (fa : Fn S (List W)) (ρ : Rho) (s : S) : fTup3 i j l fa ρ s = bnd (fa ρ s) fun ws s1 => if szOk ws.length = true then lft (st3 ρ i j l ws) s1 Out.nx else none := rfl
@[simp] theorem fParM_ev (i j n : Nat) (fe : Fn S W) (ρ : Rho) (s : S) : fParM i j n fe ρ s = bnd (fe ρ s) fun w s1 => lft (stM ρ i j n w) s1 Out.nx := rfl
@[simp] theorem fApp_ev (i : Nat) (fe : Fn S W) (ρ : Rho) (s : S) : fApp i fe ρ s = bnd (fe ρ s) fun w s1 => match ownL ρ i, sto w with
  | some ms, some m => if szOk ms.length then some (.nx (ρ.set i (.own (.lst (ms ++ [m])))), s1) else none
  | _, _ => none := rfl
@[simp] theorem fPutL_ev (i : Nat) (fe fi : Fn S W) (ρ : Rho) (s : S) : fPutL i fe fi ρ s = bnd (fe ρ s) fun w s1 => bnd (fi ρ s1) fun y s2 => match w, intW y, ownD ρ i with
  | .im d, some n, some ds => match ixN ds.length n with
    | some j => some (.nx (ρ.set i (.own (.lst ((ds.set j d).map M.im)))), s2)
    | none => none
  | _, _, _ => none := rfl
@[simp] theorem fAugL_ev (i : Nat) (fi fe : Fn S W) (ρ : Rho) (s : S) : fAugL i fi fe ρ s = bnd (fi ρ s) fun y s1 => bnd (fe ρ s1) fun w s2 => match intW y, intW w, ownD ρ i with
  | some n, some z, some ds => match ds[n.toNat]? with
    | some (.int o) => if 0 ≤ n then some (.nx (ρ.set i (.own (.lst ((ds.set n.toNat (.int (o + z))).map M.im)))), s2) else none
    | _ => none
  | _, _, _ => none := rfl
@[simp] theorem fUnp_ev (fg : D → Rho → Option Rho) (fe : Fn S W) (ρ : Rho) (s : S) : fUnp fg fe ρ s = bnd (fe ρ s) fun w s1 => match w with
  | .im d => lft (fg d ρ) s1 Out.nx
  | _ => none := rfl
@[simp] theorem gfN_ev (i : Nat) (d : D) (ρ : Rho) : gfN i d ρ = if i < ρ.length then some (ρ.set i (.im d)) else none := rfl
@[simp] theorem gfNil_ev (ρ : Rho) : gfNil [] ρ = some ρ := rfl
@[simp] theorem gfCons_ev (f : D → Rho → Option Rho) (fs : List D → Rho → Option Rho) (d : D) (ds : List D) (ρ : Rho) : gfCons f fs (d :: ds) ρ = (f d ρ).bind fun ρ1 => fs ds ρ1 := rfl
@[simp] theorem gfTup_ev (n : Nat) (fs : List D → Rho → Option Rho) (ds : List D) (ρ : Rho) : gfTup n fs (.tup ds) ρ = if ds.length = n then fs ds ρ else none := rfl
@[simp] theorem xList_ev (fe : Fn S W) (ρ : Rho) (s : S) : xList fe ρ s = bnd (fe ρ s) fun w s1 => if isLst w = true then lft (seqD w) s1 fun ds => (ds, slotW w) else none := rfl
@[simp] theorem xTup_ev (fe : Fn S W) (ρ : Rho) (s : S) : xTup fe ρ s = bnd (fe ρ s) fun w s1 => lft (tupD w) s1 fun ds => (ds, none) := rfl
@[simp] theorem xRevT_ev (fe : Fn S W) (ρ : Rho) (s : S) : xRevT fe ρ s = bnd (fe ρ s) fun w s1 => lft (tupD w) s1 fun ds => (ds.reverse, none) := rfl
@[simp] theorem xEnumT_ev (fa : Fn S (List W)) (ρ : Rho) (s : S) : xEnumT fa ρ s = bnd (fa ρ s) fun ws s1 => match ws with
  | [w] => lft (tupD w) s1 fun ds => (enumD 0 ds, none)
  | _ => none := rfl
@[simp] theorem xRng1_ev (fa : Fn S (List W)) (ρ : Rho) (s : S) : xRng1 fa ρ s = bnd (fa ρ s) fun ws s1 => match ws with
  | [.im (.int j)] => if smI j = true then some ((rngD 0 j.toNat, none), s1) else none
  | _ => none := rfl
@[simp] theorem fFor_ev (z : Option Nat) (fi : Ix S) (fg : D → Rho → Option Rho) (f : Fn S Out) (ρ : Rho) (s : S) : fFor z fi fg f ρ s = bnd (fi (frz1 z ρ) s) fun p s1 => if notOwn (frz1 z ρ) p.2 = true then forL fg f p.1 (frz1 z ρ) s1 else none := rfl
@[simp] theorem fLc_ev (fi : Ix S) (fg : D → Rho → Option Rho) (ft : Fn S Bool) (fe : Fn S W) (vs : List Nat) (ρ : Rho) (s : S) : fLc fi fg ft fe vs ρ s = bnd (fi ρ s) fun p s1 => if szOk p.1.length = true then bnd (lcL fg ft fe (wipeR ρ vs) p.1 s1) fun ms s2 => some (.new (.lst ms), s2) else none := rfl
@[simp] theorem fOpW_ev (o : W → W → Option W) (fa fb : Fn S W) (ρ : Rho) (s : S) : fOpW o fa fb ρ s = bnd (fa ρ s) fun x s1 => bnd (fb ρ s1) fun y s2 => lft (o x y) s2 fun w => w := rfl
@[simp] theorem fDIx_ev (fa fb : Fn S W) (ρ : Rho) (s : S) : fDIx fa fb ρ s = bnd (fa ρ s) fun x s1 => bnd (fb ρ s1) fun y s2 => lft (thereW (lookW x y)) s2 fun w => w := rfl
@[simp] theorem fDIn_ev (neg : Bool) (fb fa : Fn S W) (ρ : Rho) (s : S) : fDIn neg fb fa ρ s = bnd (fb ρ s) fun y s1 => bnd (fa ρ s1) fun x s2 => lft (lookW x y) s2 fun od => .im (.bl (if neg then !od.isSome else od.isSome)) := rfl
@[simp] theorem fDGt_ev (fa fb fe : Fn S W) (ρ : Rho) (s : S) : fDGt fa fb fe ρ s = bnd (fa ρ s) fun x s1 => bnd (fb ρ s1) fun y s2 => bnd (fe ρ s2) fun z s3 => match lookW x y, z with
  | some od, .im d => some (.im (od.getD d), s3)
  | _, _ => none := rfl
@[simp] theorem fDnT_ev (ρ : Rho) (s : S) : (fDnT : Fn S W) ρ s = some (.new (.dt []), s) := rfl
@[simp] theorem fDsK_ev (fk fv : Fn S W) (ρ : Rho) (s : S) : fDsK fk fv ρ s = bnd (fk ρ s) fun x s1 => bnd (fv ρ s1) fun y s2 => match (imW x).bind keyD, imW y with
  | some k, some d => some (.new (.dk [(k, .im d)]), s2)
  | _, _ => none := rfl
@[simp] theorem fDsT_ev (fk fv : Fn S W) (ρ : Rho) (s : S) : fDsT fk fv ρ s = bnd (fk ρ s) fun x s1 => bnd (fv ρ s1) fun y s2 => match (imW x).bind keyT, imW y with
  | some k, some d => some (.new (.dt [(k, .im d)]), s2)
  | _, _ => none := rfl
@[simp] theorem fPutD_ev (i : Nat) (fv fk : Fn S W) (ρ : Rho) (s : S) : fPutD i fv fk ρ s = bnd (fv ρ s) fun w s1 => bnd (fk ρ s1) fun y s2 => lft (putC (cel ρ i) y w) s2 fun c => .nx (ρ.set i c) := rfl
@[simp] theorem fConsMv_ev (i j : Nat) (ρ : Rho) (s : S) : fConsMv i j ρ s = lft (consC ρ i j) s Out.nx := rfl
@[simp] theorem fYes_ev (ρ : Rho) (s : S) : (fYes : Fn S Bool) ρ s = some (true, s) := rfl
@[simp] theorem fUn_ev (f : Fn S W) (ρ : Rho) (s : S) : fUn f ρ s = bnd (f ρ s) fun w s1 => lft (intW w) s1 fun i => .im (.int (-i)) := rfl
@[simp] theorem fCall_ev (np : Nat) (g : List M → Option M) (fs : Fn S (List W)) (ρ : Rho) (s : S) : fCall np g fs ρ s = bnd (fs ρ s) fun ws s1 => if ws.length = np then lft ((args ws).bind g) s1 ofM else none := rfl
@[simp] theorem fChain_ev (o o' : W → W → Option D) (fa fb fc : Fn S W) (ρ : Rho) (s : S) : fChain o o' fa fb fc ρ s = bnd (fa ρ s) fun x s1 => bnd (fb ρ s1) fun y s2 => match o x y with
  | some (.bl true) => bnd (fc ρ s2) fun z s3 => lft (o' y z) s3 W.im
  | some (.bl false) => some (.im (.bl false), s2)
  | _ => none := rfl
/-! values -/
@[simp] theorem cel_ev (ρ : Rho) (i : Nat) : cel ρ i = (ρ[i]?).getD .no := rfl
@[simp] theorem cellOf_tm (ρ : Rho) (m : M) : cellOf ρ (.tm m) = some (.frz true m) := rfl
@[simp] theorem cellOf_sl (ρ : Rho) (i : Nat) (m : M) : cellOf ρ (.sl i m) = match cel ρ i with
    | .frz l _ => some (.frz l m)
    | _ => none := rfl
@[simp] theorem sto_im (d : D) : sto (.im d) = some (.im d) := rfl
@[simp] theorem sto_new (m : M) : sto (.new m) = some m := rfl
@[simp] theorem args_nil' : args [] = some [] := rfl
@[simp] theorem imW_im (d : D) : imW (.im d) = some d := rfl
@[simp] theorem isLst_new (ms : List M) : isLst (.new (.lst ms)) = true := rfl
@[simp] theorem isLst_sl (i : Nat) (ms : List M) : isLst (.sl i (.lst ms)) = true := rfl
@[simp] theorem isLst_im (d : D) : isLst (.im d) = false := rfl
@[simp] theorem isPtp_ptp (ds : List D) : isPtp (.im (.ptp ds)) = true := rfl
@[simp] theorem isPtp_tup (ds : List D) : isPtp (.im (.tup ds)) = false := rfl
@[simp] theorem isPtp_new (m : M) : isPtp (.new m) = false := rfl
@[simp] theorem isPtp_sl (i : Nat) (m : M) : isPtp (.sl i m) = false := rfl
@[simp] theorem slotW_new (m : M) : slotW (.new m) = none := rfl
@[simp] theorem slotW_sl (i : Nat) (m : M) : slotW (.sl i m) = some i := rfl
@[simp] theorem allIm_nil' : allIm [] = some [] := rfl
@[simp] theorem allIm_map (ds : List D) : allIm (ds.map M.im) = some ds := allIm_ims ds
theorem allIm_of {α : Type} (xs : List α) (e : α → D) : allIm (xs.map fun x => M.im (e x)) = some (xs.map e) := by
  have q := allIm_ims (xs.map e)
  rwa [List.map_map] at q
@[simp] theorem tupM_nil : tupM [] = .im (.tup []) := rfl
@[simp] theorem tupM_1 (a : D) : tupM [.im a] = .im (.tup [a]) := rfl
@[simp] theorem tupM_2 (a b : D) : tupM [.im a, .im b] = .im (.tup [a, b]) := rfl
@[simp] theorem tupM_3 (a b c : D) : tupM [.im a, .im b, .im c] = .im (.tup [a, b, c]) := rfl
@[simp] theorem oSub_int (i j : Int) : oSub (.im (.int i)) (.im (.int j)) = some (.int (i - j)) := rfl
@[simp] theorem oAdd_int (i j : Int) : oAdd (.im (.int i)) (.im (.int j)) = some (.int (i + j)) := rfl
@[simp] theorem oLt_int (i j : Int) : oLt (.im (.int i)) (.im (.int j)) = some (.bl (decide (i < j))) := rfl
@[simp] theorem oLe_int (i j : Int) : oLe (.im (.int i)) (.im (.int j)) = some (.bl (decide (i ≤ j))) := rfl
@[simp] theorem oGt_int (i j : Int) : oGt (.im (.int i)) (.im (.int j)) = some (.bl (decide (j < i))) := rfl
@[simp] theorem oGe_int (i j : Int) : oGe (.im (.int i)) (.im (.int j)) = some (.bl (decide (j ≤ i))) := rfl
@[simp] theorem oLen_ev (w : W) : oLen [w] = (lenW w).map fun (n : Nat) => W.im (D.int (n : Int)) := rfl
@[simp] theorem lenW_tup (ds : List D) : lenW (.im (.tup ds)) = some ds.length := rfl
@[simp] theorem lenW_ptp (ds : List D) : lenW (.im (.ptp ds)) = some ds.length := rfl
@[simp] theorem lenW_new (ms : List M) : lenW (.new (.lst ms)) = some ms.length := rfl
@[simp] theorem lenW_sl (i : Nat) (ms : List M) : lenW (.sl i (.lst ms)) = some ms.length := rfl
@[simp] theorem lenW_dt (l : List (List L2.Key × M)) : lenW (.new (.dt l)) = some l.length := rfl
@[simp] theorem lenW_sdt (i : Nat) (l : List (List L2.Key × M)) : lenW (.sl i (.dt l)) = some l.length := rfl
@[simp] theorem oTuple_ev (w : W) : oTuple [w] = if isPtp w = true then some w else (seqM w).map fun ms => ofM (tupM ms) := rfl
@[simp] theorem seqM_sl' (i : Nat) (ms : List M) : seqM (.sl i (.lst ms)) = (allIm ms).map fun ds => ds.map M.im := rfl
@[simp] theorem oList_ev (w : W) : oList [w] = (seqM w).map fun ms => .new (.lst ms) := rfl
@[simp] theorem frz1_none (ρ : Rho) : frz1 none ρ = ρ := rfl
@[simp] theorem frz1_some (k : Nat) (ρ : Rho) : frz1 (some k) ρ = match cel ρ k with
    | .own m => ρ.set k (.frz true m)
    | _ => ρ := rfl
@[simp] theorem notOwn_none (ρ : Rho) : notOwn ρ none = true := rfl
@[simp] theorem notOwn_some (ρ : Rho) (k : Nat) : notOwn ρ (some k) = match cel ρ k with
    | .own _ => false
    | _ => true := rfl
@[simp] theorem wipeR_nil (ρ : Rho) : wipeR ρ [] = ρ := rfl
@[simp] theorem wipeR_cons (ρ : Rho) (v : Nat) (vs : List Nat) : wipeR ρ (v :: vs) = (wipeR ρ vs).set v .no := rfl
@[simp] theorem ownL_ev (ρ : Rho) (i : Nat) : ownL ρ i = match cel ρ i with
  | .own (.lst ms) => some ms
  | _ => none := rfl
@[simp] theorem ownD_ev (ρ : Rho) (i : Nat) : ownD ρ i = (ownL ρ i).bind allIm := rfl
@[simp] theorem st2_ev (ρ : Rho) (i j : Nat) (w1 w2 : W) : st2 ρ i j [w1, w2] = (stN ρ i w1).bind fun ρ1 => stN ρ1 j w2 := rfl
@[simp] theorem st3_ev (ρ : Rho) (i j l : Nat) (w1 w2 w3 : W) : st3 ρ i j l [w1, w2, w3] = (stN ρ i w1).bind fun ρ1 => (stN ρ1 j w2).bind fun ρ2 => stN ρ2 l w3 := rfl
@[simp] theorem stN_im (ρ : Rho) (i : Nat) (d : D) : stN ρ i (.im d) = if i < ρ.length then some (ρ.set i (.im d)) else none := rfl
@[simp] theorem stN_new (ρ : Rho) (i : Nat) (m : M) : stN ρ i (.new m) = if i < ρ.length then some (ρ.set i (.own m)) else none := rfl
@[simp] theorem stM_ev (ρ : Rho) (i j n : Nat) (w : W) : stM ρ i j n w = if i < ρ.length then (mvC ρ i n).bind fun ρ1 => stN ρ1 j w else none := rfl
@[simp] theorem mvC_ev (ρ : Rho) (i j : Nat) : mvC ρ i j = match cel ρ j with
  | .im d => some (ρ.set i (.im d))
  | .own m => if i = j then none else some ((ρ.set j .no).set i (.own m))
  | .frz l m => some (ρ.set i (.frz l m))
  | _ => none := rfl
@[simp] theorem parC_im (d : D) : parC (.im d) = .im d := rfl
@[simp] theorem parC_lst (ms : List M) : parC (.lst ms) = .frz false (.lst ms) := rfl
@[simp] theorem rho0_ev (n : Nat) (ms : List M) : rho0 n ms = ms.map parC ++ List.replicate (n - ms.length) .no := rfl
@[simp] theorem outM_rt (m : M) (u : Unit) : outM (some (.rt m, u)) = some m := rfl
@[simp] theorem thereW_s (d : D) : thereW (some (some d)) = some (.im d) := rfl
@[simp] theorem oIsN_im (neg : Bool) (x : W) : oIsN neg x (.im .non) = (isNon x).map fun b => .bl (if neg then !b else b) := rfl
@[simp] theorem isNon_non : isNon (.im .non) = some true := rfl
@[simp] theorem isNon_int (i : Int) : isNon (.im (.int i)) = some false := rfl
@[simp] theorem isNon_tup (ds : List D) : isNon (.im (.tup ds)) = some false := rfl
@[simp] theorem isNon_ptp (ds : List D) : isNon (.im (.ptp ds)) = some false := rfl
@[simp] theorem oD_ev (o : List W → Option D) (ws : List W) : oD o ws = (o ws).map W.im := rfl
@[simp] theorem tyW_im (d : D) : tyW (.im d) = some (tyD d) := rfl
@[simp] theorem tyD_int (i : Int) : tyD (.int i) = "int" := rfl
@[simp] theorem tyD_tup (ds : List D) : tyD (.tup ds) = "tuple" := rfl
@[simp] theorem tyD_ptp (ds : List D) : tyD (.ptp ds) = "tuple" := rfl
@[simp] theorem tyD_str (s : Str) : tyD (.str s) = "str" := rfl
/-! loops -/
theorem for_pre {fg : D → Rho → Option Rho} {f : Fn S Out} {s : S} {ρ : Rho} (e : α → D) (P : List α → Rho → Prop) (xs : List α) (h0 : P [] ρ)
    (hs : ∀ pre x suf ρ, xs = pre ++ x :: suf → P pre ρ → ∃ ρ1 ρ2, fg (e x) ρ = some ρ1 ∧ f ρ1 s = some (.nx ρ2, s) ∧ P (pre ++ [x]) ρ2) :
    ∃ ρ', forL fg f (xs.map e) ρ s = some (.nx ρ', s) ∧ P xs ρ' := by
  have main : ∀ (suf pre : List α) (ρ : Rho), xs = pre ++ suf → P pre ρ → ∃ ρ', forL fg f (suf.map e) ρ s = some (.nx ρ', s) ∧ P xs ρ' := by
    intro suf
    induction suf with
    | nil =>
      intro pre ρ hx hp
      rw [List.append_nil] at hx
      subst hx
      exact ⟨ρ, rfl, hp⟩
    | cons x suf ih =>
      intro pre ρ hx hp
      obtain ⟨ρ1, ρ2, h1, h2, h3⟩ := hs pre x suf ρ hx hp
      obtain ⟨ρ', h4, h5⟩ := ih (pre ++ [x]) ρ2 (by rw [hx]; simp) h3
      refine ⟨ρ', ?_, h5⟩
      rw [List.map_cons, forL, h1]
      simp only [h2, bnd_s]
      exact h4
  exact main xs [] ρ rfl h0
/-- a loop over range(n): j of it is done -/
theorem for_rng {fg : D → Rho → Option Rho} {f : Fn S Out} {s : S} {ρ : Rho} (n : Nat) (P : Nat → Rho → Prop) (h0 : P 0 ρ)
    (hs : ∀ j ρ, j < n → P j ρ → ∃ ρ1 ρ2, fg (.int (j : Int)) ρ = some ρ1 ∧ f ρ1 s = some (.nx ρ2, s) ∧ P (j + 1) ρ2) :
    ∃ ρ', forL fg f (rngD 0 n) ρ s = some (.nx ρ', s) ∧ P n ρ' := by
  have q := for_pre (fg := fg) (f := f) (s := s) (ρ := ρ) (fun i : Nat => D.int (0 + (i : Int))) (fun pre ρ => P pre.length ρ) (List.range n) h0 fun pre x suf ρ hx hp => by
    have hl : pre.length < n := by
      have := congrArg List.length hx
      rw [List.length_range, List.length_append, List.length_cons] at this
      omega
    have ex : x = pre.length := by
      have e := congrArg (fun l => l[pre.length]?) hx
      simp [hl] at e
      exact e.symm
    subst ex
    obtain ⟨ρ1, ρ2, h1, h2, h3⟩ := hs _ ρ hl hp
    refine ⟨ρ1, ρ2, ?_, h2, ?_⟩
    · rw [Int.zero_add]; exact h1
    · rw [List.length_append]; exact h3
  rw [List.length_range] at q
  exact q
/-- a while: k more laps at most -/
theorem wh_ind {fc : Fn S Bool} {f : Fn S Out} {s : S} (I : Nat → Rho → Prop) (Q : Out → Prop)
    (h : ∀ k ρ, I k ρ → (fc ρ s = some (false, s) ∧ Q (.nx ρ)) ∨ (fc ρ s = some (true, s) ∧ ((∃ m, f ρ s = some (.rt m, s) ∧ Q (.rt m)) ∨ ∃ j ρ2, k = j + 1 ∧ f ρ s = some (.nx ρ2, s) ∧ I j ρ2))) :
    ∀ (fuel k : Nat) (ρ : Rho), k < fuel → I k ρ → ∃ o, fWh fc f fuel ρ s = some (o, s) ∧ Q o := by
  intro fuel
  induction fuel with
  | zero => intro k ρ hk _; exact absurd hk (Nat.not_lt_zero k)
  | succ fuel ih =>
    intro k ρ hk hi
    rcases h k ρ hi with ⟨h1, h2⟩ | ⟨h1, ⟨m, h2, h3⟩ | ⟨j, ρ2, rfl, h2, h3⟩⟩
    · exact ⟨_, by rw [fWh, h1]; rfl, h2⟩
    · refine ⟨.rt m, ?_, h3⟩
      rw [fWh, h1]
      simp [h2]
    · obtain ⟨o, h4, h5⟩ := ih j ρ2 (by omega) h3
      refine ⟨o, ?_, h5⟩
      rw [fWh, h1]
      simp [h2, h4]
theorem enumD_at : ∀ (ds : List D) (k : Nat), enumD k ds = (List.range ds.length).map fun i => .tup [.int ((k + i : Nat) : Int), ds.getD i .non]
  | [], k => rfl
  | d :: ds, k => by
    rw [enumD, enumD_at ds (k + 1), List.length_cons, List.range_succ_eq_map, List.map_cons, List.map_map]
    congr 1
    refine List.map_congr_left fun i _ => ?_
    show _ = D.tup [.int ((k + (i + 1) : Nat) : Int), (d :: ds).getD (i + 1) .non]
    rw [show k + (i + 1) = k + 1 + i by omega]
    rfl
theorem enumD_0 (ds : List D) : enumD 0 ds = (List.range ds.length).map fun i : Nat => .tup [.int (i : Int), ds.getD i .non] := by
  rw [enumD_at]
  refine List.map_congr_left fun i _ => ?_
  rw [Nat.zero_add]
theorem rngD_0 (n : Nat) : rngD 0 n = (List.range n).map fun i : Nat => .int (i : Int) := by
  unfold rngD
  refine List.map_congr_left fun i _ => ?_
  rw [Int.zero_add]
theorem szOk_m {n : Nat} (h : n ≤ 1000000) : szOk n = true := decide_eq_true h
theorem smI_nat {n : Nat} (h : n ≤ 1000000) : smI (n : Int) = true := by
  unfold smI
  simp
  omega
end
end Pl
end

section
set_option autoImplicit false
set_option linter.all false
/-! graphs with turned roads: ways, counts, closed lots -/
namespace K96
section
variable {m : Nat} {T H T' H' : Nat → Nat} {a b c r : Nat} {p : List Nat}
def IsWay (m : Nat) (T H : Nat → Nat) : Nat → List Nat → Nat → Prop
  | a, [], b => a = b
  | a, r :: p, b => r < m ∧ T r = a ∧ IsWay m T H (H r) p b
theorem way_snoc : ∀ {p : List Nat} {a : Nat}, IsWay m T H a p b → r < m → T r = b → IsWay m T H a (p ++ [r]) (H r)
  | [], a, h, hr, ht => ⟨hr, ht.trans h.symm, rfl⟩
  | q :: p, a, h, hr, ht => ⟨h.1, h.2.1, way_snoc h.2.2 hr ht⟩
inductive Rch (m : Nat) (T H : Nat → Nat) (a : Nat) : Nat → Prop
  | refl : Rch m T H a a
  | step {r : Nat} : Rch m T H a (T r) → r < m → Rch m T H a (H r)
theorem rch_way {x : Nat} : ∀ {p : List Nat} {a : Nat}, Rch m T H x a → IsWay m T H a p b → Rch m T H x b
  | [], a, h, w => by cases w; exact h
  | r :: p, a, h, w => by
    obtain ⟨hr, ht, w⟩ := w
    subst ht
    exact rch_way (.step h hr) w
theorem way_lt : ∀ {p : List Nat} {a : Nat}, IsWay m T H a p b → ∀ r ∈ p, r < m
  | [], _, _, r, h => by cases h
  | q :: p, a, w, r, h => by
    cases h with
    | head => exact w.1
    | tail _ h => exact way_lt w.2.2 r h
def cnt (f : Nat → Nat) (c : Nat) (l : List Nat) : Nat := l.countP fun r => f r == c
theorem cnt_cons (f : Nat → Nat) (c r : Nat) (l : List Nat) : cnt f c (r :: l) = cnt f c l + if f r = c then 1 else 0 := by
  unfold cnt
  rw [List.countP_cons]
  by_cases h : f r = c <;> simp [h]
theorem way_cnt : ∀ {p : List Nat} {a : Nat}, IsWay m T H a p b → cnt T c p + (if c = b then 1 else 0) = cnt H c p + (if c = a then 1 else 0)
  | [], a, w => by cases w; simp [cnt]
  | r :: p, a, w => by
    obtain ⟨hr, ht, w⟩ := w
    have ih := way_cnt w
    rw [cnt_cons, cnt_cons]
    have e1 : (if T r = c then 1 else 0) = if c = a then 1 else 0 := by simp only [ht, (propext eq_comm : (c = a) = (a = c))]
    have e2 : (if c = H r then 1 else 0) = if H r = c then 1 else 0 := by simp only [(propext eq_comm : (c = H r) = (H r = c))]
    omega
/-- how many roads go out -/
def oc (m : Nat) (T : Nat → Nat) (c : Nat) : Nat := cnt T c (List.range m)
theorem cnt_perm {f : Nat → Nat} {l l' : List Nat} (h : l.Perm l') : cnt f c l = cnt f c l' := h.countP_eq _
theorem cnt_app (f : Nat → Nat) (l l' : List Nat) : cnt f c (l ++ l') = cnt f c l + cnt f c l' := List.countP_append ..
theorem cnt_congr {f g : Nat → Nat} {l : List Nat} (h : ∀ r ∈ l, f r = g r) : cnt f c l = cnt g c l := by
  unfold cnt
  exact List.countP_congr fun r hr => by simp [h r hr]
theorem split_perm {l p : List Nat} (nl : l.Nodup) (np : p.Nodup) (hs : ∀ r ∈ p, r ∈ l) : l.Perm (p ++ l.filter fun r => !decide (r ∈ p)) := by
  refine (List.perm_ext_iff_of_nodup nl ?_).2 fun r => ?_
  · refine List.nodup_append.2 ⟨np, nl.filter _, fun x hx y hy e => ?_⟩
    subst e
    simp at hy
    exact hy.2 hx
  · simp
    constructor
    · intro h
      by_cases q : r ∈ p
      · exact .inl q
      · exact .inr ⟨h, q⟩
    · rintro (h | h)
      · exact hs r h
      · exact h.1
theorem flip_cntL {l : List Nat} (nl : l.Nodup) (np : p.Nodup) (hs : ∀ r ∈ p, r ∈ l) (hT : ∀ r ∈ l, T' r = if r ∈ p then H r else T r) : cnt T' c l + cnt T c p = cnt T c l + cnt H c p := by
  have q := split_perm nl np hs
  rw [cnt_perm q, cnt_perm q (f := T), cnt_app, cnt_app]
  have e1 : cnt T' c p = cnt H c p := cnt_congr fun r hr => by rw [hT r (hs r hr), if_pos hr]
  have e2 : cnt T' c (l.filter fun r => !decide (r ∈ p)) = cnt T c (l.filter fun r => !decide (r ∈ p)) := cnt_congr fun r hr => by
    simp at hr
    rw [hT r hr.1, if_neg hr.2]
  omega
theorem flip_cnt (np : p.Nodup) (hs : ∀ r ∈ p, r < m) (hT : ∀ r, r < m → T' r = if r ∈ p then H r else T r) : oc m T' c + cnt T c p = oc m T c + cnt H c p :=
  flip_cntL List.nodup_range np (fun r h => List.mem_range.2 (hs r h)) fun r h => hT r (List.mem_range.1 h)
/-- flipping a way -/
theorem flip_way (w : IsWay m T H a p b) (np : p.Nodup) (hT : ∀ r, r < m → T' r = if r ∈ p then H r else T r) : oc m T' c + (if c = a then 1 else 0) = oc m T c + (if c = b then 1 else 0) := by
  have h1 := flip_cnt (c := c) np (way_lt w) hT
  have h2 := way_cnt (c := c) w
  omega
/-! closed lots -/
def inL (T : Nat → Nat) (lot : List Nat) (m : Nat) : Nat := (List.range m).countP fun r => decide (T r ∈ lot)
def wi (T H : Nat → Nat) (lot : List Nat) (m : Nat) : Nat := (List.range m).countP fun r => decide (T r ∈ lot) && decide (H r ∈ lot)
theorem countP_or (l : List Nat) (f g : Nat → Bool) (h : ∀ r ∈ l, ¬ (f r = true ∧ g r = true)) : l.countP (fun r => f r || g r) = l.countP f + l.countP g := by
  induction l with
  | nil => rfl
  | cons x l ih =>
    have i := ih fun r hr => h r (List.mem_cons_of_mem _ hr)
    have hx := h x List.mem_cons_self
    rw [List.countP_cons, List.countP_cons, List.countP_cons, i]
    cases e1 : f x <;> cases e2 : g x <;> simp [e1, e2] at hx ⊢ <;> omega
theorem sum_lot : ∀ {lot : List Nat}, lot.Nodup → (lot.map (oc m T)).sum = inL T lot m
  | [], _ => by simp [inL]
  | c :: lot, h => by
    obtain ⟨h1, h2⟩ := List.nodup_cons.1 h
    rw [List.map_cons, List.sum_cons, sum_lot h2]
    have e : inL T (c :: lot) m = (List.range m).countP fun r => (T r == c) || decide (T r ∈ lot) := by
      unfold inL
      refine List.countP_congr fun r _ => ?_
      simp
    rw [e, countP_or]
    · rfl
    · intro r _ ⟨q1, q2⟩
      simp at q1 q2
      exact h1 (q1 ▸ q2)
theorem countP_le {l : List Nat} {f g : Nat → Bool} (h : ∀ r ∈ l, f r = true → g r = true) : l.countP f ≤ l.countP g := List.countP_mono_left h
theorem countP_lt {l : List Nat} {f g : Nat → Bool} (h : ∀ r ∈ l, f r = true → g r = true) {y : Nat} (hy : y ∈ l) (h1 : f y = false) (h2 : g y = true) : l.countP f < l.countP g := by
  induction l with
  | nil => cases hy
  | cons x l ih =>
    rw [List.countP_cons, List.countP_cons]
    have hl : l.countP f ≤ l.countP g := countP_le fun r hr => h r (List.mem_cons_of_mem _ hr)
    cases hy with
    | head => simp [h1, h2]; omega
    | tail _ hy =>
      have i := ih (fun r hr => h r (List.mem_cons_of_mem _ hr)) hy
      have hx := h x List.mem_cons_self
      cases e1 : f x <;> cases e2 : g x <;> simp [e1, e2] at hx ⊢ <;> omega
def Closed (m : Nat) (T H : Nat → Nat) (lot : List Nat) : Prop := ∀ r, r < m → T r ∈ lot → H r ∈ lot
theorem closed_wi {lot : List Nat} (h : Closed m T H lot) : inL T lot m = wi T H lot m := by
  unfold inL wi
  refine List.countP_congr fun r hr => ?_
  have q := h r (List.mem_range.1 hr)
  simp
  exact q
/-- two turnings of the same roads -/
def Alike (m : Nat) (T H T' H' : Nat → Nat) : Prop := ∀ r, r < m → (T' r = T r ∧ H' r = H r) ∨ (T' r = H r ∧ H' r = T r)
theorem wi_le {lot : List Nat} (h : Alike m T H T' H') : wi T H lot m ≤ inL T' lot m := by
  unfold inL wi
  refine countP_le fun r hr q => ?_
  simp at q ⊢
  rcases h r (List.mem_range.1 hr) with z | z
  · rw [z.1]; exact q.1
  · rw [z.1]; exact q.2
theorem stiff_const {lot : List Nat} (nd : lot.Nodup) (cl : Closed m T H lot) (al : Alike m T H T' H') (ho : ∀ c, oc m T c = oc m T' c) (hr : r < m) (h1 : T r ∉ lot) (h2 : H r ∈ lot) : T' r = T r := by
  rcases al r hr with z | z
  · exact z.1
  · exfalso
    have e1 : inL T lot m = inL T' lot m := by
      rw [← sum_lot nd, ← sum_lot nd]
      exact congrArg List.sum (List.map_congr_left fun c _ => ho c)
    have e2 : wi T H lot m < inL T' lot m := by
      unfold inL wi
      refine countP_lt (fun r hr q => ?_) (List.mem_range.2 hr) ?_ ?_
      · simp at q ⊢
        rcases al r (List.mem_range.1 hr) with z | z
        · rw [z.1]; exact q.1
        · rw [z.1]; exact q.2
      · simp [h1]
      · simp [z.1, h2]
    have e3 := closed_wi cl
    omega
/-! balanced lots of roads -/
def Bal (T H : Nat → Nat) (D : List Nat) : Prop := ∀ c, cnt T c D = cnt H c D
theorem bal_diff {D : List Nat} (nD : D.Nodup) (hD : ∀ r ∈ D, r < m) (hT : ∀ r, r < m → T' r = if r ∈ D then H r else T r) (ho : ∀ c, oc m T c = oc m T' c) : Bal T H D := by
  intro c
  have q := flip_cnt (c := c) nD hD hT
  have := ho c
  omega
theorem bal_sub {D R : List Nat} (hb : Bal T H D) (nD : D.Nodup) (nR : R.Nodup) (hs : ∀ r ∈ R, r ∈ D) (hR : Bal T H R) : Bal T H (D.filter fun r => !decide (r ∈ R)) := by
  intro c
  have q := split_perm nD nR hs
  have h1 := cnt_perm (c := c) (f := T) q
  have h2 := cnt_perm (c := c) (f := H) q
  rw [cnt_app] at h1 h2
  have := hb c
  have := hR c
  omega
theorem bal_cycle (w : IsWay m T H a p a) : Bal T H p := fun c => by
  have := way_cnt (c := c) w
  omega
theorem way_drop : ∀ {p : List Nat} {a : Nat} (k : Nat), IsWay m T H a p b → (hk : k < p.length) → IsWay m T H (T p[k]) (p.drop k) b
  | r :: p, a, 0, w, _ => ⟨w.1, rfl, w.2.2⟩
  | r :: p, a, k + 1, w, hk => way_drop k w.2.2 (by simpa using hk)
theorem cnt_pos {f : Nat → Nat} {l : List Nat} : 0 < cnt f c l ↔ ∃ r ∈ l, f r = c := by
  unfold cnt
  rw [List.countP_pos_iff]
  simp
theorem way_last : ∀ {p : List Nat} {a : Nat}, IsWay m T H a p b → p ≠ [] → ∃ r ∈ p, H r = b
  | [], _, _, h => absurd rfl h
  | [r], a, w, _ => ⟨r, List.mem_cons_self, w.2.2⟩
  | r :: q :: p, a, w, _ => by
    obtain ⟨x, hx, e⟩ := way_last (p := q :: p) w.2.2 (by simp)
    exact ⟨x, List.mem_cons_of_mem _ hx, e⟩
theorem nodup_le {l : List Nat} {n : Nat} (nd : l.Nodup) (h : ∀ x ∈ l, x < n) : l.length ≤ n := by
  have q := (split_perm (List.nodup_range (n := n)) nd fun r hr => List.mem_range.2 (h r hr)).length_eq
  rw [List.length_range, List.length_append] at q
  omega
end
end K96
end

section
set_option autoImplicit false
set_option linter.all false
/-! sums; rows; marks; dicts as bags -/
namespace K96
section
variable {α : Type} {l : List Nat} {f g : Nat → Int}
theorem sumI_le (h : ∀ c ∈ l, f c ≤ g c) : (l.map f).sum ≤ (l.map g).sum := by
  induction l with
  | nil => exact Int.le_refl _
  | cons x l ih =>
    have i := ih fun c hc => h c (List.mem_cons_of_mem _ hc)
    have hx := h x List.mem_cons_self
    simp only [List.map_cons, List.sum_cons]
    omega
theorem sumI_lt (h : ∀ c ∈ l, f c ≤ g c) {y : Nat} (hy : y ∈ l) (hl : f y < g y) : (l.map f).sum < (l.map g).sum := by
  induction l with
  | nil => cases hy
  | cons x l ih =>
    have i := sumI_le (l := l) fun c hc => h c (List.mem_cons_of_mem _ hc)
    have hx := h x List.mem_cons_self
    simp only [List.map_cons, List.sum_cons]
    cases hy with
    | head => omega
    | tail _ hy =>
      have := ih (fun c hc => h c (List.mem_cons_of_mem _ hc)) hy
      omega
theorem sumI_eq (h : ∀ c ∈ l, f c ≤ g c) (e : (l.map f).sum = (l.map g).sum) : ∀ c ∈ l, f c = g c := by
  intro c hc
  rcases Int.lt_or_le (f c) (g c) with q | q
  · have := sumI_lt h hc q
    omega
  · exact Int.le_antisymm (h c hc) q
theorem sumI_nat (f : Nat → Nat) (l : List Nat) : (l.map fun c => (f c : Int)).sum = ((l.map f).sum : Nat) := by
  induction l with
  | nil => rfl
  | cons x l ih => simp only [List.map_cons, List.sum_cons, ih]; omega
theorem sumI_bound {B : Int} (h : ∀ c ∈ l, f c ≤ B) : (l.map f).sum ≤ l.length * B := by
  induction l with
  | nil => simp
  | cons x l ih =>
    have i := ih fun c hc => h c (List.mem_cons_of_mem _ hc)
    have hx := h x List.mem_cons_self
    simp only [List.map_cons, List.sum_cons, List.length_cons]
    have : ((l.length + 1 : Nat) : Int) * B = l.length * B + B := by
      rw [Int.natCast_add, Int.add_mul]; omega
    omega
end
/-! how far a row of outs is above told ones -/
def exc (n : Nat) (o : Nat → Nat) (w : Nat → Int) : Int := ((List.range n).map fun c => max 0 ((o c : Int) - w c)).sum
theorem exc_nonneg (n : Nat) (o : Nat → Nat) (w : Nat → Int) : 0 ≤ exc n o w := by
  unfold exc
  have q := sumI_le (l := List.range n) (f := fun _ => 0) (g := fun c => max 0 ((o c : Int) - w c)) fun c _ => Int.le_max_left ..
  have z : ((List.range n).map fun _ => (0 : Int)).sum = 0 := by
    generalize List.range n = l
    induction l with
    | nil => rfl
    | cons x l ih => simp only [List.map_cons, List.sum_cons, ih]; rfl
  omega
theorem exc_less {n a b : Nat} {o o' : Nat → Nat} {w : Nat → Int} (ha : a < n) (h : ∀ c, o' c + (if c = a then 1 else 0) = o c + if c = b then 1 else 0) (h1 : w a < o a) (h2 : (o b : Int) < w b) : exc n o' w + 1 ≤ exc n o w := by
  unfold exc
  have q := sumI_lt (l := List.range n) (f := fun c => max 0 ((o' c : Int) - w c)) (g := fun c => max 0 ((o c : Int) - w c)) (fun c _ => ?_) (List.mem_range.2 ha) ?_
  · omega
  · have e := h c
    show max 0 ((o' c : Int) - w c) ≤ max 0 ((o c : Int) - w c)
    by_cases ca : c = a
    · subst ca
      by_cases cb : c = b
      · subst cb; omega
      · simp [cb] at e; omega
    · by_cases cb : c = b
      · subst cb; simp [ca] at e; omega
      · simp [ca, cb] at e; omega
  · have e := h a
    show max 0 ((o' a : Int) - w a) < max 0 ((o a : Int) - w a)
    by_cases cb : a = b
    · subst cb; omega
    · simp [cb] at e; omega
/-- all roads go out somewhere -/
theorem sum_oc {m n : Nat} {T : Nat → Nat} (h : ∀ r, r < m → T r < n) : ((List.range n).map (oc m T)).sum = m := by
  rw [sum_lot List.nodup_range]
  unfold inL
  rw [List.countP_eq_length.2 fun r hr => ?_, List.length_range]
  simpa using h r (List.mem_range.1 hr)
/-! rows of outs -/
def pick (r : Nat × Nat) (k : Int) : Nat := if k = 0 then r.1 else r.2
def rowF (n : Nat) (f : Nat → Int) : List Int := (List.range n).map f
theorem rowF_len (n : Nat) (f : Nat → Int) : (rowF n f).length = n := by simp [rowF]
theorem rowF_at {n : Nat} {f : Nat → Int} {c : Nat} (h : c < n) : (rowF n f)[c]? = some (f c) := by simp [rowF, h]
theorem rowF_getD {n : Nat} {f : Nat → Int} {c : Nat} (h : c < n) : (rowF n f).getD c 0 = f c := by simp [rowF, h]
theorem rowF_ext {n : Nat} {f g : Nat → Int} : rowF n f = rowF n g ↔ ∀ c, c < n → f c = g c := by
  unfold rowF
  constructor
  · intro h c hc
    exact List.map_inj_left.1 h c (List.mem_range.2 hc)
  · intro h
    exact List.map_congr_left fun c hc => h c (List.mem_range.1 hc)
theorem rowF_of {n : Nat} {r : List Int} (h : r.length = n) : r = rowF n fun c => r.getD c 0 := by
  refine List.ext_getElem (by rw [rowF_len, h]) fun i h1 h2 => ?_
  simp [rowF, h1]
def bump (row : List Int) (c : Nat) (k : Int) : List Int := rowF row.length fun i => row.getD i 0 + if i = c then k else 0
theorem bump_rowF (n : Nat) (f : Nat → Int) (c : Nat) (k : Int) : bump (rowF n f) c k = rowF n fun i => f i + if i = c then k else 0 := by
  unfold bump
  rw [rowF_len]
  refine rowF_ext.2 fun i hi => ?_
  rw [rowF_getD hi]
theorem bump_len (row : List Int) (c : Nat) (k : Int) : (bump row c k).length = row.length := rowF_len ..
theorem bump_inj {a b : List Int} {c : Nat} {k : Int} (h : bump a c k = bump b c k) (hl : a.length = b.length) : a = b := by
  rw [rowF_of (r := a) rfl, rowF_of (r := b) hl.symm] at h ⊢
  rw [bump_rowF, bump_rowF] at h
  refine rowF_ext.2 fun i hi => ?_
  have := rowF_ext.1 h i hi
  omega
def zc (rs : List (Nat × Nat)) (t : List Int) (c : Nat) : Nat := (rs.zip t).countP fun q => pick q.1 q.2 == c
def ro (n : Nat) (rs : List (Nat × Nat)) (t : List Int) : List Int := rowF n fun c => (zc rs t c : Int)
theorem ro_len (n : Nat) (rs : List (Nat × Nat)) (t : List Int) : (ro n rs t).length = n := rowF_len ..
theorem zc_cons (p : Nat × Nat) (rs : List (Nat × Nat)) (b : Int) (t : List Int) (c : Nat) : zc (p :: rs) (b :: t) c = zc rs t c + if pick p b = c then 1 else 0 := by
  unfold zc
  rw [List.zip_cons_cons, List.countP_cons]
  by_cases h : pick p b = c <;> simp [h]
theorem zc_snoc (p : Nat × Nat) {rs : List (Nat × Nat)} (b : Int) {t : List Int} (h : rs.length = t.length) (c : Nat) : zc (rs ++ [p]) (t ++ [b]) c = zc rs t c + if pick p b = c then 1 else 0 := by
  unfold zc
  rw [List.zip_append h, List.countP_append]
  by_cases h : pick p b = c <;> simp [h]
theorem ro_nil (n : Nat) (t : List Int) : ro n [] t = List.replicate n 0 := by
  refine List.eq_replicate_iff.2 ⟨ro_len .., fun b hb => ?_⟩
  unfold ro rowF zc at hb
  obtain ⟨c, _, rfl⟩ := List.mem_map.1 hb
  rfl
theorem ro_cons (n : Nat) (p : Nat × Nat) (rs : List (Nat × Nat)) (b : Int) (t : List Int) : ro n (p :: rs) (b :: t) = bump (ro n rs t) (pick p b) 1 := by
  unfold ro
  rw [bump_rowF]
  refine rowF_ext.2 fun c _ => ?_
  rw [zc_cons]
  by_cases h : pick p b = c
  · simp [h]
  · have h' : ¬ c = pick p b := fun e => h e.symm
    simp only [h, h', if_false]
    rfl
theorem ro_snoc (n : Nat) (p : Nat × Nat) {rs : List (Nat × Nat)} (b : Int) {t : List Int} (h : rs.length = t.length) : ro n (rs ++ [p]) (t ++ [b]) = bump (ro n rs t) (pick p b) 1 := by
  unfold ro
  rw [bump_rowF]
  refine rowF_ext.2 fun c _ => ?_
  rw [zc_snoc p b h]
  by_cases h : pick p b = c
  · simp [h]
  · have h' : ¬ c = pick p b := fun e => h e.symm
    simp only [h, h', if_false]
    rfl
/-! marks -/
def marks : Nat → List (List Int)
  | 0 => [[]]
  | m + 1 => (marks m).map (fun t => (0 : Int) :: t) ++ (marks m).map fun t => (1 : Int) :: t
theorem marks_mem : ∀ {m : Nat} {t : List Int}, t ∈ marks m ↔ t.length = m ∧ ∀ k ∈ t, k = 0 ∨ k = 1
  | 0, t => by
    unfold marks
    rw [List.mem_singleton]
    constructor
    · rintro rfl; exact ⟨rfl, fun _ h => nomatch h⟩
    · intro ⟨h, _⟩; exact List.length_eq_zero_iff.1 h
  | m + 1, t => by
    unfold marks
    rw [List.mem_append, List.mem_map, List.mem_map]
    constructor
    · rintro (⟨a, ha, rfl⟩ | ⟨a, ha, rfl⟩)
      · obtain ⟨h1, h2⟩ := marks_mem.1 ha
        exact ⟨by simp [h1], by simpa using h2⟩
      · obtain ⟨h1, h2⟩ := marks_mem.1 ha
        exact ⟨by simp [h1], by simpa using h2⟩
    · intro ⟨h1, h2⟩
      cases t with
      | nil => cases h1
      | cons k t =>
        have ht : t ∈ marks m := marks_mem.2 ⟨by simpa using h1, fun k hk => h2 k (List.mem_cons_of_mem _ hk)⟩
        rcases h2 k List.mem_cons_self with rfl | rfl
        · exact .inl ⟨t, ht, rfl⟩
        · exact .inr ⟨t, ht, rfl⟩
theorem marks_len : ∀ m, (marks m).length = 2 ^ m
  | 0 => rfl
  | m + 1 => by
    unfold marks
    rw [List.length_append, List.length_map, List.length_map, marks_len m]
    omega
theorem marks_pw : ∀ m, (marks m).Pairwise fun a b => a ≤ b ∧ a ≠ b
  | 0 => List.pairwise_singleton ..
  | m + 1 => by
    unfold marks
    refine List.pairwise_append.2 ⟨?_, ?_, fun a ha b hb => ?_⟩
    · refine List.pairwise_map.2 ((marks_pw m).imp fun {a b} h => ⟨?_, fun e => h.2 (List.cons.inj e).2⟩)
      rw [List.cons_le_cons_iff]
      exact .inr ⟨rfl, h.1⟩
    · refine List.pairwise_map.2 ((marks_pw m).imp fun {a b} h => ⟨?_, fun e => h.2 (List.cons.inj e).2⟩)
      rw [List.cons_le_cons_iff]
      exact .inr ⟨rfl, h.1⟩
    · obtain ⟨x, _, rfl⟩ := List.mem_map.1 ha
      obtain ⟨y, _, rfl⟩ := List.mem_map.1 hb
      refine ⟨?_, fun e => by cases (List.cons.inj e).1⟩
      rw [List.cons_le_cons_iff]
      exact .inl (by decide)
theorem marks_nodup (m : Nat) : (marks m).Nodup := (marks_pw m).imp fun h => h.2
/-- built at the end -/
theorem marks_snoc : ∀ m, marks (m + 1) = (marks m).flatMap fun t => [t ++ [0], t ++ [1]]
  | 0 => rfl
  | m + 1 => by
    have ih := marks_snoc m
    rw [show marks (m + 1 + 1) = (marks (m + 1)).map (fun t => (0 : Int) :: t) ++ (marks (m + 1)).map fun t => (1 : Int) :: t from rfl]
    rw [show (marks (m + 1)).flatMap (fun t => [t ++ [0], t ++ [1]]) = ((marks m).map (fun t => (0 : Int) :: t) ++ (marks m).map fun t => (1 : Int) :: t).flatMap (fun t => [t ++ [0], t ++ [1]]) from rfl]
    rw [ih, List.flatMap_append, List.map_flatMap, List.map_flatMap, List.flatMap_map, List.flatMap_map]
    rfl
theorem pairs_perm {α β : Type} (l : List α) (f g : α → β) : (l.flatMap fun t => [f t, g t]).Perm (l.map f ++ l.map g) := by
  induction l with
  | nil => exact .refl _
  | cons x l ih =>
    rw [List.flatMap_cons, List.map_cons, List.map_cons]
    show (f x :: g x :: _).Perm (f x :: (_ ++ _))
    refine .cons _ ?_
    exact (ih.cons (g x)).trans List.perm_middle.symm
theorem marks_perm (m : Nat) : (marks (m + 1)).Perm ((marks m).map (fun t => t ++ [0]) ++ (marks m).map fun t => t ++ [1]) := by
  rw [marks_snoc]
  exact pairs_perm ..
end K96
end

section
set_option autoImplicit false
set_option linter.all false
namespace K96
/-! dicts as bags -/
abbrev Row := List Int
def aget : List (Row × Int) → Row → Option Int
  | [], _ => none
  | p :: l, k => if p.1 = k then some p.2 else aget l k
def aput (l : List (Row × Int)) (k : Row) (v : Int) : List (Row × Int) := if (l.any fun p => decide (p.1 = k)) = true then l.map (fun p => if p.1 = k then (p.1, v) else p) else l ++ [(k, v)]
theorem aget_none {l : List (Row × Int)} {k : Row} : aget l k = none ↔ k ∉ l.map (·.1) := by
  induction l with
  | nil => simp [aget]
  | cons p l ih =>
    unfold aget
    by_cases h : p.1 = k
    · simp [h]
    · rw [if_neg h, ih]
      rw [List.map_cons, List.mem_cons, not_or]
      exact ⟨fun z => ⟨fun e => h e.symm, z⟩, fun z => z.2⟩
theorem any_iff {l : List (Row × Int)} {k : Row} : (l.any fun p => decide (p.1 = k)) = true ↔ k ∈ l.map (·.1) := by
  rw [List.any_eq_true, List.mem_map]
  constructor
  · rintro ⟨p, hp, h⟩
    exact ⟨p, hp, by simpa using h⟩
  · rintro ⟨p, hp, h⟩
    exact ⟨p, hp, by simpa using h⟩
theorem aget_app {l r : List (Row × Int)} {k : Row} : aget (l ++ r) k = (aget l k).or (aget r k) := by
  induction l with
  | nil => rfl
  | cons p l ih =>
    rw [List.cons_append, aget, aget]
    by_cases h : p.1 = k
    · simp [h]
    · rw [if_neg h, if_neg h, ih]
theorem aput_keys (l : List (Row × Int)) (k : Row) (v : Int) : (aput l k v).map (·.1) = if k ∈ l.map (·.1) then l.map (·.1) else l.map (·.1) ++ [k] := by
  unfold aput
  by_cases h : k ∈ l.map (·.1)
  · rw [if_pos (any_iff.2 h), if_pos h, List.map_map]
    refine List.map_congr_left fun p _ => ?_
    show (if p.1 = k then (p.1, v) else p).1 = p.1
    by_cases q : p.1 = k <;> simp [q]
  · rw [if_neg (fun z => h (any_iff.1 z)), if_neg h, List.map_append]
    rfl
theorem aput_nodup {l : List (Row × Int)} {k : Row} {v : Int} (h : (l.map (·.1)).Nodup) : ((aput l k v).map (·.1)).Nodup := by
  rw [aput_keys]
  by_cases q : k ∈ l.map (·.1)
  · rw [if_pos q]; exact h
  · rw [if_neg q]
    exact List.nodup_append.2 ⟨h, List.nodup_cons.2 ⟨List.not_mem_nil, List.nodup_nil⟩, fun x hx y hy e => q (by rw [List.mem_singleton] at hy; rw [← hy, ← e]; exact hx)⟩
theorem aget_aput (l : List (Row × Int)) (k : Row) (v : Int) (r : Row) : aget (aput l k v) r = if r = k then some v else aget l r := by
  unfold aput
  by_cases h : k ∈ l.map (·.1)
  · rw [if_pos (any_iff.2 h)]
    induction l with
    | nil => cases h
    | cons p l ih =>
      rw [List.map_cons, aget]
      by_cases q : p.1 = k
      · rw [if_pos q]
        by_cases e : r = k
        · subst e; simp [q]
        · rw [if_neg e, if_neg (fun z : p.1 = r => e (z.symm.trans q)), aget, if_neg (fun z : p.1 = r => e (z.symm.trans q))]
          by_cases h2 : k ∈ l.map (·.1)
          · rw [ih h2, if_neg e]
          · have e2 : l.map (fun p => if p.1 = k then (p.1, v) else p) = l := by
              conv => rhs; rw [← List.map_id l]
              refine List.map_congr_left fun x hx => ?_
              rw [if_neg]
              · rfl
              · intro z
                exact h2 (List.mem_map.2 ⟨x, hx, z⟩)
            rw [e2]
      · rw [if_neg q]
        have h2 : k ∈ l.map (·.1) := by
          rw [List.map_cons] at h
          rcases List.mem_cons.1 h with z | z
          · exact absurd z.symm q
          · exact z
        rw [ih h2]
        by_cases e : r = k
        · subst e; simp [q, aget]
        · rw [if_neg e, if_neg e, aget]
  · rw [if_neg (fun z => h (any_iff.1 z)), aget_app]
    by_cases e : r = k
    · subst e
      rw [aget_none.2 h, if_pos rfl]
      simp [aget]
    · rw [if_neg e]
      have e' : ¬ k = r := fun z => e z.symm
      simp [aget, e']
def ex (l : List (Row × Int)) : List Row := l.flatMap fun p => List.replicate p.2.toNat p.1
structure Cnt (l : List (Row × Int)) (B : List Row) : Prop where
  nd : (l.map (·.1)).Nodup
  pos : ∀ p ∈ l, 0 < p.2
  val : ∀ r, (aget l r).getD 0 = (B.count r : Nat)
theorem aget_mem {l : List (Row × Int)} {k : Row} {v : Int} (h : aget l k = some v) : (k, v) ∈ l := by
  induction l with
  | nil => cases h
  | cons p l ih =>
    unfold aget at h
    by_cases q : p.1 = k
    · rw [if_pos q] at h
      cases h
      subst q
      exact List.mem_cons_self
    · rw [if_neg q] at h
      exact List.mem_cons_of_mem _ (ih h)
theorem Cnt.perm {l : List (Row × Int)} {B B' : List Row} (h : Cnt l B) (p : B.Perm B') : Cnt l B' := ⟨h.nd, h.pos, fun r => by rw [h.val, p.count_eq]⟩
theorem Cnt.key {l : List (Row × Int)} {B : List Row} (h : Cnt l B) (r : Row) : (aget l r).isSome = decide (r ∈ B) := by
  have q := h.val r
  cases e : aget l r with
  | none =>
    rw [e] at q
    have : B.count r = 0 := by simpa using q.symm
    simpa using List.count_eq_zero.1 this
  | some v =>
    rw [e] at q
    have hv := h.pos _ (aget_mem e)
    have : 0 < B.count r := by
      have q : v = (B.count r : Nat) := q
      simp only at hv
      omega
    simpa using List.count_pos_iff.1 this
theorem count_rep (v : Nat) (k r : Row) : (List.replicate v k).count r = if k = r then v else 0 := by
  rw [List.count_replicate]
  by_cases h : k = r <;> simp [h]
theorem ex_count {l : List (Row × Int)} (nd : (l.map (·.1)).Nodup) (pos : ∀ p ∈ l, 0 < p.2) (r : Row) : ((ex l).count r : Int) = (aget l r).getD 0 := by
  induction l with
  | nil => rfl
  | cons p l ih =>
    rw [List.map_cons] at nd
    obtain ⟨n1, n2⟩ := List.nodup_cons.1 nd
    have i := ih n2 fun p hp => pos p (List.mem_cons_of_mem _ hp)
    have hp := pos p List.mem_cons_self
    unfold ex at i ⊢
    rw [List.flatMap_cons, List.count_append, count_rep, aget]
    by_cases h : p.1 = r
    · subst h
      rw [aget_none.2 n1] at i
      simp at i ⊢
      omega
    · simp [h]
      exact i
theorem Cnt.ex {l : List (Row × Int)} {B : List Row} (h : Cnt l B) : (ex l).Perm B := by
  refine List.perm_iff_count.2 fun r => ?_
  have := ex_count h.nd h.pos r
  have := h.val r
  omega
theorem Cnt.nil : Cnt [] [] where
  nd := List.nodup_nil
  pos := fun _ h => nomatch h
  val := fun _ => rfl
theorem Cnt.one (k : Row) : Cnt [(k, 1)] [k] := by
  refine ⟨List.nodup_cons.2 ⟨List.not_mem_nil, List.nodup_nil⟩, fun p hp => ?_, fun r => ?_⟩
  · rw [List.mem_singleton] at hp
    subst hp
    exact (by decide : (0 : Int) < 1)
  · by_cases h : k = r
    · subst h; simp [aget]
    · simp [aget, h, List.count_cons]
theorem Cnt.put {l : List (Row × Int)} {B : List Row} (h : Cnt l B) (k : Row) {v : Int} (hv : 0 < v) : Cnt (aput l k ((aget l k).getD 0 + v)) (B ++ List.replicate v.toNat k) := by
  refine ⟨aput_nodup h.nd, fun p hp => ?_, fun r => ?_⟩
  · have h0 : 0 ≤ (aget l k).getD 0 := by have := h.val k; omega
    unfold aput at hp
    split at hp
    · obtain ⟨q, hq, rfl⟩ := List.mem_map.1 hp
      by_cases c : q.1 = k
      · rw [if_pos c]; show 0 < _ + v; omega
      · rw [if_neg c]; exact h.pos q hq
    · rcases List.mem_append.1 hp with z | z
      · exact h.pos p z
      · rw [List.mem_singleton] at z
        subst z
        show 0 < _ + v
        omega
  · have hr := h.val r
    rw [aget_aput, List.count_append, count_rep]
    by_cases c : r = k
    · subst c
      simp
      omega
    · rw [if_neg c, if_neg fun z : k = r => c z.symm]
      simpa using hr
/-! what the roads from one on make -/
def leq (n : Nat) (o row : Row) : Bool := (List.range n).all fun c => decide (row.getD c 0 ≤ o.getD c 0)
theorem leq_iff {n : Nat} {o row : Row} : leq n o row = true ↔ ∀ c, c < n → row.getD c 0 ≤ o.getD c 0 := by
  unfold leq
  simp
def stp (o : Row) (c : Nat) (row : Row) : List Row := if (bump row c 1).getD c 0 ≤ o.getD c 0 then [bump row c 1] else []
def bagS (n : Nat) (o : Row) (rs : List (Nat × Nat)) : List Row := ((marks rs.length).map (ro n rs)).filter (leq n o)
theorem bump_at {row : Row} {c i : Nat} {k : Int} (h : i < row.length) : (bump row c k).getD i 0 = row.getD i 0 + if i = c then k else 0 := rowF_getD h
theorem leq_bump {n : Nat} {o row : Row} {c : Nat} (hc : c < n) (hl : row.length = n) : leq n o (bump row c 1) = (leq n o row && decide ((bump row c 1).getD c 0 ≤ o.getD c 0)) := by
  rw [Bool.eq_iff_iff, Bool.and_eq_true, leq_iff, leq_iff, decide_eq_true_iff]
  constructor
  · intro h
    refine ⟨fun i hi => ?_, h c hc⟩
    have := h i hi
    rw [bump_at (by omega)] at this
    by_cases e : i = c
    · rw [if_pos e] at this; omega
    · rw [if_neg e] at this; omega
  · intro ⟨h1, h2⟩ i hi
    by_cases e : i = c
    · subst e; exact h2
    · rw [bump_at (by omega), if_neg e]
      have := h1 i hi
      omega
theorem stp_bag {n : Nat} {o : Row} {c : Nat} (hc : c < n) : ∀ {L : List Row}, (∀ r ∈ L, r.length = n) → (L.filter (leq n o)).flatMap (stp o c) = (L.map fun r => bump r c 1).filter (leq n o)
  | [], _ => rfl
  | r :: L, h => by
    have ih := stp_bag (o := o) hc (L := L) fun x hx => h x (List.mem_cons_of_mem _ hx)
    have q := leq_bump (o := o) hc (h r List.mem_cons_self)
    rw [List.map_cons, List.filter_cons, List.filter_cons]
    cases e : leq n o r with
    | false =>
      rw [e] at q
      rw [q, if_neg (by simp), if_neg (by simp), ih]
    | true =>
      rw [e, Bool.true_and] at q
      rw [q, if_pos rfl, List.flatMap_cons, ih]
      unfold stp
      by_cases z : (bump r c 1).getD c 0 ≤ o.getD c 0
      · rw [if_pos z, if_pos (decide_eq_true z)]; rfl
      · rw [if_neg z, if_neg (by simpa using z)]; rfl
theorem flat_two {α β : Type} (L : List α) (f g : α → List β) : (L.flatMap fun x => f x ++ g x).Perm (L.flatMap f ++ L.flatMap g) := by
  induction L with
  | nil => exact .refl _
  | cons x L ih =>
    simp only [List.flatMap_cons]
    refine ((List.Perm.append_left (f x ++ g x) ih)).trans ?_
    simp only [List.append_assoc]
    refine List.Perm.append_left (f x) ?_
    rw [← List.append_assoc, ← List.append_assoc]
    exact List.Perm.append_right _ List.perm_append_comm
theorem bagS_cons {n : Nat} {o : Row} {p : Nat × Nat} {rs : List (Nat × Nat)} (h1 : p.1 < n) (h2 : p.2 < n) : ((bagS n o rs).flatMap fun r => stp o p.1 r ++ stp o p.2 r).Perm (bagS n o (p :: rs)) := by
  refine (flat_two _ _ _).trans ?_
  have hl : ∀ r ∈ (marks rs.length).map (ro n rs), r.length = n := fun r hr => by
    obtain ⟨t, _, rfl⟩ := List.mem_map.1 hr
    exact ro_len ..
  unfold bagS
  rw [stp_bag h1 hl, stp_bag h2 hl, ← List.filter_append]
  refine List.Perm.of_eq (congrArg _ ?_)
  rw [List.length_cons]
  show _ = List.map (ro n (p :: rs)) ((marks rs.length).map (fun t => (0 : Int) :: t) ++ (marks rs.length).map fun t => (1 : Int) :: t)
  simp only [List.map_append, List.map_map]
  congr 1
  · refine List.map_congr_left fun t _ => ?_
    show bump (ro n rs t) p.1 1 = ro n (p :: rs) (0 :: t)
    rw [ro_cons]; rfl
  · refine List.map_congr_left fun t _ => ?_
    show bump (ro n rs t) p.2 1 = ro n (p :: rs) (1 :: t)
    rw [ro_cons]; rfl
theorem bagS_mem {n : Nat} {o r : Row} {rs : List (Nat × Nat)} : r ∈ bagS n o rs ↔ (∃ t ∈ marks rs.length, ro n rs t = r) ∧ leq n o r = true := by
  unfold bagS
  rw [List.mem_filter, List.mem_map]
theorem leq_self (n : Nat) (o : Row) : leq n o o = true := leq_iff.2 fun _ _ => Int.le_refl _
theorem bagS_count {n : Nat} {o : Row} {rs : List (Nat × Nat)} : (bagS n o rs).count o = ((marks rs.length).filter fun t => decide (ro n rs t = o)).length := by
  unfold bagS
  generalize marks rs.length = L
  induction L with
  | nil => rfl
  | cons t L ih =>
    rw [List.map_cons]
    by_cases h : ro n rs t = o
    · rw [List.filter_cons_of_pos (by rw [h]; exact leq_self n o), List.filter_cons_of_pos (by simpa using h), h, List.count_cons_self, ih, List.length_cons]
    · rw [List.filter_cons_of_neg (l := L) (by simpa using h)]
      by_cases q : leq n o (ro n rs t) = true
      · rw [List.filter_cons_of_pos q, List.count_cons_of_ne h, ih]
      · rw [List.filter_cons_of_neg q, ih]
/-! all turnings with told outs, road by road -/
def rem (n : Nat) (o : Row) (rs : List (Nat × Nat)) (p : List Int) : Row := rowF n fun c => o.getD c 0 - (zc rs p c : Int)
theorem rem_snoc {n : Nat} {o : Row} {rs : List (Nat × Nat)} {q : Nat × Nat} {p : List Int} {b : Int} (h : rs.length = p.length) : rem n o (rs ++ [q]) (p ++ [b]) = bump (rem n o rs p) (pick q b) (-1) := by
  unfold rem
  rw [bump_rowF]
  refine rowF_ext.2 fun c _ => ?_
  rw [zc_snoc q b h]
  by_cases e : pick q b = c
  · simp [e]; omega
  · have e' : ¬ c = pick q b := fun z => e z.symm
    simp [e, e']
def fnd (n : Nat) (o : Row) (rs : List (Nat × Nat)) (j : Nat) : List (List Int) := (marks j).filter fun p => decide (rem n o (rs.take j) p ∈ bagS n o (rs.drop j))
theorem fnd_back {n : Nat} {o : Row} {rs : List (Nat × Nat)} {j : Nat} {p : List Int} {k : Int} (hj : j < rs.length) (hp : p.length = j) (hk : k = 0 ∨ k = 1) (h : rem n o (rs.take (j + 1)) (p ++ [k]) ∈ bagS n o (rs.drop (j + 1))) : rem n o (rs.take j) p ∈ bagS n o (rs.drop j) := by
  obtain ⟨⟨t, ht, e⟩, _⟩ := bagS_mem.1 h
  refine bagS_mem.2 ⟨⟨k :: t, ?_, ?_⟩, ?_⟩
  · obtain ⟨l1, l2⟩ := marks_mem.1 ht
    refine marks_mem.2 ⟨?_, fun x hx => ?_⟩
    · rw [List.length_cons, l1, List.length_drop, List.length_drop]; omega
    · rcases List.mem_cons.1 hx with rfl | hx
      · exact hk
      · exact l2 x hx
  · rw [List.drop_eq_getElem_cons hj, ro_cons, e, List.take_succ_eq_append_getElem hj, rem_snoc (by rw [List.length_take]; omega)]
    unfold rem
    rw [bump_rowF, bump_rowF]
    refine rowF_ext.2 fun c _ => ?_
    by_cases e : c = pick rs[j] k
    · simp [e]; omega
    · simp [e]
  · refine leq_iff.2 fun c hc => ?_
    unfold rem
    rw [rowF_getD hc]
    omega
theorem filter_flat {α β : Type} (f : α → List β) (q : α → Bool) (k : β → Bool) : ∀ (L : List α), (∀ x ∈ L, ∀ y ∈ f x, k y = true → q x = true) → (L.filter q).flatMap (fun x => (f x).filter k) = (L.flatMap f).filter k
  | [], _ => rfl
  | x :: L, h => by
    have ih := filter_flat f q k L fun x hx => h x (List.mem_cons_of_mem _ hx)
    rw [List.filter_cons, List.flatMap_cons, List.filter_append]
    cases e : q x with
    | true => rw [if_pos rfl, List.flatMap_cons, ih]
    | false =>
      have z : (f x).filter k = [] := List.filter_eq_nil_iff.2 fun y hy hk => by
        rw [h x List.mem_cons_self y hy hk] at e
        cases e
      rw [if_neg (by simp), ih, z, List.nil_append]
theorem fnd_step {n : Nat} {o : Row} {rs : List (Nat × Nat)} {j : Nat} (hj : j < rs.length) : fnd n o rs (j + 1) = (fnd n o rs j).flatMap fun p => [p ++ [0], p ++ [1]].filter fun p => decide (rem n o (rs.take (j + 1)) p ∈ bagS n o (rs.drop (j + 1))) := by
  unfold fnd
  rw [marks_snoc, filter_flat]
  intro p hp y hy hk
  have lp := (marks_mem.1 hp).1
  refine decide_eq_true ?_
  rw [List.mem_cons, List.mem_singleton] at hy
  rcases hy with rfl | rfl
  · exact fnd_back hj lp (.inl rfl) (of_decide_eq_true hk)
  · exact fnd_back hj lp (.inr rfl) (of_decide_eq_true hk)
theorem fnd_zero (n : Nat) {o : Row} (ho : o.length = n) (rs : List (Nat × Nat)) : fnd n o rs 0 = if o ∈ bagS n o rs then [[]] else [] := by
  unfold fnd
  have e : rem n o (rs.take 0) [] = o := by
    unfold rem zc
    rw [List.take_zero]
    conv => rhs; rw [rowF_of ho]
    refine rowF_ext.2 fun c _ => ?_
    simp
  show List.filter _ [[]] = _
  rw [List.filter_cons]
  rw [e, List.drop_zero]
  by_cases h : o ∈ bagS n o rs <;> simp [h]
theorem fnd_last {n : Nat} {o : Row} (ho : o.length = n) (h0 : ∀ c, c < n → 0 ≤ o.getD c 0) (rs : List (Nat × Nat)) : fnd n o rs rs.length = (marks rs.length).filter fun t => decide (ro n rs t = o) := by
  unfold fnd
  refine List.filter_congr fun t ht => ?_
  rw [List.take_length, List.drop_length]
  have e : bagS n o [] = [rowF n fun _ => 0] := by
    have q : ro n [] [] = rowF n fun _ => 0 := by
      refine rowF_ext.2 fun c _ => ?_
      rfl
    show List.filter (leq n o) [ro n [] []] = _
    rw [q, List.filter_cons, if_pos]
    · rfl
    · refine leq_iff.2 fun c hc => ?_
      rw [rowF_getD hc]
      exact h0 c hc
  refine decide_eq_decide.2 ?_
  rw [e, List.mem_singleton]
  unfold rem ro
  conv => rhs; rw [rowF_of ho]
  rw [rowF_ext, rowF_ext]
  constructor
  · intro h c hc
    have := h c hc
    omega
  · intro h c hc
    have := h c hc
    omega
end K96
end

section
set_option autoImplicit false
set_option linter.all false
namespace K96
/-! ways from a crossing, lap by lap -/
section
variable {m n c : Nat} {T H : Nat → Nat}
abbrev WD := List (Nat × List Nat)
def wk (W : WD) : List Nat := W.map (·.1)
def wget : WD → Nat → Option (List Nat)
  | [], _ => none
  | p :: W, k => if p.1 = k then some p.2 else wget W k
theorem wget_mem {W : WD} {k : Nat} {p : List Nat} (h : wget W k = some p) : (k, p) ∈ W := by
  induction W with
  | nil => cases h
  | cons q W ih =>
    unfold wget at h
    by_cases e : q.1 = k
    · rw [if_pos e] at h; cases h; subst e; exact List.mem_cons_self
    · rw [if_neg e] at h; exact List.mem_cons_of_mem _ (ih h)
theorem wget_some {W : WD} {k : Nat} (h : k ∈ wk W) : ∃ p, wget W k = some p := by
  induction W with
  | nil => cases h
  | cons q W ih =>
    unfold wget
    by_cases e : q.1 = k
    · exact ⟨_, if_pos e⟩
    · rw [if_neg e]
      refine ih ?_
      rcases List.mem_cons.1 h with z | z
      · exact absurd z.symm e
      · exact z
theorem wget_isSome {W : WD} {k : Nat} : (wget W k).isSome = decide (k ∈ wk W) := by
  by_cases h : k ∈ wk W
  · obtain ⟨p, e⟩ := wget_some h
    rw [e]; simp [h]
  · cases e : wget W k with
    | none => simp [h]
    | some p => exact absurd (List.mem_map.2 ⟨_, wget_mem e, rfl⟩) h
structure WOk (m : Nat) (T H : Nat → Nat) (n c : Nat) (W : WD) : Prop where
  nd : (wk W).Nodup
  lt : ∀ v ∈ wk W, v < n
  c0 : c ∈ wk W
  way : ∀ q ∈ W, IsWay m T H c q.2 q.1 ∧ (q.2.map T ++ [q.1]).Nodup ∧ ∀ x ∈ q.2.map T, x ∈ wk W
theorem wok_one (hc : c < n) : WOk m T H n c [(c, [])] where
  nd := List.nodup_cons.2 ⟨List.not_mem_nil, List.nodup_nil⟩
  lt := fun v hv => by
    have : v = c := by simpa [wk] using hv
    omega
  c0 := List.mem_cons_self
  way := fun q hq => by
    rw [List.mem_singleton] at hq
    subst hq
    exact ⟨rfl, List.nodup_cons.2 ⟨List.not_mem_nil, List.nodup_nil⟩, fun _ h => nomatch h⟩
theorem wok_put {W : WD} (h : WOk m T H n c W) {r : Nat} {p : List Nat} (hr : r < m) (hp : wget W (T r) = some p) (hn : H r ∉ wk W) (hl : H r < n) : WOk m T H n c (W ++ [(H r, p ++ [r])]) := by
  have ek : wk (W ++ [(H r, p ++ [r])]) = wk W ++ [H r] := by unfold wk; rw [List.map_append]; rfl
  obtain ⟨w1, w2, w3⟩ := h.way _ (wget_mem hp)
  have ht : T r ∈ wk W := List.mem_map.2 ⟨_, wget_mem hp, rfl⟩
  refine ⟨?_, fun v hv => ?_, ?_, fun q hq => ?_⟩
  · rw [ek]
    exact List.nodup_append.2 ⟨h.nd, List.nodup_cons.2 ⟨List.not_mem_nil, List.nodup_nil⟩, fun x hx y hy e => hn (by rw [List.mem_singleton] at hy; rw [← hy, ← e]; exact hx)⟩
  · rw [ek, List.mem_append, List.mem_singleton] at hv
    rcases hv with z | z
    · exact h.lt v z
    · omega
  · rw [ek]; exact List.mem_append_left _ h.c0
  · rw [ek]
    rcases List.mem_append.1 hq with z | z
    · obtain ⟨a1, a2, a3⟩ := h.way q z
      exact ⟨a1, a2, fun x hx => List.mem_append_left _ (a3 x hx)⟩
    · rw [List.mem_singleton] at z
      subst z
      have all : ∀ x ∈ (p ++ [r]).map T, x ∈ wk W := fun x hx => by
        rw [List.map_append, List.mem_append] at hx
        rcases hx with z | z
        · exact w3 _ z
        · have e : x = T r := by simpa using z
          rw [e]; exact ht
      refine ⟨way_snoc w1 hr rfl, ?_, fun x hx => List.mem_append_left _ (all x hx)⟩
      refine List.nodup_append.2 ⟨?_, List.nodup_cons.2 ⟨List.not_mem_nil, List.nodup_nil⟩, fun x hx y hy e => ?_⟩
      · rw [List.map_append]; exact w2
      · rw [List.mem_singleton] at hy
        subst hy
        subst e
        exact hn (all _ hx)
/-- within a lap: here is walked, the first j roads are done -/
structure BI (m : Nat) (T H : Nat → Nat) (n c : Nat) (here : List Nat) (w0 j : Nat) (W : WD) (late : List Nat) : Prop where
  ok : WOk m T H n c W
  hs : ∀ v ∈ here, v ∈ wk W
  ls : ∀ v ∈ late, v ∈ wk W
  cl : ∀ v ∈ wk W, v ∈ here ∨ v ∈ late ∨ ∀ r, r < m → T r = v → H r ∈ wk W
  dn : ∀ r, r < j → T r ∈ here → H r ∈ wk W
  gr : W.length = w0 + late.length
def bst (T H : Nat → Nat) (here : List Nat) (r : Nat) (s : WD × List Nat) : WD × List Nat :=
  if T r ∈ here ∧ H r ∉ wk s.1 then (s.1 ++ [(H r, ((wget s.1 (T r)).getD []) ++ [r])], s.2 ++ [H r]) else s
theorem bi_step {here late : List Nat} {w0 j : Nat} {W : WD} (h : BI m T H n c here w0 j W late) (hj : j < m) (hl : H j < n) : BI m T H n c here w0 (j + 1) (bst T H here j (W, late)).1 (bst T H here j (W, late)).2 := by
  unfold bst
  by_cases q : T j ∈ here ∧ H j ∉ wk W
  · rw [if_pos q]
    obtain ⟨p, e⟩ := wget_some (h.hs _ q.1)
    simp only [e, Option.getD_some]
    have ek : wk (W ++ [(H j, p ++ [j])]) = wk W ++ [H j] := by unfold wk; rw [List.map_append]; rfl
    refine ⟨wok_put h.ok hj e q.2 hl, fun v hv => ?_, fun v hv => ?_, fun v hv => ?_, fun r hr ht => ?_, ?_⟩
    · rw [ek]; exact List.mem_append_left _ (h.hs v hv)
    · rw [ek]
      rcases List.mem_append.1 hv with z | z
      · exact List.mem_append_left _ (h.ls v z)
      · exact List.mem_append_right _ z
    · rw [ek] at hv ⊢
      rcases List.mem_append.1 hv with z | z
      · rcases h.cl v z with y | y | y
        · exact .inl y
        · exact .inr (.inl (List.mem_append_left _ y))
        · exact .inr (.inr fun r hr e => List.mem_append_left _ (y r hr e))
      · exact .inr (.inl (List.mem_append_right _ z))
    · rw [ek]
      by_cases e : r = j
      · subst e; exact List.mem_append_right _ List.mem_cons_self
      · exact List.mem_append_left _ (h.dn r (by omega) ht)
    · have := h.gr
      rw [List.length_append, List.length_append, List.length_singleton, List.length_singleton]; omega
  · rw [if_neg q]
    refine ⟨h.ok, h.hs, h.ls, h.cl, fun r hr ht => ?_, h.gr⟩
    by_cases e : r = j
    · subst e
      rcases Classical.em (H r ∈ wk W) with z | z
      · exact z
      · exact absurd ⟨ht, z⟩ q
    · exact h.dn r (by omega) ht
/-- between laps -/
structure BL (m : Nat) (T H : Nat → Nat) (n c : Nat) (W : WD) (late : List Nat) : Prop where
  ok : WOk m T H n c W
  ls : ∀ v ∈ late, v ∈ wk W
  cl : ∀ v ∈ wk W, v ∈ late ∨ ∀ r, r < m → T r = v → H r ∈ wk W
theorem bl_bi {W : WD} {late : List Nat} (h : BL m T H n c W late) : BI m T H n c late W.length 0 W [] :=
  by
  refine ⟨h.ok, h.ls, fun _ z => (List.not_mem_nil z).elim, fun v hv => ?_, fun r hr => absurd hr (Nat.not_lt_zero r), rfl⟩
  rcases h.cl v hv with z | z
  · exact .inl z
  · exact .inr (.inr z)
theorem bi_bl {here late : List Nat} {w0 : Nat} {W : WD} (h : BI m T H n c here w0 m W late) : BL m T H n c W late := by
  refine ⟨h.ok, h.ls, fun v hv => ?_⟩
  rcases h.cl v hv with z | z | z
  · refine .inr fun r hr e => ?_
    subst e
    exact h.dn r hr z
  · exact .inl z
  · exact .inr z
theorem bl_start (hc : c < n) : BL m T H n c [(c, [])] [c] :=
  ⟨wok_one hc, fun v hv => by rw [List.mem_singleton] at hv; subst hv; exact List.mem_cons_self, fun v hv => .inl hv⟩
theorem WOk.few {W : WD} (h : WOk m T H n c W) : W.length ≤ n := by
  have := nodup_le h.nd h.lt
  unfold wk at this
  rwa [List.length_map] at this
/-- the ways from a crossing -/
structure Ways (m : Nat) (T H : Nat → Nat) (n c : Nat) (W : WD) : Prop where
  ok : WOk m T H n c W
  cl : ∀ r, r < m → T r ∈ wk W → H r ∈ wk W
theorem bl_end {W : WD} (h : BL m T H n c W []) : Ways m T H n c W :=
  ⟨h.ok, fun r hr ht => (h.cl _ ht).elim (fun z => nomatch z) fun z => z r hr rfl⟩
theorem Ways.rch {W : WD} (h : Ways m T H n c W) (v : Nat) : v ∈ wk W ↔ Rch m T H c v := by
  constructor
  · intro hv
    obtain ⟨q, hq, rfl⟩ := List.mem_map.1 hv
    exact rch_way .refl (h.ok.way q hq).1
  · intro hv
    induction hv with
    | refl => exact h.ok.c0
    | step _ hr ih => exact h.cl _ hr ih
theorem rch_trans {a b d : Nat} (h1 : Rch m T H a b) (h2 : Rch m T H b d) : Rch m T H a d := by
  induction h2 with
  | refl => exact h1
  | step _ hr ih => exact .step ih hr
theorem nodup_of_map {α β : Type} {f : α → β} {l : List α} (h : (l.map f).Nodup) : l.Nodup := by
  induction l with
  | nil => exact List.nodup_nil
  | cons x l ih =>
    rw [List.map_cons] at h
    obtain ⟨h1, h2⟩ := List.nodup_cons.1 h
    exact List.nodup_cons.2 ⟨fun z => h1 (List.mem_map.2 ⟨x, z, rfl⟩), ih h2⟩
theorem Ways.simple {W : WD} (h : Ways m T H n c W) {v : Nat} {p : List Nat} (e : wget W v = some p) : IsWay m T H c p v ∧ p.Nodup ∧ (p.map T ++ [v]).Nodup := by
  obtain ⟨a1, a2, _⟩ := h.ok.way _ (wget_mem e)
  exact ⟨a1, nodup_of_map (List.nodup_append.1 a2).1, a2⟩
end
end K96
end

section
set_option Elab.async false
set_option linter.all false
set_option maxRecDepth 100000
set_option maxHeartbeats 4000000
/-! what k96's defs compute -/
namespace K96
open PySem Pl L2
def rdD (r : Nat × Nat) : D := .tup [.int (r.1 : Int), .int (r.2 : Int)]
def frD (n : Nat) (rs : List (Nat × Nat)) : D := .tup [.int (n : Int), .tup (rs.map rdD)]
def nI (l : List Nat) : List Int := l.map fun c : Nat => (c : Int)
/-- a frame's roads end within it; it is small -/
structure Fr (n : Nat) (rs : List (Nat × Nat)) : Prop where
  n1 : 1 ≤ n
  n4 : n ≤ 4
  m1 : 1 ≤ rs.length
  m7 : rs.length ≤ 7
  ends : ∀ r ∈ rs, r.1 < n ∧ r.2 < n
structure Tg (rs : List (Nat × Nat)) (t : List Int) : Prop where
  len : t.length = rs.length
  bit : ∀ k ∈ t, k = 0 ∨ k = 1
def tl (rs : List (Nat × Nat)) (t : List Int) (r : Nat) : Nat := pick (rs.getD r (0, 0)) (t.getD r 0)
def hd (rs : List (Nat × Nat)) (t : List Int) (r : Nat) : Nat := pick (rs.getD r (0, 0)) (1 - t.getD r 0)
theorem atI_map {α β : Type} {xs : List α} {f : α → β} {r : Nat} (h : r < xs.length) : atI (xs.map f) (r : Int) = some (f (xs[r])) := by
  rw [atI_lt (by simpa using h)]
  simp
@[simp] theorem itemW_fr0 (n : Nat) (rs : List (Nat × Nat)) : itemW (.im (frD n rs)) 0 = some (.im (.int (n : Int))) := rfl
@[simp] theorem itemW_fr1 (n : Nat) (rs : List (Nat × Nat)) : itemW (.im (frD n rs)) 1 = some (.im (.tup (rs.map rdD))) := rfl
@[simp] theorem itemW_iT (t : List Int) (i : Int) : itemW (.im (iT t)) i = (atI (t.map D.int) i).map W.im := rfl
@[simp] theorem itemW_rd (r : Nat × Nat) (i : Int) : itemW (.im (rdD r)) i = (atI [D.int (r.1 : Int), D.int (r.2 : Int)] i).map W.im := rfl
@[simp] theorem lenW_iT (t : List Int) : lenW (.im (iT t)) = some t.length := by
  show some (t.map D.int).length = _
  rw [List.length_map]
@[simp] theorem tupD_iT (t : List Int) : tupD (.im (iT t)) = some (t.map D.int) := rfl
@[simp] theorem tupD_rd (r : Nat × Nat) : tupD (.im (rdD r)) = some [D.int (r.1 : Int), D.int (r.2 : Int)] := rfl
@[simp] theorem seqD_iT (t : List Int) : seqD (.im (iT t)) = some (t.map D.int) := rfl
@[simp] theorem isPtp_iT (t : List Int) : isPtp (.im (iT t)) = false := rfl
@[simp] theorem isNon_iT (t : List Int) : isNon (.im (iT t)) = some false := rfl
@[simp] theorem tyD_iT (t : List Int) : tyD (iT t) = "tuple" := rfl
@[simp] theorem seqM_iT (t : List Int) : seqM (.im (iT t)) = some ((t.map D.int).map M.im) := rfl
theorem flat_one {α : Type} (k : Nat) (x : α) : (List.replicate k [x]).flatten = List.replicate k x := by
  induction k with
  | zero => rfl
  | succ k ih => rw [List.replicate_succ, List.flatten_cons, ih]; rfl
theorem oRepL_one (d : D) (k : Nat) (h : k ≤ 1000) : oRepL (.new (.lst [.im d])) (.im (.int (k : Int))) = some (.new (.lst ((List.replicate k d).map M.im))) := by
  have h1 : smI (k : Int) = true := smI_nat (by omega)
  have h2 : szOk k = true := szOk_m (by omega)
  simp [oRepL, h1, h2, flat_one, -List.map_replicate]
theorem atI_rd (r : Nat × Nat) (k : Int) (h : k = 0 ∨ k = 1) : atI [D.int (r.1 : Int), D.int (r.2 : Int)] k = some (.int (pick r k)) := by
  rcases h with rfl | rfl <;> rfl
section
variable {n : Nat} {rs : List (Nat × Nat)} {t : List Int} {r : Nat}
theorem Tg.lt (g : Tg rs t) (hr : r < rs.length) : r < t.length := by rw [g.len]; exact hr
theorem Tg.at (g : Tg rs t) (hr : r < t.length) : t[r] = 0 ∨ t[r] = 1 := g.bit _ (List.getElem_mem hr)
theorem tl_eq (g : Tg rs t) (hr : r < rs.length) : tl rs t r = pick rs[r] (t[r]'(g.lt hr)) := by
  unfold tl
  simp [List.getD_eq_getElem?_getD, hr, g.lt hr]
theorem hd_eq (g : Tg rs t) (hr : r < rs.length) : hd rs t r = pick rs[r] (1 - t[r]'(g.lt hr)) := by
  unfold hd
  simp [List.getD_eq_getElem?_getD, hr, g.lt hr]
theorem pick_lt {a : Nat × Nat} {k : Int} (h : a.1 < n ∧ a.2 < n) : pick a k < n := by
  unfold pick
  by_cases c : k = 0
  · rw [if_pos c]; exact h.1
  · rw [if_neg c]; exact h.2
theorem tl_lt (F : Fr n rs) (hr : r < rs.length) : tl rs t r < n := by
  unfold tl
  refine pick_lt ?_
  have q := F.ends _ (List.getElem_mem hr)
  simpa [List.getD_eq_getElem?_getD, hr] using q
theorem hd_lt (F : Fr n rs) (hr : r < rs.length) : hd rs t r < n := by
  unfold hd
  refine pick_lt ?_
  have q := F.ends _ (List.getElem_mem hr)
  simpa [List.getD_eq_getElem?_getD, hr] using q
theorem tail_at (g : Tg rs t) (hr : r < rs.length) : m_tail_of [.im (frD n rs), .im (iT t), .im (.int r)] = some (.im (.int (tl rs t r))) := by
  have h1 := atI_map (f := rdD) hr
  have h2 := atI_map (f := D.int) (g.lt hr)
  have h3 := atI_rd rs[r] _ (g.at (g.lt hr))
  simp [m_tail_of, runF, f_tail_of, h1, h2, h3, tl_eq g hr]
theorem head_at (g : Tg rs t) (hr : r < rs.length) : m_head_of [.im (frD n rs), .im (iT t), .im (.int r)] = some (.im (.int (hd rs t r))) := by
  have h1 := atI_map (f := rdD) hr
  have h2 := atI_map (f := D.int) (g.lt hr)
  have h3 := atI_rd rs[r] (1 - t[r]'(g.lt hr)) (by have := g.at (g.lt hr); omega)
  simp [m_head_of, runF, f_head_of, h1, h2, h3, hd_eq g hr]
end
end K96
end

section
set_option Elab.async false
set_option linter.all false
set_option maxRecDepth 100000
set_option maxHeartbeats 4000000
namespace K96
open PySem Pl L2
theorem set_rowF {n c : Nat} {f : Nat → Int} {k : Int} (h : c < n) : (rowF n f).set c (f c + k) = rowF n fun i => f i + if i = c then k else 0 := by
  refine List.ext_getElem (by simp [rowF]) fun i h1 h2 => ?_
  rw [List.getElem_set]
  by_cases e : c = i
  · subst e; simp [rowF]
  · have e' : ¬ i = c := fun z => e z.symm
    simp [rowF, e, e']
theorem cnt_range (T : Nat → Nat) (c j : Nat) : cnt T c (List.range (j + 1)) = cnt T c (List.range j) + if T j = c then 1 else 0 := by
  rw [List.range_succ, cnt_app, cnt_cons]
  simp [cnt]
theorem zip_tl {rs : List (Nat × Nat)} {t : List Int} (h : t.length = rs.length) (c : Nat) : zc rs t c = oc rs.length (tl rs t) c := by
  have e : rs.zip t = (List.range rs.length).map fun r => (rs.getD r (0, 0), t.getD r 0) := by
    refine List.ext_getElem (by simp [h]) fun i h1 h2 => ?_
    simp at h1
    have a1 : i < rs.length := by omega
    have a2 : i < t.length := by omega
    simp [List.getD_eq_getElem?_getD, a1, a2]
  unfold zc oc cnt
  rw [e, List.countP_map]
  rfl
theorem ro_oc {n : Nat} {rs : List (Nat × Nat)} {t : List Int} (h : t.length = rs.length) : ro n rs t = rowF n fun c => (oc rs.length (tl rs t) c : Int) := by
  unfold ro
  refine rowF_ext.2 fun c _ => ?_
  rw [zip_tl h]
section
variable {n : Nat} {rs : List (Nat × Nat)} {t : List Int} {r : Nat}
theorem outs_spec (F : Fr n rs) (g : Tg rs t) : m_outs_of [.im (frD n rs), .im (iT t)] = some (.im (iT (ro n rs t))) := by
  have h4 := F.n4
  have h7 := F.m7
  have sn : smI (n : Int) = true := smI_nat (by omega)
  have sz : szOk n = true := szOk_m (by omega)
  have sm : smI (rs.length : Int) = true := smI_nat (by omega)
  obtain ⟨ρ', e, c, rfl⟩ := for_rng (fg := gfN 3) (f := fAugL 2 (fCall 3 m_tail_of (fCons (fVar 0) (fCons (fVar 1) (fCons (fVar 3) fNil)))) (fC (.int 1))) (s := ()) (ρ := [.im (frD n rs), .im (iT t), .own (.lst ((List.replicate n (D.int 0)).map M.im)), .no]) rs.length
    (fun j ρ => ∃ c, ρ = [.im (frD n rs), .im (iT t), .own (.lst (((rowF n fun c => (cnt (tl rs t) c (List.range j) : Int)).map D.int).map M.im)), c]) ⟨.no, by
      have z : (rowF n fun c => (cnt (tl rs t) c (List.range 0) : Int)) = List.replicate n 0 := by
        refine List.eq_replicate_iff.2 ⟨rowF_len .., fun b hb => ?_⟩
        obtain ⟨c, _, rfl⟩ := List.mem_map.1 hb
        rfl
      rw [z]; simp⟩ (fun j ρ hj ⟨c, hc⟩ => by
    subst hc
    refine ⟨_, _, rfl, ?_, .im (.int (j : Int)), rfl⟩
    have hl := tl_lt (t := t) F hj
    simp [tail_at g hj, rowF_at hl, -List.map_map]
    have q := set_rowF (n := n) (c := tl rs t j) (f := fun c => (cnt (tl rs t) c (List.range j) : Int)) (k := 1) hl
    have q2 : (rowF n fun c => (cnt (tl rs t) c (List.range (j + 1)) : Int)) = rowF n fun i => (cnt (tl rs t) i (List.range j) : Int) + if i = tl rs t j then 1 else 0 := by
      refine rowF_ext.2 fun i _ => ?_
      rw [cnt_range]
      by_cases e : tl rs t j = i
      · simp [e]
      · have e' : ¬ i = tl rs t j := fun z => e z.symm
        simp [e, e']
    rw [q2, ← q]
    simp [List.map_set])
  simp [m_outs_of, runF, f_outs_of, oRepL_one, show n ≤ 1000 by omega, sm, -List.map_map, -List.map_replicate, e]
  rw [ro_oc g.len]
  rfl
end
end K96
end

section
set_option Elab.async false
set_option linter.all false
set_option maxRecDepth 100000
set_option maxHeartbeats 4000000
namespace K96
open PySem Pl L2
/-! data that is a tuple of whole numbers -/
def IsR (d : D) (r : List Int) : Prop := d = iT r ∨ d = .ptp (r.map .int)
theorem isR_iT (r : List Int) : IsR (iT r) r := .inl rfl
theorem isR_ptp (r : List Int) : IsR (.ptp (r.map .int)) r := .inr rfl
section
variable {d : D} {r : List Int}
theorem IsR.py (h : IsR d r) : d.py = .tuple (r.map PyData.int) := by
  rcases h with rfl | rfl
  · exact py_iT r
  · show PyData.tuple (D.pys (r.map D.int)) = _
    rw [pys_ints]
theorem IsR.pyW (h : IsR d r) : pyW (.im d) = some (.tuple (r.map PyData.int)) := congrArg some h.py
theorem IsR.tupD (h : IsR d r) : tupD (.im d) = some (r.map .int) := by rcases h with rfl | rfl <;> rfl
theorem IsR.seqD (h : IsR d r) : seqD (.im d) = some (r.map .int) := by rcases h with rfl | rfl <;> rfl
theorem IsR.itemW (h : IsR d r) (i : Int) : itemW (.im d) i = (atI (r.map .int) i).map W.im := by rcases h with rfl | rfl <;> rfl
theorem IsR.lenW (h : IsR d r) : lenW (.im d) = some r.length := by
  rcases h with rfl | rfl
  · exact lenW_iT r
  · show some (r.map D.int).length = _
    rw [List.length_map]
theorem IsR.tyD (h : IsR d r) : tyD d = "tuple" := by rcases h with rfl | rfl <;> rfl
theorem IsR.isNon (h : IsR d r) : isNon (.im d) = some false := by rcases h with rfl | rfl <;> rfl
end
theorem eqv_int (a b : Int) : PyData.eqv (.int a) (.int b) = decide (a = b) := by
  rw [PyData.eqv]
  rfl
theorem eqv_tup (a b : List Int) : PyData.eqv (.tuple (a.map .int)) (.tuple (b.map .int)) = decide (a = b) := by
  rw [PyData.eqv]
  exact PySem.W.ked_eqvAll a b
theorem eqv_lst (a b : List Int) : PyData.eqv (.list (a.map .int)) (.list (b.map .int)) = decide (a = b) := by
  rw [PyData.eqv]
  exact PySem.W.ked_eqvAll a b
theorem any_ints (r : List Int) (i : Int) : ((r.map PyData.int).any fun z => PyData.eqv z (.int i)) = decide (i ∈ r) := by
  induction r with
  | nil => rfl
  | cons x r ih =>
    rw [List.map_cons, List.any_cons, ih, eqv_int]
    by_cases h : x = i
    · subst h; simp
    · have h' : ¬ i = x := fun z => h z.symm
      simp [h, h']
theorem any_rows (rs : List (List Int)) (t : List Int) : ((rs.map fun r => (iT r).py).any fun z => PyData.eqv z (.tuple (t.map .int))) = decide (t ∈ rs) := by
  induction rs with
  | nil => rfl
  | cons x r ih =>
    rw [List.map_cons, List.any_cons, ih, py_iT, eqv_tup]
    by_cases h : x = t
    · subst h; simp
    · have h' : ¬ t = x := fun z => h z.symm
      simp [h, h']
theorem ok_int (i : Int) : okPy (.int i) = true := rfl
theorem ok_ints (r : List Int) : okPy (.tuple (r.map .int)) = true := PySem.W.ke_shaped_ints r
theorem ok_lints (r : List Int) : okPy (.list (r.map .int)) = true := PySem.W.ke_shaped_ints r
theorem ok_rows (rs : List (List Int)) : okPy (.tuple (rs.map fun r => (iT r).py)) = true := by
  have h1 : ∀ rs : List (List Int), PyData.canLayAll0 (rs.map fun r => (iT r).py) = true := fun rs => by
    induction rs with
    | nil => rfl
    | cons x r ih =>
      rw [List.map_cons, PyData.canLayAll0, ih, py_iT, PyData.canLay0, PySem.W.ke_canLayAll0]
      rfl
  have h2 : ∀ rs : List (List Int), PyData.depthAll (rs.map fun r => (iT r).py) ≤ 1 := fun rs => by
    induction rs with
    | nil => exact Nat.zero_le _
    | cons x r ih =>
      have : (iT x).py.depth ≤ 1 := by rw [py_iT]; simp [PyData.depth, PySem.W.ke_depthAll]
      rw [List.map_cons, PyData.depthAll]
      omega
  unfold okPy SeqAt.shaped
  rw [Bool.and_eq_true, decide_eq_true_iff]
  refine ⟨by rw [PyData.canLay0]; exact h1 rs, ?_⟩
  rw [PyData.depth]
  have := h2 rs
  omega
theorem pys_im (ds : List D) : M.pys (ds.map M.im) = some (ds.map D.py) := by
  induction ds with
  | nil => rfl
  | cons d ds ih =>
    show (match M.py (.im d), M.pys (ds.map M.im) with | some p, some ps => some (p :: ps) | _, _ => none) = _
    rw [ih]
    rfl
theorem py_lst (ds : List D) : M.py (.lst (ds.map M.im)) = some (.list (ds.map D.py)) := by
  show (M.pys (ds.map M.im)).map PyData.list = _
  rw [pys_im]
  rfl
theorem map_py_int (r : List Int) : (r.map D.int).map D.py = r.map PyData.int := by
  rw [List.map_map]; rfl
theorem oIn_R {d : D} {r : List Int} (h : IsR d r) (neg : Bool) (i : Int) : oIn neg (.im (.int i)) (.im d) = some (.bl (if neg then !decide (i ∈ r) else decide (i ∈ r))) := by
  show (match some (PyData.int i), (some d.py).bind seqPy with | some d, some ds => if okPy d && okPy (.tuple ds) then some (D.bl (if neg then !(ds.any fun z => PyData.eqv z d) else ds.any fun z => PyData.eqv z d)) else none | _, _ => none) = _
  rw [h.py]
  show (if okPy (.int i) && okPy (.tuple (r.map .int)) then _ else _) = _
  rw [ok_int, ok_ints, any_ints]
  rfl
theorem oIn_L (w : W) (r : List Int) (h : w = .new (.lst ((r.map D.int).map M.im)) ∨ ∃ j, w = .sl j (.lst ((r.map D.int).map M.im))) (neg : Bool) (i : Int) : oIn neg (.im (.int i)) w = some (.bl (if neg then !decide (i ∈ r) else decide (i ∈ r))) := by
  have e : pyW w = some (.list (r.map .int)) := by
    rcases h with rfl | ⟨j, rfl⟩
    · show M.py (.lst ((r.map D.int).map M.im)) = _
      rw [py_lst, map_py_int]
    · show M.py (.lst ((r.map D.int).map M.im)) = _
      rw [py_lst, map_py_int]
  unfold oIn
  rw [e]
  show (if okPy (.int i) && okPy (.tuple (r.map .int)) then _ else _) = _
  rw [ok_int, ok_ints, show (D.int i).py = PyData.int i from rfl, any_ints]
  rfl
theorem oIn_rows (w : W) (rs : List (List Int)) (h : w = .new (.lst ((rs.map iT).map M.im)) ∨ ∃ j, w = .sl j (.lst ((rs.map iT).map M.im))) (neg : Bool) {d : D} {t : List Int} (hd : IsR d t) : oIn neg (.im d) w = some (.bl (if neg then !decide (t ∈ rs) else decide (t ∈ rs))) := by
  have e : pyW w = some (.list (rs.map fun r => (iT r).py)) := by
    rcases h with rfl | ⟨j, rfl⟩
    · show M.py (.lst ((rs.map iT).map M.im)) = _
      rw [py_lst, List.map_map]; rfl
    · show M.py (.lst ((rs.map iT).map M.im)) = _
      rw [py_lst, List.map_map]; rfl
  unfold oIn
  rw [e, show pyW (.im d) = some (.tuple (t.map .int)) from congrArg some hd.py]
  show (if okPy (.tuple (t.map .int)) && okPy (.tuple (rs.map fun r => (iT r).py)) then _ else _) = _
  rw [ok_ints, ok_rows, any_rows]
  rfl
theorem oEq_int (i j : Int) : oEq (.im (.int i)) (.im (.int j)) = some (.bl (decide (i = j))) := by
  show (if okPy (.int i) && okPy (.int j) then some (D.bl (PyData.eqv (.int i) (.int j))) else none) = _
  rw [ok_int, ok_int, eqv_int]
  rfl
theorem oNe_int (i j : Int) : oNe (.im (.int i)) (.im (.int j)) = some (.bl (!decide (i = j))) := by
  show (if okPy (.int i) && okPy (.int j) then some (D.bl (!PyData.eqv (.int i) (.int j))) else none) = _
  rw [ok_int, ok_int, eqv_int]
  rfl
theorem oEq_of {x y : W} {p q : PyData} (h1 : pyW x = some p) (h2 : pyW y = some q) (o1 : okPy p = true) (o2 : okPy q = true) : oEq x y = some (.bl (PyData.eqv p q)) := by
  unfold oEq
  rw [h1, h2]
  show (if okPy p && okPy q then _ else _) = _
  rw [o1, o2]
  rfl
theorem oNe_of {x y : W} {p q : PyData} (h1 : pyW x = some p) (h2 : pyW y = some q) (o1 : okPy p = true) (o2 : okPy q = true) : oNe x y = some (.bl (!PyData.eqv p q)) := by
  unfold oNe
  rw [h1, h2]
  show (if okPy p && okPy q then _ else _) = _
  rw [o1, o2]
  rfl
theorem oEq_R {d e : D} {r s : List Int} (h : IsR d r) (k : IsR e s) : oEq (.im d) (.im e) = some (.bl (decide (r = s))) := by
  rw [oEq_of h.pyW k.pyW (ok_ints _) (ok_ints _), eqv_tup]
theorem oNe_R {d e : D} {r s : List Int} (h : IsR d r) (k : IsR e s) : oNe (.im d) (.im e) = some (.bl (!decide (r = s))) := by
  rw [oNe_of h.pyW k.pyW (ok_ints _) (ok_ints _), eqv_tup]
theorem isR_nil : IsR (.tup []) [] := .inl rfl
/-- a list of whole numbers and another one -/
def IsL (w : W) (r : List Int) : Prop := w = .new (.lst ((r.map D.int).map M.im)) ∨ ∃ j, w = .sl j (.lst ((r.map D.int).map M.im))
theorem IsL.py {w : W} {r : List Int} (h : IsL w r) : pyW w = some (.list (r.map .int)) := by
  rcases h with rfl | ⟨j, rfl⟩
  · show M.py (.lst ((r.map D.int).map M.im)) = _
    rw [py_lst, map_py_int]
  · show M.py (.lst ((r.map D.int).map M.im)) = _
    rw [py_lst, map_py_int]
theorem oEq_L {x y : W} {r s : List Int} (h : IsL x r) (k : IsL y s) : oEq x y = some (.bl (decide (r = s))) := by
  rw [oEq_of h.py k.py (ok_lints _) (ok_lints _), eqv_lst]
theorem oNe_L {x y : W} {r s : List Int} (h : IsL x r) (k : IsL y s) : oNe x y = some (.bl (!decide (r = s))) := by
  rw [oNe_of h.py k.py (ok_lints _) (ok_lints _), eqv_lst]
theorem isL_sl (j : Nat) (r : List Int) : IsL (.sl j (.lst ((r.map D.int).map M.im))) r := .inr ⟨j, rfl⟩
theorem isL_new (r : List Int) : IsL (.new (.lst ((r.map D.int).map M.im))) r := .inl rfl
theorem isL_nil : IsL (.new (.lst [])) [] := .inl rfl
theorem ok_str (s : Str) (h : (PyData.str s).canLay0 = true) : okPy (.str s) = true := by
  unfold okPy SeqAt.shaped
  rw [h]
  rfl
end K96
end

section
set_option Elab.async false
set_option linter.all false
set_option maxRecDepth 100000
set_option maxHeartbeats 4000000
namespace K96
open PySem Pl L2
def at0 (t : List Int) (i : Nat) : Int := t.getD i 0
def enI (t : List Int) (i : Nat) : D := .tup [.int (i : Int), .int (at0 t i)]
def natD (i : Nat) : D := .int (i : Int)
def intM (i : Int) : M := .im (.int i)
theorem enum_ints (t : List Int) : enumD 0 (t.map D.int) = (List.range t.length).map (enI t) := by
  rw [enumD_0, List.length_map]
  refine List.map_congr_left fun i hi => ?_
  unfold enI at0
  rw [List.mem_range] at hi
  simp [List.getD_eq_getElem?_getD, hi]
theorem rng_nat (n : Nat) : rngD 0 n = (List.range n).map natD := rngD_0 n
theorem at0_at {t : List Int} {i : Nat} (h : i < t.length) : at0 t i = t[i] := by
  unfold at0
  simp [List.getD_eq_getElem?_getD, h]
theorem atI_at0 {t : List Int} {i : Nat} (h : i < t.length) : atI (t.map D.int) (i : Int) = some (.int (at0 t i)) := by
  rw [atI_map h, at0_at h]
theorem mem_nI {R : List Nat} {i : Nat} : (i : Int) ∈ nI R ↔ i ∈ R := by
  unfold nI
  rw [List.mem_map]
  constructor
  · rintro ⟨a, ha, e⟩
    have : a = i := by omega
    exact this ▸ ha
  · exact fun h => ⟨i, h, rfl⟩
theorem filter_true {α : Type} (l : List α) : (l.filter fun _ => true) = l := List.filter_eq_self.2 fun _ _ => rfl
theorem map_ints {α : Type} (l : List α) (f : α → Int) : l.map (fun x => intM (f x)) = ((l.map f).map D.int).map M.im := by
  rw [List.map_map, List.map_map]; rfl
def flp (t : List Int) (R : List Nat) : List Int := (List.range t.length).map fun i => if i ∈ R then 1 - at0 t i else at0 t i
theorem turned_spec {t : List Int} {R : List Nat} {d : D} (hl : t.length ≤ 1000) (h : IsR d (nI R)) : m_turned_roads [.im (iT t), .im d] = some (.im (iT (flp t R))) := by
  have lc := lc_all (S := Unit) (fg := gfTup 2 (gfCons (gfN 2) (gfCons (gfN 3) gfNil))) (ft := fYes) (fe := fIf (fTest (fOp (oIn false) (fVar 2) (fVar 1))) (fOp oSub (fC (.int 1)) (fVar 3)) (fVar 3)) (ρ := [.im (iT t), .im d, .no, .no]) (s := ())
    (enI t) (fun _ => true) (fun i => intM (if i ∈ R then 1 - at0 t i else at0 t i)) (List.range t.length) (fun i hi => by
      refine ⟨[.im (iT t), .im d, .im (.int (i : Int)), .im (.int (at0 t i))], rfl, rfl, fun _ => ?_⟩
      by_cases c : i ∈ R
      · refine ⟨.im (.int (1 - at0 t i)), ?_, by rw [if_pos c]; rfl⟩
        simp [oIn_R h, mem_nI, c]
      · refine ⟨.im (.int (at0 t i)), ?_, by rw [if_neg c]; rfl⟩
        simp [oIn_R h, mem_nI, c])
  rw [filter_true, map_ints] at lc
  have sz : szOk t.length = true := szOk_m (by omega)
  simp [m_turned_roads, runF, f_turned_roads, enum_ints, sz, lc, -List.map_map]
  rfl
theorem with_spec {row : List Int} {c : Nat} {k : Int} (hl : row.length ≤ 1000) : m_with_one [.im (iT row), .im (.int (c : Int)), .im (.int k)] = some (.im (iT (bump row c k))) := by
  have lc := lc_all (S := Unit) (fg := gfTup 2 (gfCons (gfN 3) (gfCons (gfN 4) gfNil))) (ft := fYes) (fe := fIf (fTest (fOp oEq (fVar 3) (fVar 1))) (fOp oAdd (fVar 4) (fVar 2)) (fVar 4)) (ρ := [.im (iT row), .im (.int (c : Int)), .im (.int k), .no, .no]) (s := ())
    (enI row) (fun _ => true) (fun i => intM (row.getD i 0 + if i = c then k else 0)) (List.range row.length) (fun i hi => by
      refine ⟨[.im (iT row), .im (.int (c : Int)), .im (.int k), .im (.int (i : Int)), .im (.int (at0 row i))], rfl, rfl, fun _ => ?_⟩
      by_cases e : i = c
      · refine ⟨.im (.int (at0 row i + k)), ?_, by rw [if_pos e]; rfl⟩
        simp [oEq_int, e]
      · refine ⟨.im (.int (at0 row i)), ?_, by rw [if_neg e, Int.add_zero]; rfl⟩
        have e2 : ¬ (i : Int) = (c : Int) := by omega
        simp [oEq_int, e2])
  rw [filter_true, map_ints] at lc
  have sz : szOk row.length = true := szOk_m (by omega)
  simp [m_with_one, runF, f_with_one, enum_ints, sz, lc, -List.map_map]
  rfl
theorem within_spec {n : Nat} {rs : List (Nat × Nat)} {lot : List Nat} {d : D} (hl : rs.length ≤ 1000) (h : IsR d (nI lot)) : m_roads_within [.im (frD n rs), .im d] = some (.im (.int ((rs.countP fun p => decide (p.1 ∈ lot) && decide (p.2 ∈ lot) : Nat) : Int))) := by
  have lc := lc_all (S := Unit) (fg := gfTup 2 (gfCons (gfN 2) (gfCons (gfN 3) gfNil))) (ft := fAnd (fTest (fOp (oIn false) (fVar 2) (fVar 1))) (fTest (fOp (oIn false) (fVar 3) (fVar 1)))) (fe := fC (.int 1)) (ρ := [.im (frD n rs), .im d, .no, .no]) (s := ())
    rdD (fun p => decide (p.1 ∈ lot) && decide (p.2 ∈ lot)) (fun _ => intM 1) rs (fun p hp => by
      refine ⟨[.im (frD n rs), .im d, .im (.int (p.1 : Int)), .im (.int (p.2 : Int))], rfl, ?_, fun _ => ⟨_, rfl, rfl⟩⟩
      simp [oIn_R h, mem_nI]
      by_cases c : p.1 ∈ lot <;> simp [c])
  have sz : szOk rs.length = true := szOk_m (by omega)
  simp [m_roads_within, runF, f_roads_within, sz, lc, -List.map_map, List.countP_eq_length_filter]
theorem intsD_map (r : List Int) : intsD (r.map D.int) = some r := intsD_ints r
theorem seqI_new (r : List Int) : seqI (.new (.lst ((r.map D.int).map M.im))) = some r := by
  unfold seqI
  rw [seqD_new, allIm_map]
  exact intsD_ints r
theorem seqI_sl (j : Nat) (r : List Int) : seqI (.sl j (.lst ((r.map D.int).map M.im))) = some r := by
  unfold seqI
  rw [seqD_sl, allIm_map]
  exact intsD_ints r
theorem seqI_R {d : D} {r : List Int} (h : IsR d r) : seqI (.im d) = some r := by
  unfold seqI
  rw [h.seqD]
  exact intsD_ints r
def smallR (r : List Int) : Prop := r.length ≤ 1000 ∧ ∀ k ∈ r, -1000 ≤ k ∧ k ≤ 1000
theorem smallI_of {r : List Int} (h : smallR r) : smallI r = true := by
  unfold smallI
  rw [Bool.and_eq_true, List.all_eq_true, decide_eq_true_iff]
  refine ⟨fun k hk => decide_eq_true ?_, by have := h.1; omega⟩
  have := h.2 k hk
  omega
theorem outs_at_spec {row : List Int} {lot : List Nat} {d : D} (hs : smallR row) (hl : ∀ c ∈ lot, c < row.length) (h2 : lot.length ≤ 1000) (h : IsR d (nI lot)) : m_outs_at [.im (iT row), .im d] = some (.im (.int (lot.map (at0 row)).sum)) := by
  have lc := lc_all (S := Unit) (fg := gfN 2) (ft := fYes) (fe := fIx (fVar 0) (fVar 2)) (ρ := [.im (iT row), .im d, .no]) (s := ())
    natD (fun _ => true) (fun c => intM (at0 row c)) lot (fun c hc => by
      refine ⟨[.im (iT row), .im d, .im (.int (c : Int))], rfl, rfl, fun _ => ⟨.im (.int (at0 row c)), ?_, rfl⟩⟩
      simp [atI_at0 (hl c hc)])
  rw [filter_true, map_ints] at lc
  have e : (nI lot).map D.int = lot.map natD := by unfold nI; rw [List.map_map]; rfl
  have sz : szOk lot.length = true := szOk_m (by omega)
  have sm : smallI (lot.map (at0 row)) = true := smallI_of ⟨by rw [List.length_map]; exact h2, fun k hk => by
    obtain ⟨c, hc, rfl⟩ := List.mem_map.1 hk
    rw [at0_at (hl c hc)]
    exact hs.2 _ (List.getElem_mem _)⟩
  simp [m_outs_at, runF, f_outs_at, h.tupD, e, sz, lc, -List.map_map, oSum, o1, seqI_new, sm]
/-- the first crossing with too many -/
def over (n : Nat) (o w : List Int) : List Nat := (List.range n).filter fun c => decide (at0 w c < at0 o c)
theorem too_spec {o w : List Int} (hl : o.length ≤ 1000) (h : o.length = w.length) : m_too_many [.im (iT o), .im (iT w)] = some (match over o.length o w with | [] => .im .non | c :: _ => .im (.int (c : Int))) := by
  have lc := lc_all (S := Unit) (fg := gfTup 2 (gfCons (gfN 3) (gfCons (gfN 4) gfNil))) (ft := fTest (fOp oGt (fVar 4) (fIx (fVar 1) (fVar 3)))) (fe := fVar 3) (ρ := [.im (iT o), .im (iT w), .no, .no, .no]) (s := ())
    (enI o) (fun c => decide (at0 w c < at0 o c)) (fun c => intM (c : Int)) (List.range o.length) (fun i hi => by
      refine ⟨[.im (iT o), .im (iT w), .no, .im (.int (i : Int)), .im (.int (at0 o i))], rfl, ?_, fun _ => ⟨_, rfl, rfl⟩⟩
      have hi := List.mem_range.1 hi
      simp [atI_at0 (h ▸ hi)])
  rw [map_ints, show (List.range o.length).filter (fun c => decide (at0 w c < at0 o c)) = over o.length o w from rfl] at lc
  have sz : szOk o.length = true := szOk_m (by omega)
  have ne := oNe_L (isL_sl 2 ((over o.length o w).map fun c : Nat => (c : Int))) isL_nil
  simp [m_too_many, runF, f_too_many, enum_ints, sz, lc, -List.map_map, ne]
  cases over o.length o w with
  | nil => simp
  | cons c r => simp [ofIx]
end K96
end

section
set_option Elab.async false
set_option linter.all false
set_option maxRecDepth 100000
set_option maxHeartbeats 4000000
namespace K96
open PySem Pl L2
def eW (p : Nat × List Nat) : L2.Key × D := (.inl (p.1 : Int), iT (nI p.2))
def dW (W : WD) : List (L2.Key × M) := dimg (W.map eW)
theorem dget_W (W : WD) (k : Nat) : dget (W.map eW) (.inl (k : Int)) = (wget W k).map fun p => iT (nI p) := by
  induction W with
  | nil => rfl
  | cons p W ih =>
    rw [List.map_cons, dget, wget]
    by_cases h : p.1 = k
    · rw [if_pos h, if_pos]
      · rfl
      · show (Sum.inl (p.1 : Int) : L2.Key) = _
        rw [h]
    · rw [if_neg h, if_neg, ih]
      intro e
      have e : (Sum.inl (p.1 : Int) : L2.Key) = Sum.inl (k : Int) := e
      injection e with e
      omega
theorem look_W (j : Nat) (W : WD) (k : Nat) : lookW (.sl j (.dk (dW W))) (.im (.int (k : Int))) = some ((wget W k).map fun p => iT (nI p)) := by
  unfold lookW
  simp [dW, keyD, dget_W]
theorem put_W {W : WD} {k : Nat} {p : List Nat} (h : k ∉ wk W) (hl : W.length ≤ 1000) : putC (.own (.dk (dW W))) (.im (.int (k : Int))) (.im (iT (nI p))) = some (.own (.dk (dW (W ++ [(k, p)])))) := by
  have sz : szOk W.length = true := szOk_m (by omega)
  have e : dput (W.map eW) (.inl (k : Int)) (iT (nI p)) = (W ++ [(k, p)]).map eW := by
    unfold dput
    rw [if_neg]
    · rw [List.map_append]; rfl
    · intro z
      rw [List.any_eq_true] at z
      obtain ⟨q, hq, e⟩ := z
      obtain ⟨x, hx, rfl⟩ := List.mem_map.1 hq
      have e := of_decide_eq_true e
      have e : (Sum.inl (x.1 : Int) : L2.Key) = Sum.inl (k : Int) := e
      injection e with e
      exact h (List.mem_map.2 ⟨x, hx, by omega⟩)
  unfold putC
  simp [dW, keyD, sz, e]
theorem stos_app (l : List D) (ws : List W) : stos (l.map W.im ++ ws) = (stos ws).map fun ms => l.map M.im ++ ms := by
  induction l with
  | nil => simp
  | cons x l ih => simp [ih, Function.comp_def]
@[simp] theorem nI_len (l : List Nat) : (nI l).length = l.length := by simp [nI]
theorem tupM_snoc (ds : List D) (d : D) : tupM (ds.map M.im ++ [M.im d]) = .im (.tup (ds ++ [d])) := by
  rw [← tupM_ims]; simp
theorem iT_snoc (r : List Int) (k : Int) : D.tup (r.map D.int ++ [D.int k]) = iT (r ++ [k]) := by
  unfold iT; simp
theorem nI_snoc (p : List Nat) (j : Nat) : nI p ++ [(j : Int)] = nI (p ++ [j]) := by simp [nI]
def natL (l : List Nat) : List M := ((nI l).map D.int).map M.im
theorem natL_app (l : List Nat) (c : Nat) : natL l ++ [.im (.int (c : Int))] = natL (l ++ [c]) := by
  unfold natL nI
  simp
theorem natL_len (l : List Nat) : (natL l).length = l.length := by simp [natL, nI]
theorem natL_nil : natL [] = [] := rfl
theorem isL_nat (j : Nat) (l : List Nat) : IsL (.sl j (.lst (natL l))) (nI l) := .inr ⟨j, rfl⟩
theorem nI_nil {l : List Nat} : nI l = [] ↔ l = [] := by unfold nI; exact List.map_eq_nil_iff
section
variable {n : Nat} {rs : List (Nat × Nat)} {t : List Int} {c : Nat}
/-- cells between laps -/
def cW (n : Nat) (rs : List (Nat × Nat)) (t : List Int) (c : Nat) (W : WD) (late : List Nat) (ρ : Rho) : Prop :=
  ∃ c5 c6 c7 c8, ρ = [.im (frD n rs), .im (iT t), .im (.int (c : Int)), .own (.dk (dW W)), .own (.lst (natL late)), c5, c6, c7, c8]
noncomputable def bWays1 : Fn Unit Out := (fSeq (fPar2 7 8 (fCons (fCall 3 m_tail_of (fCons (fVar 0) (fCons (fVar 1) (fCons (fVar 6) fNil)))) (fCons (fCall 3 m_head_of (fCons (fVar 0) (fCons (fVar 1) (fCons (fVar 6) fNil)))) fNil)))
  (fIfS (fAnd (fTest (fOp (oIn false) (fVar 7) (fVar 5))) (fTest (fDIn true (fVar 8) (fVar 3)))) (fSeq (fPutD 3 (fTup (fStar (fDIx (fVar 3) (fVar 7)) (fCons (fVar 6) fNil))) (fVar 8))
  (fApp 4 (fVar 8))) fNx))
noncomputable def bWays : Fn Unit Out := (fSeq (fParM 5 4 4 (fLst fNil))
  (fFor none (xRng1 (fCons (fCal oLen (fCons (fIx (fVar 0) (fC (.int 1))) fNil)) fNil)) (gfN 6) bWays1))
theorem f_ways_eq : f_ways_from = (fSeq (fPar2 3 4 (fCons (fDsK (fVar 2) (fTup fNil)) (fCons (fLst (fCons (fVar 2) fNil)) fNil)))
  (fSeq (fWh (fTest (fOp oNe (fVar 4) (fLst fNil))) bWays 1000) (fRet (some 3) (fC .non)))) := rfl
theorem ways_step1 (F : Fr n rs) (g : Tg rs t) {W : WD} {late here : List Nat} {w0 j : Nat} (hj : j < rs.length) (h : BI rs.length (tl rs t) (hd rs t) n c here w0 j W late) (c7 c8 : C) :
    bWays1 [.im (frD n rs), .im (iT t), .im (.int (c : Int)), .own (.dk (dW W)), .own (.lst (natL late)), .own (.lst (natL here)), .im (.int (j : Int)), c7, c8] () =
    some (.nx [.im (frD n rs), .im (iT t), .im (.int (c : Int)), .own (.dk (dW (bst (tl rs t) (hd rs t) here j (W, late)).1)), .own (.lst (natL (bst (tl rs t) (hd rs t) here j (W, late)).2)), .own (.lst (natL here)), .im (.int (j : Int)), .im (.int (tl rs t j)), .im (.int (hd rs t j))], ()) := by
  have h4 := F.n4
  have hw := h.ok.few
  have hin := oIn_L _ _ (isL_nat 5 here) false (tl rs t j)
  have sz : szOk late.length = true := szOk_m (by have := h.gr; omega)
  unfold bst
  by_cases q1 : tl rs t j ∈ here
  · obtain ⟨p, ep⟩ := wget_some (h.hs _ q1)
    by_cases q2 : hd rs t j ∈ wk W
    · obtain ⟨p2, ep2⟩ := wget_some q2
      simp [bWays1, tail_at g hj, head_at g hj, hin, mem_nI, q1, look_W, ep2, q2]
    · have e2 : wget W (hd rs t j) = none := by
        have := wget_isSome (W := W) (k := hd rs t j)
        simpa [q2] using this
      have pl : p.length ≤ 7 := by
        have w1 := (h.ok.way _ (wget_mem ep))
        have : p.length ≤ rs.length := nodup_le (nodup_of_map (List.nodup_append.1 w1.2.1).1) (way_lt w1.1)
        have := F.m7
        omega
      have sz2 : szOk (p.length + 1) = true := szOk_m (by omega)
      simp [bWays1, tail_at g hj, head_at g hj, hin, mem_nI, q1, look_W, e2, q2, ep, stos_app, sz2, tupM_snoc, iT_snoc, nI_snoc, put_W q2 (show W.length ≤ 1000 by omega), natL_len, sz, natL_app, -List.map_map]
  · simp [bWays1, tail_at g hj, head_at g hj, hin, mem_nI, q1]
theorem ways_step (F : Fr n rs) (g : Tg rs t) {W : WD} {late : List Nat} {ρ : Rho} (hρ : cW n rs t c W late ρ) (h : BL rs.length (tl rs t) (hd rs t) n c W late) :
    ∃ W' late' ρ', bWays ρ () = some (.nx ρ', ()) ∧ cW n rs t c W' late' ρ' ∧ BL rs.length (tl rs t) (hd rs t) n c W' late' ∧ W'.length = W.length + late'.length := by
  obtain ⟨c5, c6, c7, c8, rfl⟩ := hρ
  have sm : smI (rs.length : Int) = true := smI_nat (by have := F.m7; omega)
  obtain ⟨ρ', e, W', late', d6, d7, d8, rfl, hb⟩ := for_rng (fg := gfN 6) (f := bWays1) (s := ()) (ρ := [.im (frD n rs), .im (iT t), .im (.int (c : Int)), .own (.dk (dW W)), .own (.lst (natL [])), .own (.lst (natL late)), c6, c7, c8]) rs.length
    (fun j ρ => ∃ W' late' d6 d7 d8, ρ = [.im (frD n rs), .im (iT t), .im (.int (c : Int)), .own (.dk (dW W')), .own (.lst (natL late')), .own (.lst (natL late)), d6, d7, d8] ∧ BI rs.length (tl rs t) (hd rs t) n c late W.length j W' late')
    ⟨W, [], c6, c7, c8, rfl, bl_bi h⟩ (fun j ρ hj ⟨W', late', d6, d7, d8, e, hb⟩ => by
      subst e
      exact ⟨_, _, rfl, ways_step1 F g hj hb d7 d8, _, _, _, _, _, rfl, bi_step hb hj (hd_lt F hj)⟩)
  refine ⟨W', late', _, ?_, ⟨.own (.lst (natL late)), d6, d7, d8, rfl⟩, bi_bl hb, hb.gr⟩
  rw [natL_nil] at e
  simp [bWays, sm, e]
theorem ways_spec (F : Fr n rs) (g : Tg rs t) (hc : c < n) : ∃ W, m_ways_from [.im (frD n rs), .im (iT t), .im (.int (c : Int))] = some (.dk (dW W)) ∧ Ways rs.length (tl rs t) (hd rs t) n c W := by
  have h4 := F.n4
  obtain ⟨o, e, W, ρ', rfl, ⟨c5, c6, c7, c8, rfl⟩, hW⟩ := wh_ind (s := ()) (fc := fTest (fOp oNe (fVar 4) (fLst fNil))) (f := bWays)
    (fun k ρ => ∃ W late, cW n rs t c W late ρ ∧ BL rs.length (tl rs t) (hd rs t) n c W late ∧ (late = [] ∨ n + 1 ≤ k + W.length))
    (fun o => ∃ W ρ, o = .nx ρ ∧ cW n rs t c W [] ρ ∧ Ways rs.length (tl rs t) (hd rs t) n c W)
    (fun k ρ ⟨W, late, hρ, hb, hk⟩ => by
      have hw := hb.ok.few
      have ec : fTest (fOp oNe (fVar 4) (fLst fNil)) ρ () = some (!decide (late = []), ()) := by
        obtain ⟨c5, c6, c7, c8, rfl⟩ := hρ
        have ne := oNe_L (isL_nat 4 late) isL_nil
        simp [ne, nI_nil]
      rw [ec]
      by_cases e : late = []
      · subst e
        exact .inl ⟨by simp, W, ρ, rfl, hρ, bl_end hb⟩
      · obtain ⟨W', late', ρ', e1, e2, e3, e4⟩ := ways_step F g hρ hb
        have hk := hk.resolve_left e
        have hw' := e3.ok.few
        refine .inr ⟨by simp [e], .inr ⟨k - 1, ρ', by omega, e1, W', late', e2, e3, ?_⟩⟩
        cases late' with
        | nil => exact .inl rfl
        | cons x l => rw [List.length_cons] at e4; exact .inr (by omega))
    1000 (n + 1) [.im (frD n rs), .im (iT t), .im (.int (c : Int)), .own (.dk (dW [(c, [])])), .own (.lst (natL [c])), .no, .no, .no, .no] (by omega) ⟨[(c, [])], [c], ⟨_, _, _, _, rfl⟩, bl_start hc, .inr (by simp)⟩
  refine ⟨W, ?_, hW⟩
  have ei : (C.own (M.dk [(Sum.inl (c : Int), M.im (D.tup []))])) = C.own (.dk (dW [(c, [])])) := rfl
  have el : (C.own (M.lst [M.im (D.int (c : Int))])) = C.own (.lst (natL [c])) := rfl
  simp [m_ways_from, runF, f_ways_eq, keyD, ei, el, e]
/-- the crossings to which one is led, ascending -/
def led (W : WD) : List Nat := (wk W).mergeSort fun a b => decide (a ≤ b)
theorem led_mem {W : WD} {v : Nat} : v ∈ led W ↔ v ∈ wk W := (List.mergeSort_perm ..).mem_iff
theorem led_pw (W : WD) : (led W).Pairwise (· ≤ ·) := (List.pairwise_mergeSort (le := fun a b : Nat => decide (a ≤ b)) (fun a b c h1 h2 => by simp at *; omega) (fun a b => by simp; omega) (wk W)).imp fun q => of_decide_eq_true q
theorem sort_led (W : WD) : sortI (nI (wk W)) = nI (led W) := by
  refine (sortI_one ?_ ?_).symm
  · exact (List.mergeSort_perm ..).map _
  · unfold nI
    refine List.pairwise_map.2 ((led_pw W).imp fun {a b} h => ?_)
    show (a : Int) ≤ b
    omega
theorem keys_dW (W : WD) : keysI (dW W) = some (nI (wk W)) := by
  induction W with
  | nil => rfl
  | cons p W ih =>
    show (keysI (dW W)).map _ = _
    rw [ih]
    rfl
theorem sortK_dW (w : W) (V : WD) (h : dkW w = some (dW V)) (hl : V.length ≤ 4) : oSortK [w] = some (.new (.lst (natL (led V)))) := by
  have hl : (nI (wk V)).length < 64 := by rw [nI_len]; unfold wk; rw [List.length_map]; omega
  show ((dkW w).bind keysI).bind _ = _
  rw [h, Option.bind_some, keys_dW, Option.bind_some, if_pos hl, sort_led]
  unfold natL
  rw [List.map_map]
  rfl
theorem led_spec (F : Fr n rs) (g : Tg rs t) (hc : c < n) : ∃ W, m_led_from [.im (frD n rs), .im (iT t), .im (.int (c : Int))] = some (.im (iT (nI (led W)))) ∧ Ways rs.length (tl rs t) (hd rs t) n c W := by
  obtain ⟨W, e, h⟩ := ways_spec F g hc
  refine ⟨W, ?_, h⟩
  have hl := h.ok.few
  have h4 := F.n4
  have es := sortK_dW (.new (.dk (dW W))) W rfl (by omega)
  simp [m_led_from, runF, f_led_from, e, es, natL, -List.map_map]
  rfl
end
end K96
end

section
set_option Elab.async false
set_option linter.all false
set_option maxRecDepth 100000
set_option maxHeartbeats 4000000
namespace K96
open PySem Pl L2
section
variable {n : Nat} {rs : List (Nat × Nat)} {t : List Int} {w : List Int}
theorem flp_len (t : List Int) (R : List Nat) : (flp t R).length = t.length := by simp [flp]
theorem flp_at {t : List Int} {R : List Nat} {r : Nat} (h : r < t.length) : (flp t R).getD r 0 = if r ∈ R then 1 - at0 t r else at0 t r := by
  unfold flp
  simp [List.getD_eq_getElem?_getD, h]
theorem flp_tg (g : Tg rs t) (R : List Nat) : Tg rs (flp t R) := by
  refine ⟨by rw [flp_len]; exact g.len, fun k hk => ?_⟩
  obtain ⟨i, hi, rfl⟩ := List.mem_map.1 hk
  have hi := List.mem_range.1 hi
  have b := g.bit (at0 t i) (by rw [at0_at hi]; exact List.getElem_mem hi)
  by_cases c : i ∈ R
  · rw [if_pos c]; omega
  · rw [if_neg c]; exact b
theorem flp_tl (g : Tg rs t) (R : List Nat) {r : Nat} (h : r < rs.length) : tl rs (flp t R) r = if r ∈ R then hd rs t r else tl rs t r := by
  unfold tl hd
  rw [flp_at (by rw [g.len]; exact h)]
  by_cases c : r ∈ R
  · rw [if_pos c, if_pos c]; rfl
  · rw [if_neg c, if_neg c]; rfl
theorem flp_hd (g : Tg rs t) (R : List Nat) {r : Nat} (h : r < rs.length) : hd rs (flp t R) r = if r ∈ R then tl rs t r else hd rs t r := by
  unfold tl hd
  rw [flp_at (by rw [g.len]; exact h)]
  by_cases c : r ∈ R
  · rw [if_pos c, if_pos c]
    have : (1 : Int) - (1 - at0 t r) = at0 t r := by omega
    rw [this]; rfl
  · rw [if_neg c, if_neg c]; rfl
theorem pick_two (p : Nat × Nat) {k : Int} (h : k = 0 ∨ k = 1) : (pick p k = p.1 ∧ pick p (1 - k) = p.2) ∨ (pick p k = p.2 ∧ pick p (1 - k) = p.1) := by
  rcases h with rfl | rfl
  · exact .inl ⟨rfl, rfl⟩
  · exact .inr ⟨rfl, rfl⟩
theorem Tg.getD (g : Tg rs t) (r : Nat) : t.getD r 0 = 0 ∨ t.getD r 0 = 1 := by
  by_cases h : r < t.length
  · have := at0_at h
    unfold at0 at this
    rw [this]
    exact g.bit _ (List.getElem_mem h)
  · left
    simp [List.getD_eq_getElem?_getD, h]
theorem ends_two (g : Tg rs t) (r : Nat) : (tl rs t r = (rs.getD r (0, 0)).1 ∧ hd rs t r = (rs.getD r (0, 0)).2) ∨ (tl rs t r = (rs.getD r (0, 0)).2 ∧ hd rs t r = (rs.getD r (0, 0)).1) :=
  pick_two _ (g.getD r)
theorem tg_alike {t' : List Int} (g : Tg rs t) (g' : Tg rs t') : Alike rs.length (tl rs t) (hd rs t) (tl rs t') (hd rs t') := by
  intro r _
  rcases ends_two g r with ⟨a, b⟩ | ⟨a, b⟩ <;> rcases ends_two g' r with ⟨c, d⟩ | ⟨c, d⟩
  · left; exact ⟨c.trans a.symm, d.trans b.symm⟩
  · right; exact ⟨c.trans b.symm, d.trans a.symm⟩
  · right; exact ⟨c.trans b.symm, d.trans a.symm⟩
  · left; exact ⟨c.trans a.symm, d.trans b.symm⟩
/-- how many roads are within a lot -/
def wiN (rs : List (Nat × Nat)) (lot : List Nat) : Nat := rs.countP fun p => decide (p.1 ∈ lot) && decide (p.2 ∈ lot)
theorem wi_eq (g : Tg rs t) (lot : List Nat) : wi (tl rs t) (hd rs t) lot rs.length = wiN rs lot := by
  have e : rs = (List.range rs.length).map fun r => rs.getD r (0, 0) := by
    refine List.ext_getElem (by simp) fun i h1 h2 => ?_
    simp [List.getD_eq_getElem?_getD, h1]
  unfold wi wiN
  conv => rhs; rw [e]
  rw [List.countP_map]
  refine List.countP_congr fun r _ => ?_
  show _ ↔ (decide ((rs.getD r (0, 0)).1 ∈ lot) && decide ((rs.getD r (0, 0)).2 ∈ lot)) = true
  rcases ends_two g r with ⟨a, b⟩ | ⟨a, b⟩
  · rw [a, b]
  · rw [a, b, Bool.and_comm]
/-- a lot that is too full for told outs -/
structure Bad (n : Nat) (rs : List (Nat × Nat)) (w : List Int) (lot : List Nat) : Prop where
  pw : lot.Pairwise (· < ·)
  lt : ∀ c ∈ lot, c < n
  more : (lot.map (at0 w)).sum < wiN rs lot
theorem nodup_pw {lot : List Nat} (h : lot.Pairwise (· < ·)) : lot.Nodup := h.imp fun h => Nat.ne_of_lt h
theorem bad_none {lot : List Nat} (h : Bad n rs w lot) {t' : List Int} (g : Tg rs t') (e : ∀ c, c < n → at0 w c = (oc rs.length (tl rs t') c : Int)) : False := by
  have h1 := wi_le (lot := lot) (tg_alike g g)
  rw [wi_eq g, ← sum_lot (nodup_pw h.pw)] at h1
  have h2 : (lot.map (at0 w)).sum = ((lot.map (oc rs.length (tl rs t'))).sum : Nat) := by
    rw [← sumI_nat]
    exact congrArg List.sum (List.map_congr_left fun c hc => e c (h.lt c hc))
  have := h.more
  omega
theorem led_lt {T H : Nat → Nat} {m n c : Nat} {W : WD} (h : Ways m T H n c W) : (led W).Pairwise (· < ·) := by
  have nd : (led W).Nodup := (List.mergeSort_perm ..).nodup_iff.2 h.ok.nd
  exact (led_pw W).imp₂ (fun h1 h2 => by omega) nd
/-- few -/
def few (o w : List Int) (W : WD) : List Nat := (led W).filter fun c => decide (at0 o c < at0 w c)
noncomputable def bNear : Fn Unit Out := (fSeq (fSet 5 (fCall 3 m_ways_from (fCons (fVar 0) (fCons (fVar 2) (fCons (fVar 4) fNil)))))
  (fSeq (fSet 6 (fLc (xList (fCal oSortK (fCons (fVar 5) fNil))) (gfN 7) (fTest (fOp oLt (fIx (fVar 3) (fVar 7)) (fIx (fVar 1) (fVar 7)))) (fVar 7) [7]))
  (fSeq (fIfS (fTest (fOp oEq (fVar 6) (fLst fNil))) (fRet none (fTup (fCons (fVar 2) (fCons (fCal oTuple (fCons (fCal oSortK (fCons (fVar 5) fNil)) fNil)) fNil)))) fNx)
  (fSeq (fSet 2 (fCall 2 m_turned_roads (fCons (fVar 2) (fCons (fDIx (fVar 5) (fIx (fVar 6) (fC (.int 0)))) fNil))))
  (fSeq (fSet 3 (fCall 2 m_outs_of (fCons (fVar 0) (fCons (fVar 2) fNil))))
  (fSet 4 (fCall 2 m_too_many (fCons (fVar 3) (fCons (fVar 1) fNil)))))))))
theorem f_near_eq : f_nearest_turning = (fSeq (fSet 2 (fOpW oRepT (fTup (fCons (fC (.int 0)) fNil)) (fCal oLen (fCons (fIx (fVar 0) (fC (.int 1))) fNil))))
  (fSeq (fSet 3 (fCall 2 m_outs_of (fCons (fVar 0) (fCons (fVar 2) fNil))))
  (fSeq (fSet 4 (fCall 2 m_too_many (fCons (fVar 3) (fCons (fVar 1) fNil))))
  (fSeq (fWh (fTest (fOp (oIsN true) (fVar 4) (fC .non))) bNear 1000)
  (fRet none (fTup (fCons (fVar 2) (fCons (fC .non) fNil)))))))) := rfl
def startD (l : List Nat) : D := match l with | [] => .non | c :: _ => .int (c : Int)
theorem startD_cons (c : Nat) (l : List Nat) : startD (c :: l) = .int (c : Int) := rfl
theorem startD_nil : startD [] = .non := rfl
theorem too_specD {o w : List Int} (hl : o.length ≤ 1000) (h : o.length = w.length) : m_too_many [.im (iT o), .im (iT w)] = some (.im (startD (over o.length o w))) := by
  rw [too_spec hl h]
  cases over o.length o w <;> rfl
theorem oRepT_one (m : Nat) (h1 : 1 ≤ m) (h2 : m ≤ 1000) : oRepT (.im (.tup [.int 0])) (.im (.int (m : Int))) = some (.im (iT (List.replicate m 0))) := by
  have e : iT (List.replicate m 0) = .tup (List.replicate m (.int 0)) := by unfold iT; rw [List.map_replicate]
  unfold oRepT
  rw [tupD_tup, intW_int, e]
  by_cases c : m = 1
  · subst c; rfl
  · have h0 : ¬ ((m : Int) = 1) := by omega
    simp only [h0, if_false]
    rw [if_pos ⟨by omega, by omega, by decide, rfl⟩]
    simp [flat_one]
theorem at0_row {n : Nat} {f : Nat → Int} {c : Nat} (h : c < n) : at0 (rowF n f) c = f c := rowF_getD h
theorem ro_at {c : Nat} (g : Tg rs t) (hc : c < n) : at0 (ro n rs t) c = (oc rs.length (tl rs t) c : Int) := by
  rw [ro_oc g.len, at0_row hc]
theorem few_lc {o w : List Int} {W : WD} {c0 c2 c4 c5 c6 : C} (hl : ∀ c ∈ led W, c < o.length ∧ c < w.length) :
    lcL (gfN 7) (fTest (fOp oLt (fIx (fVar 3) (fVar 7)) (fIx (fVar 1) (fVar 7)))) (fVar 7) [c0, .im (iT w), c2, .im (iT o), c4, c5, c6, .no] ((led W).map natD) () = some (natL (few o w W), ()) := by
  have q := lc_all (S := Unit) (fg := gfN 7) (ft := fTest (fOp oLt (fIx (fVar 3) (fVar 7)) (fIx (fVar 1) (fVar 7)))) (fe := fVar 7) (ρ := [c0, .im (iT w), c2, .im (iT o), c4, c5, c6, .no]) (s := ())
    natD (fun c => decide (at0 o c < at0 w c)) (fun c => intM (c : Int)) (led W) (fun c hc => by
      obtain ⟨a, b⟩ := hl c hc
      refine ⟨[c0, .im (iT w), c2, .im (iT o), c4, c5, c6, .im (natD c)], rfl, ?_, fun _ => ⟨.im (natD c), rfl, rfl⟩⟩
      simp [natD, atI_at0 a, atI_at0 b])
  rw [q]
  unfold natL few nI
  rw [List.map_map, List.map_map]
  rfl
theorem natL_D (l : List Nat) : natL l = (l.map natD).map M.im := by
  unfold natL nI
  rw [List.map_map, List.map_map, List.map_map]
  rfl
theorem at_natL (b : Nat) (l : List Nat) : atI (natL (b :: l)) 0 = some (.im (.int (b : Int))) := atI_zero _ _
@[simp] theorem ofIx_im' (k : M → W) (d : D) : ofIx k (.im d) = .im d := rfl
theorem natD_T (l : List Nat) : D.tup (l.map natD) = iT (nI l) := by
  unfold iT nI
  rw [List.map_map]
  rfl
theorem led_few {T H : Nat → Nat} {m n c : Nat} {W : WD} (h : Ways m T H n c W) : (led W).length ≤ n := by
  unfold led
  rw [List.length_mergeSort]
  unfold wk
  rw [List.length_map]
  exact h.ok.few
theorem led_cl {T H : Nat → Nat} {m n c : Nat} {W : WD} (h : Ways m T H n c W) : Closed m T H (led W) := fun r hr ht => led_mem.2 (h.cl r hr (led_mem.1 ht))
/-- one lap -/
theorem near_step (F : Fr n rs) (g : Tg rs t) (hw : w.length = n) {a : Nat} {l : List Nat} (ho : over n (ro n rs t) w = a :: l) (c5 c6 c7 : C) :
    (∃ lot, bNear [.im (frD n rs), .im (iT w), .im (iT t), .im (iT (ro n rs t)), .im (startD (over n (ro n rs t) w)), c5, c6, c7] () = some (.rt (.im (.tup [iT t, iT (nI lot)])), ()) ∧ Bad n rs w lot) ∨
    ∃ p c5' c6' c7', bNear [.im (frD n rs), .im (iT w), .im (iT t), .im (iT (ro n rs t)), .im (startD (over n (ro n rs t) w)), c5, c6, c7] () = some (.nx [.im (frD n rs), .im (iT w), .im (iT (flp t p)), .im (iT (ro n rs (flp t p))), .im (startD (over n (ro n rs (flp t p)) w)), c5', c6', c7'], ()) ∧
      exc n (oc rs.length (tl rs (flp t p))) (at0 w) + 1 ≤ exc n (oc rs.length (tl rs t)) (at0 w) := by
  have h4 := F.n4
  have h7 := F.m7
  have ha : a < n ∧ at0 w a < at0 (ro n rs t) a := by
    have : a ∈ over n (ro n rs t) w := by rw [ho]; exact List.mem_cons_self
    unfold over at this
    rw [List.mem_filter, List.mem_range] at this
    exact ⟨this.1, of_decide_eq_true this.2⟩
  obtain ⟨V, ew, hV⟩ := ways_spec F g ha.1
  have hvl := hV.ok.few
  have es := sortK_dW (.sl 5 (.dk (dW V))) V rfl (by omega)
  rw [natL_D] at es
  have hl : ∀ c ∈ led V, c < (ro n rs t).length ∧ c < w.length := fun c hc => by
    have := hV.ok.lt c (led_mem.1 hc)
    rw [ro_len, hw]
    exact ⟨this, this⟩
  have lc := fun c0 c2 c4 c5 c6 => few_lc (c0 := c0) (c2 := c2) (c4 := c4) (c5 := c5) (c6 := c6) hl
  have sz : szOk (led V).length = true := szOk_m (by have := led_few hV; omega)
  have ee := oEq_L (isL_nat 6 (few (ro n rs t) w V)) isL_nil
  rw [ho]
  cases ef : few (ro n rs t) w V with
  | nil =>
    left
    rw [ef] at ee
    refine ⟨led V, ?_, led_lt hV, fun c hc => hV.ok.lt c (led_mem.1 hc), ?_⟩
    · simp [bNear, startD_cons, ew, es, sz, lc, ef, ee, nI_nil, natD_T, -List.map_map]
    · rw [← wi_eq g, ← closed_wi (led_cl hV), ← sum_lot (nodup_pw (led_lt hV)), ← sumI_nat]
      refine sumI_lt (fun c hc => ?_) (led_mem.2 hV.ok.c0) ?_
      · have hcn := hV.ok.lt c (led_mem.1 hc)
        rw [← ro_at g hcn]
        rcases Int.lt_or_le (at0 (ro n rs t) c) (at0 w c) with z | z
        · have : c ∈ few (ro n rs t) w V := List.mem_filter.2 ⟨hc, decide_eq_true z⟩
          rw [ef] at this
          cases this
        · exact z
      · rw [← ro_at g ha.1]; exact ha.2
  | cons b l2 =>
    right
    have hb : b ∈ led V ∧ at0 (ro n rs t) b < at0 w b := by
      have : b ∈ few (ro n rs t) w V := by rw [ef]; exact List.mem_cons_self
      exact ⟨(List.mem_filter.1 this).1, of_decide_eq_true (List.mem_filter.1 this).2⟩
    have hbn := hV.ok.lt b (led_mem.1 hb.1)
    obtain ⟨p, ep⟩ := wget_some (led_mem.1 hb.1)
    obtain ⟨w1, w2, _⟩ := hV.simple ep
    have g' := flp_tg g p
    have et := turned_spec (t := t) (R := p) (d := iT (nI p)) (by have := g.len; omega) (isR_iT _)
    have eo := outs_spec F g'
    have eq := too_specD (o := ro n rs (flp t p)) (w := w) (by rw [ro_len]; omega) (by rw [ro_len, hw])
    rw [ro_len] at eq
    rw [ef] at ee
    refine ⟨p, .own (.dk (dW V)), .own (.lst (natL (b :: l2))), c7, ?_, ?_⟩
    · simp [bNear, startD_cons, ew, es, sz, lc, ef, ee, nI_nil, natD_T, look_W, ep, et, eo, eq, at_natL, -List.map_map]
    · refine exc_less (b := b) ha.1 (fun c => flip_way w1 w2 fun r hr => flp_tl g p hr) ?_ ?_
      · rw [← ro_at g ha.1]; exact ha.2
      · rw [← ro_at g hbn]; exact hb.2
end
end K96
end

section
set_option Elab.async false
set_option linter.all false
set_option maxRecDepth 100000
set_option maxHeartbeats 4000000
namespace K96
open PySem Pl L2
section
variable {n : Nat} {rs : List (Nat × Nat)} {t : List Int} {w : List Int}
theorem exc_bound {o : Nat → Nat} {f : Nat → Int} (h : ∀ c, c < n → (o c : Int) - f c ≤ 200) : exc n o f ≤ n * 200 := by
  unfold exc
  have q := sumI_bound (l := List.range n) (f := fun c => max 0 ((o c : Int) - f c)) (B := 200) fun c hc => by
    have := h c (List.mem_range.1 hc)
    show max 0 ((o c : Int) - f c) ≤ 200
    omega
  rwa [List.length_range] at q
theorem oc_le (m : Nat) (T : Nat → Nat) (c : Nat) : oc m T c ≤ m := by
  unfold oc cnt
  have := List.countP_le_length (p := fun r => T r == c) (l := List.range m)
  rwa [List.length_range] at this
/-- told outs: of the right length, not too small -/
structure Told (n : Nat) (w : List Int) : Prop where
  len : w.length = n
  lo : ∀ c, c < n → -100 ≤ at0 w c ∧ at0 w c ≤ 100
theorem zero_tg (m : Nat) (rs : List (Nat × Nat)) (h : rs.length = m) : Tg rs (List.replicate m 0) := by
  refine ⟨by simp [h], fun k hk => .inl (List.eq_of_mem_replicate hk)⟩
theorem near_spec (F : Fr n rs) (hw : Told n w) : ∃ t, Tg rs t ∧ ((m_nearest_turning [.im (frD n rs), .im (iT w)] = some (.im (.tup [iT t, .non])) ∧ ∀ c, c < n → (oc rs.length (tl rs t) c : Int) ≤ at0 w c) ∨
    ∃ lot, m_nearest_turning [.im (frD n rs), .im (iT w)] = some (.im (.tup [iT t, iT (nI lot)])) ∧ Bad n rs w lot) := by
  have h4 := F.n4
  have h7 := F.m7
  have h1 := F.m1
  have g0 := zero_tg rs.length rs rfl
  obtain ⟨o, e, t, g, ho⟩ := wh_ind (s := ()) (fc := fTest (fOp (oIsN true) (fVar 4) (fC .non))) (f := bNear)
    (fun k ρ => ∃ t c5 c6 c7, ρ = [.im (frD n rs), .im (iT w), .im (iT t), .im (iT (ro n rs t)), .im (startD (over n (ro n rs t) w)), c5, c6, c7] ∧ Tg rs t ∧ exc n (oc rs.length (tl rs t)) (at0 w) ≤ k)
    (fun o => ∃ t, Tg rs t ∧ ((∃ c5 c6 c7, o = .nx [.im (frD n rs), .im (iT w), .im (iT t), .im (iT (ro n rs t)), .im .non, c5, c6, c7] ∧ over n (ro n rs t) w = []) ∨ ∃ lot, o = .rt (.im (.tup [iT t, iT (nI lot)])) ∧ Bad n rs w lot))
    (fun k ρ ⟨t, c5, c6, c7, hρ, g, hk⟩ => by
      subst hρ
      cases ho : over n (ro n rs t) w with
      | nil =>
        left
        refine ⟨by simp [startD_nil], t, g, .inl ⟨c5, c6, c7, rfl, ho⟩⟩
      | cons a l =>
        right
        refine ⟨by simp [startD_cons], ?_⟩
        rw [← ho]
        rcases near_step F g hw.len ho c5 c6 c7 with ⟨lot, e, hb⟩ | ⟨p, d5, d6, d7, e, hx⟩
        · exact .inl ⟨_, e, t, g, .inr ⟨lot, rfl, hb⟩⟩
        · have hn := exc_nonneg n (oc rs.length (tl rs (flp t p))) (at0 w)
          exact .inr ⟨k - 1, _, by omega, e, flp t p, d5, d6, d7, rfl, flp_tg g p, by omega⟩)
    1000 800 [.im (frD n rs), .im (iT w), .im (iT (List.replicate rs.length 0)), .im (iT (ro n rs (List.replicate rs.length 0))), .im (startD (over n (ro n rs (List.replicate rs.length 0)) w)), .no, .no, .no] (by omega)
    ⟨_, _, _, _, rfl, g0, by
      have q := exc_bound (n := n) (o := oc rs.length (tl rs (List.replicate rs.length 0))) (f := at0 w) fun c hc => by
        have := oc_le rs.length (tl rs (List.replicate rs.length 0)) c
        have := hw.lo c hc
        omega
      omega⟩
  have eo := outs_spec F g0
  have eq := too_specD (o := ro n rs (List.replicate rs.length 0)) (w := w) (by rw [ro_len]; omega) (by rw [ro_len, hw.len])
  rw [ro_len] at eq
  refine ⟨t, g, ?_⟩
  rcases ho with ⟨c5, c6, c7, rfl, hov⟩ | ⟨lot, rfl, hb⟩
  · left
    refine ⟨?_, fun c hc => ?_⟩
    · simp [m_nearest_turning, runF, f_near_eq, oRepT_one _ h1 (show rs.length ≤ 1000 by omega), eo, eq, e]
    · rw [← ro_at g hc]
      rcases Int.lt_or_le (at0 w c) (at0 (ro n rs t) c) with z | z
      · have : c ∈ over n (ro n rs t) w := List.mem_filter.2 ⟨List.mem_range.2 hc, decide_eq_true z⟩
        rw [hov] at this
        cases this
      · exact z
  · right
    refine ⟨lot, ?_, hb⟩
    simp [m_nearest_turning, runF, f_near_eq, oRepT_one _ h1 (show rs.length ≤ 1000 by omega), eo, eq, e]
/-- what a paper of outs is -/
inductive Paper (n : Nat) (rs : List (Nat × Nat)) (w : List Int) : D → Prop
  | sum : w.sum ≠ rs.length → Paper n rs w (.tup [.str "sum"])
  | turning {t : List Int} : w.sum = rs.length → Tg rs t → ro n rs t = w → Paper n rs w (.tup [.str "turning", iT t])
  | lot {lot : List Nat} : w.sum = rs.length → Bad n rs w lot → Paper n rs w (.tup [.str "lot", iT (nI lot)])
theorem Told.small (F : Fr n rs) (h : Told n w) : smallR w := by
  refine ⟨by have := F.n4; have := h.len; omega, fun k hk => ?_⟩
  obtain ⟨i, hi, rfl⟩ := List.getElem_of_mem hk
  have := h.lo i (by rw [← h.len]; exact hi)
  rw [at0_at hi] at this
  omega
theorem told_row (h : Told n w) : w = rowF n (at0 w) := rowF_of h.len
theorem told_sum (h : Told n w) : w.sum = ((List.range n).map (at0 w)).sum := by
  conv => lhs; rw [told_row h]
  rfl
theorem ro_of_le (F : Fr n rs) (g : Tg rs t) (h : Told n w) (hs : w.sum = rs.length) (hl : ∀ c, c < n → (oc rs.length (tl rs t) c : Int) ≤ at0 w c) : ro n rs t = w := by
  rw [ro_oc g.len]
  conv => rhs; rw [told_row h]
  refine rowF_ext.2 fun c hc => ?_
  refine sumI_eq (l := List.range n) (f := fun c => (oc rs.length (tl rs t) c : Int)) (g := at0 w) (fun c hc => hl c (List.mem_range.1 hc)) ?_ c (List.mem_range.2 hc)
  rw [← told_sum h, hs, sumI_nat, sum_oc fun r hr => tl_lt F hr]
theorem oSum_iT {r : List Int} (h : smallR r) : oSum [.im (iT r)] = some (.im (.int r.sum)) := by
  show (seqI (.im (iT r))).bind _ = _
  rw [seqI_R (isR_iT r), Option.bind_some, if_pos (smallI_of h)]
theorem paper_spec (F : Fr n rs) (h : Told n w) : ∃ d, m_outs_paper [.im (frD n rs), .im (iT w)] = some (.im d) ∧ Paper n rs w d := by
  have es := oSum_iT (h.small F)
  by_cases c : w.sum = rs.length
  · obtain ⟨t, g, ⟨e, hl⟩ | ⟨lot, e, hb⟩⟩ := near_spec F h
    · refine ⟨_, ?_, .turning c g (ro_of_le F g h c hl)⟩
      simp [m_outs_paper, runF, f_outs_paper, es, oNe_int, c, e]
    · refine ⟨_, ?_, .lot c hb⟩
      simp [m_outs_paper, runF, f_outs_paper, es, oNe_int, c, e]
  · refine ⟨_, ?_, .sum c⟩
    simp [m_outs_paper, runF, f_outs_paper, es, oNe_int, c]
end
end K96
end

section
set_option Elab.async false
set_option linter.all false
set_option maxRecDepth 100000
set_option maxHeartbeats 4000000
namespace K96
open PySem Pl L2
theorem kit_int : kitB "int" "int" = some true := by decide +kernel
theorem kit_intb : kitB "int" "bool" = some false := by decide +kernel
theorem kit_tup : kitB "tuple" "tuple" = some true := by decide +kernel
theorem kit_str : kitB "str" "str" = some true := by decide +kernel
theorem ok_s (s : Str) (h : (PyData.str s).canLay0 = true) : okPy (.str s) = true := ok_str s h
theorem lay_sum : (PyData.str "sum").canLay0 = true := by decide +kernel
theorem lay_turning : (PyData.str "turning").canLay0 = true := by decide +kernel
theorem lay_lot : (PyData.str "lot").canLay0 = true := by decide +kernel
theorem lay_ring : (PyData.str "ring").canLay0 = true := by decide +kernel
theorem oEq_str (a b : Str) (ha : (PyData.str a).canLay0 = true) (hb : (PyData.str b).canLay0 = true) : oEq (.im (.str a)) (.im (.str b)) = some (.bl (a == b)) := by
  rw [oEq_of (x := .im (.str a)) (y := .im (.str b)) (p := .str a) (q := .str b) rfl rfl (ok_str a ha) (ok_str b hb), PyData.eqv]
theorem oNe_str (a b : Str) (ha : (PyData.str a).canLay0 = true) (hb : (PyData.str b).canLay0 = true) : oNe (.im (.str a)) (.im (.str b)) = some (.bl (!(a == b))) := by
  rw [oNe_of (x := .im (.str a)) (y := .im (.str b)) (p := .str a) (q := .str b) rfl rfl (ok_str a ha) (ok_str b hb), PyData.eqv]
theorem ok_one (a : Str) (ha : (PyData.str a).canLay0 = true) : okPy (.tuple [.str a]) = true := by
  unfold okPy SeqAt.shaped
  simp [PyData.canLay0, PyData.canLayAll0, PyData.depth, PyData.depthAll] at ha ⊢
  exact ha
theorem ok_two (a : Str) (r : List Int) (ha : (PyData.str a).canLay0 = true) : okPy (.tuple [.str a, .tuple (r.map .int)]) = true := by
  unfold okPy SeqAt.shaped
  simp [PyData.canLay0, PyData.canLayAll0, PyData.depth, PyData.depthAll, PySem.W.ke_canLayAll0, PySem.W.ke_depthAll] at ha ⊢
  exact ha
theorem oEq_one (a : Str) (ha : (PyData.str a).canLay0 = true) : oEq (.im (.tup [.str a])) (.im (.tup [])) = some (.bl false) := by
  rw [oEq_of (x := .im (.tup [.str a])) (y := .im (.tup [])) (p := .tuple [.str a]) (q := .tuple []) rfl rfl (ok_one a ha) (ok_ints [])]
  simp [PyData.eqv, PyData.eqvAll]
theorem oEq_two (a : Str) {d : D} {r : List Int} (ha : (PyData.str a).canLay0 = true) (hd : IsR d r) : oEq (.im (.tup [.str a, d])) (.im (.tup [])) = some (.bl false) := by
  rw [oEq_of (x := .im (.tup [.str a, d])) (y := .im (.tup [])) (p := .tuple [.str a, .tuple (r.map .int)]) (q := .tuple []) (by rw [← hd.py]; rfl) rfl (ok_two a r ha) (ok_ints [])]
  simp [PyData.eqv, PyData.eqvAll]
theorem bols_map {α : Type} (l : List α) (f : α → Bool) : bolsD (l.map fun x => D.bl (f x)) = some (l.map f) := by
  induction l with
  | nil => rfl
  | cons x l ih =>
    show (bolsD (l.map fun x => D.bl (f x))).map _ = _
    rw [ih]
    rfl
theorem oBol_all {α : Type} (l : List α) (f : α → Bool) : oBol (fun bs => bs.all id) [.new (.lst (l.map fun x => M.im (D.bl (f x))))] = some (.bl (l.all f)) := by
  show (if isLst (.new (.lst (l.map fun x => M.im (D.bl (f x))))) = true then ((seqD (.new (.lst (l.map fun x => M.im (D.bl (f x)))))).bind bolsD).map (fun bs => D.bl (bs.all id)) else none) = _
  rw [isLst_new, if_pos rfl, seqD_new, allIm_of, Option.bind_some, bols_map]
  show some (D.bl ((l.map f).all id)) = _
  rw [List.all_map]
  rfl
section
variable {n : Nat} {rs : List (Nat × Nat)} {t : List Int} {w : List Int}
theorem is_turning_spec (g : Tg rs t) (hl : rs.length ≤ 1000) : m_is_turning [.im (frD n rs), .im (iT t)] = some (.im (.bl true)) := by
  have lc := lc_all (S := Unit) (fg := gfN 2) (ft := fYes) (fe := fAndV (fIsi "int" (fVar 2)) (fAndV (fNotV (fIsi "bool" (fVar 2))) (fOp (oIn false) (fVar 2) (fTup (fCons (fC (.int 0)) (fCons (fC (.int 1)) fNil)))))) (ρ := [.im (frD n rs), .im (iT t), .no]) (s := ())
    D.int (fun _ => true) (fun k => M.im (.bl ((fun _ => true) k))) t (fun k hk => by
      refine ⟨[.im (frD n rs), .im (iT t), .im (.int k)], rfl, rfl, fun _ => ⟨.im (.bl true), ?_, rfl⟩⟩
      have q := oIn_R (d := .tup [.int 0, .int 1]) (r := [0, 1]) (.inl rfl) false k
      have hb := g.bit k hk
      simp [kit_int, kit_intb, q, hb])
  rw [filter_true] at lc
  have sz : szOk t.length = true := szOk_m (by have := g.len; omega)
  have oa := oBol_all t fun _ => true
  simp [m_is_turning, runF, f_is_turning, kit_tup, oNe_int, g.len] at oa lc ⊢
  rw [g.len] at sz
  simp [sz, lc, oa]
theorem at_asc {l : List Nat} (h : l.Pairwise (· < ·)) {k : Nat} (hk : k + 1 < l.length) : l[k] < l[k + 1] := List.pairwise_iff_getElem.1 h k (k + 1) (by omega) hk (by omega)
theorem is_lot_spec {lot : List Nat} {d : D} (hp : lot.Pairwise (· < ·)) (hlt : ∀ c ∈ lot, c < n) (hl : lot.length ≤ 1000) (hd : IsR d (nI lot)) : m_is_crossing_lot [.im (frD n rs), .im d] = some (.im (.bl true)) := by
  have e : (nI lot).map D.int = lot.map natD := by unfold nI; rw [List.map_map]; rfl
  have lc := lc_all (S := Unit) (fg := gfN 2) (ft := fYes) (fe := fAndV (fIsi "int" (fVar 2)) (fAndV (fNotV (fIsi "bool" (fVar 2))) (fChain oLe oLt (fC (.int 0)) (fVar 2) (fIx (fVar 0) (fC (.int 0)))))) (ρ := [.im (frD n rs), .im d, .no, .no]) (s := ())
    natD (fun _ => true) (fun k => M.im (.bl ((fun _ => true) k))) lot (fun k hk => by
      refine ⟨[.im (frD n rs), .im d, .im (.int (k : Int)), .no], rfl, rfl, fun _ => ⟨.im (.bl true), ?_, rfl⟩⟩
      have hb := hlt k hk
      have h0 : (0 : Int) ≤ (k : Int) := by omega
      simp [kit_int, kit_intb, hb, h0])
  rw [filter_true] at lc
  have lc2 := lc_all (S := Unit) (fg := gfN 3) (ft := fYes) (fe := fOp oLt (fIx (fVar 1) (fVar 3)) (fIx (fVar 1) (fOp oAdd (fVar 3) (fC (.int 1))))) (ρ := [.im (frD n rs), .im d, .no, .no]) (s := ())
    natD (fun _ => true) (fun k => M.im (.bl ((fun _ => true) k))) (List.range (lot.length - 1)) (fun k hk => by
      refine ⟨[.im (frD n rs), .im d, .no, .im (.int (k : Int))], rfl, rfl, fun _ => ⟨.im (.bl true), ?_, rfl⟩⟩
      have hk := List.mem_range.1 hk
      have h1 : k < (nI lot).length := by rw [nI_len]; omega
      have h2 : k + 1 < (nI lot).length := by rw [nI_len]; omega
      have a1 : atI ((nI lot).map D.int) (k : Int) = some (.int (lot[k] : Int)) := by rw [atI_map h1]; simp [nI]
      have a2 : atI ((nI lot).map D.int) ((k + 1 : Nat) : Int) = some (.int (lot[k + 1] : Int)) := by rw [atI_map h2]; simp [nI]
      have a3 := at_asc hp (k := k) (by omega)
      have e2 : (k : Int) + 1 = ((k + 1 : Nat) : Int) := by omega
      simp [hd.itemW, e2, a1, a2, a3, -Int.natCast_add])
  rw [filter_true] at lc2
  have sz : szOk lot.length = true := szOk_m (by omega)
  have sz2 : szOk (lot.length - 1) = true := szOk_m (by omega)
  have oa := oBol_all lot fun _ => true
  have oa2 := oBol_all (List.range (lot.length - 1)) fun _ => true
  have sm : smI ((lot.length : Int) - 1) = true := by unfold smI; simp; omega
  have et : ((lot.length : Int) - 1).toNat = lot.length - 1 := by omega
  simp at oa oa2 lc lc2
  simp [m_is_crossing_lot, runF, f_is_crossing_lot, hd.tyD, kit_tup, hd.tupD, e, sz, lc, oa, hd.lenW, sm, et, rng_nat, sz2, lc2, oa2]
end
end K96
end

section
set_option Elab.async false
set_option linter.all false
set_option maxRecDepth 100000
set_option maxHeartbeats 4000000
namespace K96
open PySem Pl L2
theorem e_ss : oEq (.im (.str "sum")) (.im (.str "sum")) = some (.bl true) := by rw [oEq_str _ _ lay_sum lay_sum]; rfl
theorem e_tt : oEq (.im (.str "turning")) (.im (.str "turning")) = some (.bl true) := by rw [oEq_str _ _ lay_turning lay_turning]; rfl
theorem e_ll : oEq (.im (.str "lot")) (.im (.str "lot")) = some (.bl true) := by rw [oEq_str _ _ lay_lot lay_lot]; rfl
theorem e_rr : oEq (.im (.str "ring")) (.im (.str "ring")) = some (.bl true) := by rw [oEq_str _ _ lay_ring lay_ring]; rfl
theorem e_ts : oEq (.im (.str "turning")) (.im (.str "sum")) = some (.bl false) := by rw [oEq_str _ _ lay_turning lay_sum]; rfl
theorem e_ls : oEq (.im (.str "lot")) (.im (.str "sum")) = some (.bl false) := by rw [oEq_str _ _ lay_lot lay_sum]; rfl
theorem e_lt : oEq (.im (.str "lot")) (.im (.str "turning")) = some (.bl false) := by rw [oEq_str _ _ lay_lot lay_turning]; rfl
theorem e_st : oEq (.im (.str "sum")) (.im (.str "turning")) = some (.bl false) := by rw [oEq_str _ _ lay_sum lay_turning]; rfl
theorem e_lr : oEq (.im (.str "lot")) (.im (.str "ring")) = some (.bl false) := by rw [oEq_str _ _ lay_lot lay_ring]; rfl
theorem n_ll : oNe (.im (.str "lot")) (.im (.str "lot")) = some (.bl false) := by rw [oNe_str _ _ lay_lot lay_lot]; rfl
section
variable {n : Nat} {rs : List (Nat × Nat)} {t : List Int} {w : List Int} {d : D}
theorem bad_small {lot : List Nat} (F : Fr n rs) (h : Bad n rs w lot) : lot.length ≤ 1000 := by
  have := nodup_le (nodup_pw h.pw) h.lt
  have := F.n4
  omega
theorem form_spec (F : Fr n rs) (p : Paper n rs w d) : m_is_outs_form [.im (frD n rs), .im d] = some (.im (.bl true)) := by
  have h7 := F.m7
  cases p with
  | sum c => simp [m_is_outs_form, runF, f_is_outs_form, kit_tup, kit_str, oEq_one _ lay_sum, e_ss, oEq_int]
  | turning c g e =>
    have it := is_turning_spec (n := n) g (by omega)
    simp [m_is_outs_form, runF, f_is_outs_form, kit_tup, kit_str, oEq_two _ lay_turning (isR_iT _), e_ts, e_tt, oEq_int, it]
  | lot c b =>
    have il := is_lot_spec (rs := rs) b.pw b.lt (bad_small F b) (isR_iT _)
    simp [m_is_outs_form, runF, f_is_outs_form, kit_tup, kit_str, oEq_two _ lay_lot (isR_iT _), e_ls, e_lt, e_ll, oEq_int, il]
theorem judge_outs_spec (F : Fr n rs) (h : Told n w) (p : Paper n rs w d) : m_judge_outs [.im (frD n rs), .im (iT w), .im d] = some (.im .non) := by
  have h7 := F.m7
  have h4 := F.n4
  have fo := form_spec F p
  have es := oSum_iT (h.small F)
  cases p with
  | sum c => simp [m_judge_outs, runF, f_judge_outs, fo, es, e_ss, oNe_int, c]
  | turning c g e =>
    have eo := outs_spec F g
    rw [e] at eo
    rename_i t
    have lc := lc_all (S := Unit) (fg := gfN 6) (ft := fTest (fOp oNe (fIx (fVar 4) (fVar 6)) (fIx (fVar 1) (fVar 6)))) (fe := fVar 6) (ρ := [.im (frD n rs), .im (iT w), .im (.tup [.str "turning", iT t]), .im (.int w.sum), .im (iT w), .no, .no, .no, .no]) (s := ())
      natD (fun _ => false) (fun c => intM (c : Int)) (List.range n) (fun c hc => by
        have hc := List.mem_range.1 hc
        refine ⟨[.im (frD n rs), .im (iT w), .im (.tup [.str "turning", iT t]), .im (.int w.sum), .im (iT w), .no, .im (.int (c : Int)), .no, .no], rfl, ?_, fun z => nomatch z⟩
        simp [atI_at0 (show c < w.length by rw [h.len]; exact hc), oNe_int])
    have ef : (List.range n).filter (fun _ => false) = [] := List.filter_eq_nil_iff.2 fun _ _ z => nomatch z
    rw [ef] at lc
    have sn : smI (n : Int) = true := smI_nat (by omega)
    have sz : szOk n = true := szOk_m (by omega)
    have ne := oNe_L (isL_sl 5 []) isL_nil
    simp at ne lc
    simp [m_judge_outs, runF, f_judge_outs, fo, es, e_ts, e_tt, eo, sn, rng_nat, sz, lc, ne]
  | lot c b =>
    rename_i lot
    have hw := within_spec (n := n) (rs := rs) (lot := lot) (d := iT (nI lot)) (by omega) (isR_iT _)
    have ha := outs_at_spec (row := w) (lot := lot) (d := iT (nI lot)) (h.small F) (fun c hc => by rw [h.len]; exact b.lt c hc) (bad_small F b) (isR_iT _)
    have hm := b.more
    unfold wiN at hm
    simp [m_judge_outs, runF, f_judge_outs, fo, es, e_ls, e_lt, oNe_int, c, hw, ha]
    simp [hm]
theorem turning_with_spec (F : Fr n rs) (h : Told n w) : (∃ t, Tg rs t ∧ ro n rs t = w ∧ m_turning_with [.im (frD n rs), .im (iT w)] = some (.im (iT t))) ∨
    (m_turning_with [.im (frD n rs), .im (iT w)] = some (.im .non) ∧ ∀ t, Tg rs t → ro n rs t ≠ w) := by
  obtain ⟨d, e, p⟩ := paper_spec F h
  cases p with
  | sum c =>
    right
    refine ⟨by simp [m_turning_with, runF, f_turning_with, e, e_st], fun t g et => c ?_⟩
    rw [← et, ro_oc g.len]
    show ((List.range n).map fun c => (oc rs.length (tl rs t) c : Int)).sum = _
    rw [sumI_nat, sum_oc fun r hr => tl_lt F hr]
  | turning c g et =>
    left
    exact ⟨_, g, et, by simp [m_turning_with, runF, f_turning_with, e, e_tt]⟩
  | lot c b =>
    right
    refine ⟨by simp [m_turning_with, runF, f_turning_with, e, e_lt], fun t g et => bad_none b g fun c hc => ?_⟩
    rw [← et, ro_at g hc]
end
end K96
end

section
set_option Elab.async false
set_option linter.all false
set_option maxRecDepth 100000
set_option maxHeartbeats 4000000
namespace K96
open PySem Pl L2
theorem foldl_min : ∀ (r : List Int) (a : Int), (r.foldl min a = a ∨ r.foldl min a ∈ r) ∧ r.foldl min a ≤ a ∧ ∀ x ∈ r, r.foldl min a ≤ x
  | [], a => ⟨.inl rfl, Int.le_refl _, fun _ h => nomatch h⟩
  | y :: r, a => by
    obtain ⟨h1, h2, h3⟩ := foldl_min r (min a y)
    rw [List.foldl_cons]
    refine ⟨?_, by omega, fun x hx => ?_⟩
    · rcases h1 with h | h
      · rcases Int.le_total a y with z | z
        · left; rw [h]; omega
        · right; rw [h, show min a y = y by omega]; exact List.mem_cons_self
      · exact .inr (List.mem_cons_of_mem _ h)
    · rcases List.mem_cons.1 hx with rfl | hx
      · omega
      · exact h3 x hx
theorem minI_of {r : List Int} (h : r ≠ []) : ∃ m, minI r = some m ∧ m ∈ r ∧ ∀ x ∈ r, m ≤ x := by
  cases r with
  | nil => exact absurd rfl h
  | cons a r =>
    obtain ⟨h1, h2, h3⟩ := foldl_min r a
    refine ⟨_, rfl, ?_, fun x hx => ?_⟩
    · rcases h1 with h | h
      · rw [h]; exact List.mem_cons_self
      · exact List.mem_cons_of_mem _ h
    · rcases List.mem_cons.1 hx with rfl | hx
      · exact h2
      · exact h3 x hx
theorem minI_head {a : Int} {r : List Int} (h : ∀ x ∈ r, a ≤ x) : minI (a :: r) = some a := by
  obtain ⟨m, e, hm, hl⟩ := minI_of (r := a :: r) (by simp)
  rw [e]
  have h1 := hl a List.mem_cons_self
  rcases List.mem_cons.1 hm with z | z
  · rw [z]
  · have := h m z
    rw [show m = a by omega]
theorem oMin_R {d : D} {r : List Int} {m : Int} (h : IsR d r) (e : minI r = some m) : oMin [.im d] = some (.im (.int m)) := by
  show ((seqI (.im d)).bind minI).map _ = _
  rw [seqI_R h, Option.bind_some, e]
  rfl
theorem cut_from {α : Type} (l : List α) (k : Nat) : cutL l (some (k : Int)) none = l.drop k := by
  unfold cutL
  rw [HT.sIx_nat, HT.sIx_none]
  rcases Nat.le_total k l.length with h | h
  · rw [Nat.min_eq_left h, List.take_of_length_le (by rw [List.length_drop]; omega)]
  · rw [Nat.min_eq_right h, List.drop_of_length_le h, List.drop_of_length_le (Nat.le_refl _)]
    simp
theorem cut_to {α : Type} (l : List α) (k : Nat) : cutL l none (some (k : Int)) = l.take k := by
  unfold cutL
  rw [HT.sIx_nat, HT.sIx_none, List.drop_zero, Nat.sub_zero]
  rcases Nat.le_total k l.length with h | h
  · rw [Nat.min_eq_left h]
  · rw [Nat.min_eq_right h, List.take_of_length_le h, List.take_of_length_le (Nat.le_refl _)]
theorem slice_ptp (r : List Int) (lo hi : Option Int) : ∃ d, sliceW (.im (.ptp (r.map .int))) lo hi = some (.im d) ∧ IsR d (cutL r lo hi) := by
  have hm : cutL (r.map D.int) lo hi = (cutL r lo hi).map D.int := by
    unfold cutL
    rw [List.length_map, List.map_take, List.map_drop]
  by_cases h : wholeL (r.map D.int) lo hi = true
  · have hc : cutL (r.map D.int) lo hi = r.map D.int := by
      unfold wholeL at h
      rw [Bool.and_eq_true, decide_eq_true_iff, decide_eq_true_iff] at h
      exact cutL_whole h
    refine ⟨.ptp (r.map .int), ?_, ?_⟩
    · show (some (r.map D.int)).map (fun ds => if wholeL ds lo hi = true then W.im (.ptp (r.map .int)) else W.im (.tup (cutL ds lo hi))) = _
      rw [Option.map_some, if_pos h]
    · have : cutL r lo hi = r := by
        unfold wholeL at h
        rw [Bool.and_eq_true, decide_eq_true_iff, decide_eq_true_iff, List.length_map] at h
        exact cutL_whole h
      rw [this]
      exact isR_ptp r
  · refine ⟨iT (cutL r lo hi), ?_, isR_iT _⟩
    show (some (r.map D.int)).map (fun ds => if wholeL ds lo hi = true then W.im (.ptp (r.map .int)) else W.im (.tup (cutL ds lo hi))) = _
    rw [Option.map_some, if_neg h, hm]
    rfl
theorem cat_R {d e : D} {r s : List Int} (h : IsR d r) (k : IsR e s) (hl : r.length + s.length ≤ 1000) : ∃ f, oCatT (.im d) (.im e) = some (.im f) ∧ IsR f (r ++ s) := by
  have sz : szOk (r.length + s.length) = true := szOk_m (by omega)
  unfold oCatT
  rw [h.tupD, k.tupD]
  simp only [List.length_map, sz, if_true]
  unfold tupKeep
  cases r with
  | nil => exact ⟨e, rfl, k⟩
  | cons x r =>
    cases s with
    | nil => exact ⟨d, rfl, by rw [List.append_nil]; exact h⟩
    | cons y s =>
      refine ⟨iT (x :: r ++ y :: s), ?_, isR_iT _⟩
      simp [iT]
theorem nI_at (R : List Nat) (i : Nat) (h : i < (nI R).length) : (nI R)[i] = ((R[i]'(by rwa [nI_len] at h) : Nat) : Int) := by simp [nI]
theorem isL_newN (l : List Nat) : IsL (.new (.lst (natL l))) (nI l) := .inl rfl
theorem cut_map {α β : Type} (l : List α) (f : α → β) (lo hi : Option Int) : cutL (l.map f) lo hi = (cutL l lo hi).map f := by
  unfold cutL
  rw [List.length_map, List.map_take, List.map_drop]
theorem slice_nat (j : Nat) (l : List Nat) (lo hi : Option Int) : sliceW (.sl j (.lst (natL l))) lo hi = some (.new (.lst (natL (cutL l lo hi)))) := by
  unfold sliceW
  rw [isLst_sl, if_pos rfl, seqD_sl, natL_D, allIm_map, natL_D, Option.map_some, cut_map]
theorem cat_nat (l r : List Nat) (h : l.length + r.length ≤ 1000) : oCatL (.new (.lst (natL l))) (.new (.lst (natL r))) = some (.new (.lst (natL (l ++ r)))) := by
  have sz : szOk (l.length + r.length) = true := szOk_m (by omega)
  unfold oCatL
  rw [if_pos ⟨rfl, rfl⟩, seqD_new, seqD_new, natL_D, natL_D, allIm_map, allIm_map, natL_D, List.map_append]
  simp only [List.length_map, sz, if_true]
/-- a ring told from its least road on -/
theorem from_spec {R : List Nat} (hR : R ≠ []) (hl : R.length ≤ 500) : ∃ k d, k < R.length ∧ (∀ x ∈ R, ∀ h : k < R.length, R[k] ≤ x) ∧ m_from_least [.im (.ptp ((nI R).map .int))] = some (.im d) ∧ IsR d (nI (R.drop k ++ R.take k)) := by
  obtain ⟨mn, em, hm, hle⟩ := minI_of (r := nI R) (by simpa [nI] using hR)
  have hk : (nI R).idxOf mn < (nI R).length := List.idxOf_lt_length_of_mem hm
  have hk2 : (nI R).idxOf mn < R.length := by rwa [nI_len] at hk
  obtain ⟨d1, s1, i1⟩ := slice_ptp (nI R) (some ((nI R).idxOf mn : Int)) none
  obtain ⟨d2, s2, i2⟩ := slice_ptp (nI R) none (some ((nI R).idxOf mn : Int))
  rw [cut_from] at i1
  rw [cut_to] at i2
  obtain ⟨f, s3, i3⟩ := cat_R i1 i2 (by simp; omega)
  have emin := oMin_R (isR_ptp (nI R)) em
  have eix : oIdxT (.im (.ptp ((nI R).map .int))) (.im (.int mn)) = some (.int ((nI R).idxOf mn : Int)) := by
    unfold oIdxT
    show (match intsD ((nI R).map D.int), some mn with | some ns, some k => if k ∈ ns then some (D.int (ns.idxOf k : Nat)) else none | _, _ => none) = _
    rw [intsD_map]
    simp only [hm, if_true]
  refine ⟨(nI R).idxOf mn, f, hk2, fun x hx h => ?_, ?_, ?_⟩
  · have e : (nI R)[(nI R).idxOf mn] = mn := List.getElem_idxOf hk
    have e2 := nI_at R ((nI R).idxOf mn) hk
    have := hle (x : Int) (mem_nI.2 hx)
    omega
  · simp [m_from_least, runF, f_from_least, emin, eix, s1, s2, s3, -List.map_drop, -List.map_take]
  · have : nI (R.drop ((nI R).idxOf mn) ++ R.take ((nI R).idxOf mn)) = (nI R).drop ((nI R).idxOf mn) ++ (nI R).take ((nI R).idxOf mn) := by
      unfold nI
      rw [List.map_append, List.map_drop, List.map_take]
    rw [this]
    exact i3
section
variable {m a b c : Nat} {T H : Nat → Nat} {p q : List Nat}
theorem way_append : ∀ {p : List Nat} {a : Nat}, IsWay m T H a p b → IsWay m T H b q c → IsWay m T H a (p ++ q) c
  | [], _, h, k => by cases h; exact k
  | r :: p, a, h, k => ⟨h.1, h.2.1, way_append h.2.2 k⟩
theorem way_take : ∀ {p : List Nat} {a : Nat} (k : Nat), IsWay m T H a p b → (hk : k < p.length) → IsWay m T H a (p.take k) (T p[k])
  | r :: p, a, 0, w, _ => w.2.1.symm
  | r :: p, a, k + 1, w, hk => ⟨w.1, w.2.1, way_take k w.2.2 (by simpa using hk)⟩
theorem way_rot (w : IsWay m T H a p a) (k : Nat) (hk : k < p.length) : IsWay m T H (T p[k]) (p.drop k ++ p.take k) (T p[k]) :=
  way_append (way_drop k w hk) (way_take k w hk)
theorem way_line : ∀ {p : List Nat} {a : Nat}, IsWay m T H a p b → p.map T ++ [b] = a :: p.map H
  | [], a, w => by cases w; rfl
  | r :: p, a, w => by
    have := way_line w.2.2
    rw [List.map_cons, List.cons_append, this, w.2.1]
    rfl
end
section
variable {n : Nat} {rs : List (Nat × Nat)} {t : List Int} {d : D}
theorem ring_ok_spec (F : Fr n rs) (g : Tg rs t) {q : Nat} {Q : List Nat} {a : Nat} (hD : IsR d (nI (q :: Q))) (hw : IsWay rs.length (tl rs t) (hd rs t) a (q :: Q) a) (nd : ((q :: Q).map (tl rs t)).Nodup) (hq : ∀ x ∈ Q, q ≤ x) : m_is_turning_ring [.im (frD n rs), .im (iT t), .im d] = some (.im (.bl true)) := by
  have h7 := F.m7
  have hlt := way_lt hw
  have hlen : (q :: Q).length ≤ rs.length := nodup_le (nodup_of_map nd) hlt
  have e : (nI (q :: Q)).map D.int = (q :: Q).map natD := by unfold nI; rw [List.map_map]; rfl
  have lc := lc_all (S := Unit) (fg := gfN 4) (ft := fYes) (fe := fAndV (fIsi "int" (fVar 4)) (fAndV (fNotV (fIsi "bool" (fVar 4))) (fChain oLe oLt (fC (.int 0)) (fVar 4) (fVar 3)))) (ρ := [.im (frD n rs), .im (iT t), .im d, .im (.int (rs.length : Int)), .no, .no, .no, .no]) (s := ())
    natD (fun _ => true) (fun k => M.im (.bl ((fun _ => true) k))) (q :: Q) (fun k hk => by
      refine ⟨[.im (frD n rs), .im (iT t), .im d, .im (.int (rs.length : Int)), .im (.int (k : Int)), .no, .no, .no], rfl, rfl, fun _ => ⟨.im (.bl true), ?_, rfl⟩⟩
      have hb := hlt k hk
      have h0 : (0 : Int) ≤ (k : Int) := by omega
      simp [kit_int, kit_intb, hb, h0])
  have lt' := lc_all (S := Unit) (fg := gfN 4) (ft := fYes) (fe := fCall 3 m_tail_of (fCons (fVar 0) (fCons (fVar 1) (fCons (fVar 4) fNil)))) (ρ := [.im (frD n rs), .im (iT t), .im d, .im (.int (rs.length : Int)), .no, .no, .no, .no]) (s := ())
    natD (fun _ => true) (fun k => intM (tl rs t k : Int)) (q :: Q) (fun k hk => by
      refine ⟨[.im (frD n rs), .im (iT t), .im d, .im (.int (rs.length : Int)), .im (.int (k : Int)), .no, .no, .no], rfl, rfl, fun _ => ⟨.im (.int (tl rs t k : Int)), ?_, rfl⟩⟩
      simp [tail_at g (hlt k hk)])
  have lh := lc_all (S := Unit) (fg := gfN 4) (ft := fYes) (fe := fCall 3 m_head_of (fCons (fVar 0) (fCons (fVar 1) (fCons (fVar 4) fNil)))) (ρ := [.im (frD n rs), .im (iT t), .im d, .im (.int (rs.length : Int)), .no, .own (.lst (natL ((q :: Q).map (tl rs t)))), .no, .no]) (s := ())
    natD (fun _ => true) (fun k => intM (K96.hd rs t k : Int)) (q :: Q) (fun k hk => by
      refine ⟨[.im (frD n rs), .im (iT t), .im d, .im (.int (rs.length : Int)), .im (.int (k : Int)), .own (.lst (natL ((q :: Q).map (tl rs t)))), .no, .no], rfl, rfl, fun _ => ⟨.im (.int (K96.hd rs t k : Int)), ?_, rfl⟩⟩
      simp [head_at g (hlt k hk)])
  have lcnt := lc_all (S := Unit) (fg := gfN 7) (ft := fTest (fOp oGt (fMet (fun x y => if isLst x = true then oCnt x y else none) (fVar 5) (fVar 7)) (fC (.int 1)))) (fe := fVar 7) (ρ := [.im (frD n rs), .im (iT t), .im d, .im (.int (rs.length : Int)), .no, .own (.lst (natL ((q :: Q).map (tl rs t)))), .own (.lst (natL ((q :: Q).map (K96.hd rs t)))), .no]) (s := ())
    natD (fun _ => false) (fun k => intM (k : Int)) ((q :: Q).map (tl rs t)) (fun k hk => by
      refine ⟨[.im (frD n rs), .im (iT t), .im d, .im (.int (rs.length : Int)), .no, .own (.lst (natL ((q :: Q).map (tl rs t)))), .own (.lst (natL ((q :: Q).map (K96.hd rs t)))), .im (.int (k : Int))], rfl, ?_, fun z => nomatch z⟩
      have hc : (nI ((q :: Q).map (tl rs t))).count (k : Int) ≤ 1 := by
        have nd2 : (nI ((q :: Q).map (tl rs t))).Nodup := by
          unfold nI
          exact List.Pairwise.map _ (fun a b h => by intro z; exact h (by omega)) nd
        exact List.nodup_iff_count.1 nd2 _
      have ec : oCnt (.sl 5 (.lst (natL ((q :: Q).map (tl rs t))))) (.im (.int (k : Int))) = some (.int ((nI ((q :: Q).map (tl rs t))).count (k : Int) : Nat)) := by
        unfold oCnt
        have := seqI_sl 5 (nI ((q :: Q).map (tl rs t)))
        unfold natL
        rw [this]
        rfl
      simp [-List.map_cons, ec]
      omega)
  rw [filter_true] at lc lt' lh
  rw [show ((q :: Q).map (tl rs t)).filter (fun _ => false) = [] from List.filter_eq_nil_iff.2 fun _ _ z => nomatch z] at lcnt
  have sz : szOk (q :: Q).length = true := szOk_m (by omega)
  have ht : (q :: Q).map (fun k => intM (tl rs t k : Int)) = natL ((q :: Q).map (tl rs t)) := by
    unfold natL nI; simp [intM]
  have hh : (q :: Q).map (fun k => intM (K96.hd rs t k : Int)) = natL ((q :: Q).map (K96.hd rs t)) := by
    unfold natL nI; simp [intM]
  rw [ht] at lt'
  rw [hh] at lh
  have oa := oBol_all (q :: Q) fun _ => true
  have e0 : oEq (.im d) (.im (.tup [])) = some (.bl false) := by rw [oEq_R hD isR_nil]; simp [nI]
  have emin := oMin_R hD (m := (q : Int)) (minI_head (a := (q : Int)) (r := nI Q) fun x hx => by
    obtain ⟨y, hy, rfl⟩ := List.mem_map.1 hx
    have := hq y hy
    omega)
  have hline := way_line hw
  have hcat : cutL ((q :: Q).map (tl rs t)) (some 1) none ++ cutL ((q :: Q).map (tl rs t)) none (some 1) = (q :: Q).map (K96.hd rs t) := by
    have a1 := cut_from ((q :: Q).map (tl rs t)) 1
    have a2 := cut_to ((q :: Q).map (tl rs t)) 1
    simp only [Int.natCast_one] at a1 a2
    rw [a1, a2]
    rw [List.map_cons, List.cons_append] at hline
    rw [List.map_cons]
    show Q.map (tl rs t) ++ [tl rs t q] = _
    rw [(List.cons.inj hline).1]
    exact (List.cons.inj hline).2
  have ecat := cat_nat (cutL ((q :: Q).map (tl rs t)) (some 1) none) (cutL ((q :: Q).map (tl rs t)) none (some 1)) (by rw [← List.length_append, hcat, List.length_map]; omega)
  rw [hcat] at ecat
  have e1 : oEq (.sl 6 (.lst (natL ((q :: Q).map (K96.hd rs t))))) (.new (.lst (natL ((q :: Q).map (K96.hd rs t))))) = some (.bl true) := by
    rw [oEq_L (isL_nat 6 _) (isL_newN _)]
    simp
  have ne := oNe_L (isL_sl 7 []) isL_nil
  have e2 : itemW (.im d) 0 = some (.im (.int (q : Int))) := by rw [hD.itemW, e]; exact congrArg _ (atI_zero _ _)
  have hn1 : oNe (.new (.lst [])) (.new (.lst [])) = some (.bl false) := by rw [oNe_L isL_nil isL_nil]; rfl
  have szt : szOk ((q :: Q).map (tl rs t)).length = true := by rw [List.length_map]; exact sz
  have htD := natL_D ((q :: Q).map (tl rs t))
  have oa' : oBol (fun bs => bs.all id) [.new (.lst ((q :: Q).map fun k => M.im (.bl true)))] = some (.bl true) := by rw [oa]; simp
  generalize eT : (q :: Q).map (tl rs t) = tls at *
  generalize eH : (q :: Q).map (K96.hd rs t) = hds at *
  generalize eQ : q :: Q = QQ at *
  have sT := slice_nat 5 tls
  have al : seqD (.sl 5 (.lst (natL tls))) = some (tls.map natD) := by rw [seqD_sl, natL_D, allIm_map]
  simp [m_is_turning_ring, runF, f_is_turning_ring, hD.tyD, kit_tup, e0, hD.tupD, e, sz, lc, oa', lt', lh, e2, emin, oNe_int, al, szt, lcnt, hn1, sT, ecat, e1, -List.map_map, -seqD_sl]
  done
end
end K96
end

section
set_option Elab.async false
set_option linter.all false
set_option maxRecDepth 100000
set_option maxHeartbeats 4000000
namespace K96
open PySem Pl L2
/-- a ring of roads, told from its least one on -/
def Ring (m : Nat) (T H : Nat → Nat) (Q : List Nat) : Prop := ∃ q Q' a, Q = q :: Q' ∧ IsWay m T H a Q a ∧ (Q.map T).Nodup ∧ ∀ x ∈ Q', q ≤ x
theorem rot_perm {α : Type} (R : List α) (k : Nat) : (R.drop k ++ R.take k).Perm R := by
  have := List.perm_append_comm (l₁ := R.drop k) (l₂ := R.take k)
  rwa [List.take_append_drop] at this
theorem ring_rot {m k : Nat} {T H : Nat → Nat} {R : List Nat} {a : Nat} (w : IsWay m T H a R a) (nd : (R.map T).Nodup) (hk : k < R.length) (hmin : ∀ x ∈ R, ∀ h : k < R.length, R[k] ≤ x) : Ring m T H (R.drop k ++ R.take k) := by
  refine ⟨R[k], R.drop (k + 1) ++ R.take k, T R[k], ?_, way_rot w k hk, ?_, fun x hx => hmin x ?_ hk⟩
  · rw [List.drop_eq_getElem_cons hk, List.cons_append]
  · exact (((rot_perm R k).map T).nodup_iff).2 nd
  · rcases List.mem_append.1 hx with h | h
    · exact List.mem_of_mem_drop h
    · exact List.mem_of_mem_take h
section
variable {n : Nat} {rs : List (Nat × Nat)} {t : List Int} {d : D} {r : Nat}
theorem ring_with_spec (F : Fr n rs) (g : Tg rs t) (hr : r < rs.length) :
    (∃ d Q, m_ring_with [.im (frD n rs), .im (iT t), .im (.int (r : Int))] = some (.im d) ∧ IsR d (nI Q) ∧ Ring rs.length (tl rs t) (K96.hd rs t) Q ∧ r ∈ Q) ∨
    (m_ring_with [.im (frD n rs), .im (iT t), .im (.int (r : Int))] = some (.im .non) ∧ ¬ Rch rs.length (tl rs t) (K96.hd rs t) (K96.hd rs t r) (tl rs t r)) := by
  have h7 := F.m7
  obtain ⟨V, ew, hV⟩ := ways_spec F g (hd_lt (t := t) F hr)
  have hh := head_at (n := n) g hr
  have ht := tail_at (n := n) g hr
  by_cases c : tl rs t r ∈ wk V
  · left
    obtain ⟨p, ep⟩ := wget_some c
    obtain ⟨w1, w2, w3⟩ := hV.simple ep
    have hw : IsWay rs.length (tl rs t) (K96.hd rs t) (tl rs t r) (r :: p) (tl rs t r) := ⟨hr, rfl, w1⟩
    have nd : ((r :: p).map (tl rs t)).Nodup := by
      rw [List.map_cons]
      exact (List.perm_append_comm.nodup_iff (l₁ := p.map (tl rs t) ++ [tl rs t r]) (l₂ := [tl rs t r] ++ p.map (tl rs t))).1 w3
    have hlen : (r :: p).length ≤ rs.length := nodup_le (nodup_of_map nd) (way_lt hw)
    obtain ⟨k, d, hk, hmin, ef, hd⟩ := from_spec (R := r :: p) (by simp) (by omega)
    refine ⟨d, _, ?_, hd, ring_rot hw nd hk hmin, ?_⟩
    · have sz : szOk (p.length + 1) = true := szOk_m (by rw [List.length_cons] at hlen; omega)
      have e1 : ((nI (r :: p)).map D.int) = .int (r : Int) :: (nI p).map D.int := rfl
      rw [e1] at ef
      have st : stos (((nI p).map D.int).map W.im) = some (((nI p).map D.int).map M.im) := by
        have := stos_app ((nI p).map D.int) []
        rw [List.append_nil] at this
        rw [this]; simp
      simp [m_ring_with, runF, f_ring_with, hh, ew, ht, look_W, ep, sz, st, ptpM, ef, -List.map_map]
    · exact (rot_perm (r :: p) k).mem_iff.2 List.mem_cons_self
  · right
    have e2 : wget V (tl rs t r) = none := by
      have := wget_isSome (W := V) (k := tl rs t r)
      simpa [c] using this
    refine ⟨by simp [m_ring_with, runF, f_ring_with, hh, ew, ht, look_W, e2], fun z => c ((hV.rch _).2 z)⟩
theorem ro_small (F : Fr n rs) (g : Tg rs t) : smallR (ro n rs t) := by
  refine ⟨by rw [ro_len]; have := F.n4; omega, fun k hk => ?_⟩
  rw [ro_oc g.len] at hk
  obtain ⟨c, _, rfl⟩ := List.mem_map.1 hk
  have := oc_le rs.length (tl rs t) c
  have := F.m7
  omega
theorem sum_ro (g : Tg rs t) {lot : List Nat} (hl : ∀ c ∈ lot, c < n) (nd : lot.Nodup) : (lot.map (at0 (ro n rs t))).sum = (inL (tl rs t) lot rs.length : Nat) := by
  rw [← sum_lot nd, ← sumI_nat]
  exact congrArg List.sum (List.map_congr_left fun c hc => ro_at g (hl c hc))
theorem tight_spec (F : Fr n rs) (g : Tg rs t) {c : Nat} {V : WD} (hV : Ways rs.length (tl rs t) (K96.hd rs t) n c V) : m_is_tight [.im (frD n rs), .im (iT (ro n rs t)), .im (iT (nI (led V)))] = some (.im (.bl true)) := by
  have h4 := F.n4
  have h7 := F.m7
  have hl : ∀ c ∈ led V, c < n := fun c hc => hV.ok.lt c (led_mem.1 hc)
  have hw := within_spec (n := n) (rs := rs) (lot := led V) (d := iT (nI (led V))) (by omega) (isR_iT _)
  have ha := outs_at_spec (row := ro n rs t) (lot := led V) (d := iT (nI (led V))) (ro_small F g) (fun c hc => by rw [ro_len]; exact hl c hc) (by have := led_few hV; omega) (isR_iT _)
  have e : ((rs.countP fun p => decide (p.1 ∈ led V) && decide (p.2 ∈ led V) : Nat) : Int) = ((led V).map (at0 (ro n rs t))).sum := by
    rw [sum_ro g hl (nodup_pw (led_lt hV)), closed_wi (led_cl hV), wi_eq g]
    rfl
  rw [e] at hw
  simp [m_is_tight, runF, f_is_tight, hw, ha, oEq_int]
theorem stiff_judged (F : Fr n rs) (g : Tg rs t) (hr : r < rs.length) : ∃ d, m_stiff_paper [.im (frD n rs), .im (iT t), .im (.int (r : Int))] = some (.im d) ∧ m_judge_stiff [.im (frD n rs), .im (iT t), .im (.int (r : Int)), .im d] = some (.im .non) := by
  have h4 := F.n4
  have hh := head_at (n := n) g hr
  have ht := tail_at (n := n) g hr
  have eo := outs_spec F g
  rcases ring_with_spec F g hr with ⟨d, Q, e, hd, ⟨q, Q', a, rfl, hw, nd, hq⟩, hrQ⟩ | ⟨e, hn⟩
  · have ok := ring_ok_spec F g hd hw nd hq
    have hin := oIn_R hd false (r : Int)
    have hm := mem_nI.2 hrQ
    refine ⟨.tup [.str "ring", d], ?_, ?_⟩
    · simp [m_stiff_paper, runF, f_stiff_paper, e, hd.isNon]
    · simp [m_judge_stiff, runF, f_judge_stiff, kit_tup, kit_str, oNe_int, e_rr, ok, hin, hm]
  · obtain ⟨V, el, hV⟩ := led_spec F g (hd_lt (t := t) F hr)
    have il := is_lot_spec (rs := rs) (n := n) (lot := led V) (led_lt hV) (fun c hc => hV.ok.lt c (led_mem.1 hc)) (by have := led_few hV; omega) (isR_iT _)
    have tt := tight_spec F g hV
    have h1 := oIn_R (isR_iT (nI (led V))) false (K96.hd rs t r : Int)
    have h2 := oIn_R (isR_iT (nI (led V))) true (tl rs t r : Int)
    have m1 : (K96.hd rs t r : Int) ∈ nI (led V) := mem_nI.2 (led_mem.2 hV.ok.c0)
    have m2 : ¬ (tl rs t r : Int) ∈ nI (led V) := fun z => hn ((hV.rch _).1 (led_mem.1 (mem_nI.1 z)))
    refine ⟨.tup [.str "lot", iT (nI (led V))], ?_, ?_⟩
    · simp [m_stiff_paper, runF, f_stiff_paper, e, hh, el]
    · simp [m_judge_stiff, runF, f_judge_stiff, kit_tup, kit_str, oNe_int, e_lr, n_ll, il, eo, tt, ht, hh, h1, h2, m1, m2]
end
end K96
end

section
set_option Elab.async false
set_option linter.all false
set_option maxRecDepth 100000
set_option maxHeartbeats 4000000
namespace K96
open PySem Pl L2
def rowL (ls : List (List Nat)) : List D := ls.map fun l => iT (nI l)
theorem oIn_N {d : D} {l : List Nat} (h : IsR d (nI l)) (neg : Bool) (c : Nat) : oIn neg (.im (.int (c : Int))) (.im d) = some (.bl (if neg then !decide (c ∈ l) else decide (c ∈ l))) := by
  rw [oIn_R h]
  have e : decide ((c : Int) ∈ nI l) = decide (c ∈ l) := decide_eq_decide.2 mem_nI
  rw [e]
/-- the list of lots of crossings to which one is led -/
structure Led (n : Nat) (rs : List (Nat × Nat)) (t : List Int) (lw : Nat → List Nat) : Prop where
  ev : ∀ c, c < n → m_led_from [.im (frD n rs), .im (iT t), .im (.int (c : Int))] = some (.im (iT (nI (lw c))))
  rch : ∀ c, c < n → ∀ v, v ∈ lw c ↔ Rch rs.length (tl rs t) (hd rs t) c v
  lt : ∀ c, c < n → ∀ v ∈ lw c, v < n
  pw : ∀ c, c < n → (lw c).Pairwise (· < ·)
theorem led_all {n : Nat} {rs : List (Nat × Nat)} {t : List Int} (F : Fr n rs) (g : Tg rs t) : ∃ lw, Led n rs t lw := by
  have h : ∀ c, ∃ l : List Nat, c < n → m_led_from [.im (frD n rs), .im (iT t), .im (.int (c : Int))] = some (.im (iT (nI l))) ∧ (∀ v, v ∈ l ↔ Rch rs.length (tl rs t) (hd rs t) c v) ∧ (∀ v ∈ l, v < n) ∧ l.Pairwise (· < ·) := fun c => by
    by_cases hc : c < n
    · obtain ⟨W, e, h⟩ := led_spec F g hc
      exact ⟨led W, fun _ => ⟨e, fun v => led_mem.trans (h.rch v), fun v hv => h.ok.lt v (led_mem.1 hv), led_lt h⟩⟩
    · exact ⟨[], fun z => absurd z hc⟩
  refine ⟨fun c => Classical.choose (h c), fun c hc => ?_, fun c hc => ?_, fun c hc => ?_, fun c hc => ?_⟩
  · exact (Classical.choose_spec (h c) hc).1
  · exact (Classical.choose_spec (h c) hc).2.1
  · exact (Classical.choose_spec (h c) hc).2.2.1
  · exact (Classical.choose_spec (h c) hc).2.2.2
def part (lw : Nat → List Nat) (f : Nat) : List Nat := (lw f).filter fun c => decide (f ∈ lw c)
def prts (lw : Nat → List Nat) (j : Nat) : List (List Nat) := ((List.range j).filter fun f => decide ((part lw f).headD 0 = f)).map (part lw)
theorem prts_succ (lw : Nat → List Nat) (j : Nat) : prts lw (j + 1) = prts lw j ++ if (part lw j).headD 0 = j then [part lw j] else [] := by
  unfold prts
  rw [List.range_succ, List.filter_append, List.map_append]
  congr 1
  rw [List.filter_cons]
  by_cases h : (part lw j).headD 0 = j
  · rw [if_pos (decide_eq_true h), if_pos h]; rfl
  · rw [if_neg (fun z => h (of_decide_eq_true z)), if_neg h]; rfl
noncomputable def bParts : Fn Unit Out := (fSeq (fSet 6 (fCal oTuple (fCons (fLc (xTup (fIx (fVar 2) (fVar 5))) (gfN 4) (fTest (fOp (oIn false) (fVar 5) (fIx (fVar 2) (fVar 4)))) (fVar 4) [4]) fNil)))
  (fIfS (fTest (fOp oEq (fIx (fVar 6) (fC (.int 0))) (fVar 5))) (fApp 3 (fVar 6)) fNx))
theorem f_parts_eq : f_parts_of = (fSeq (fTup2 2 3 (fCons (fLc (xRng1 (fCons (fIx (fVar 0) (fC (.int 0))) fNil)) (gfN 4) fYes (fCall 3 m_led_from (fCons (fVar 0) (fCons (fVar 1) (fCons (fVar 4) fNil)))) [4]) (fCons (fLst fNil) fNil)))
  (fSeq (fFor none (xRng1 (fCons (fIx (fVar 0) (fC (.int 0))) fNil)) (gfN 5) bParts)
  (fRet none (fCal oTuple (fCons (fVar 3) fNil))))) := rfl
section
variable {n : Nat} {rs : List (Nat × Nat)} {t : List Int} {lw : Nat → List Nat}
theorem Led.self (L : Led n rs t lw) {c : Nat} (hc : c < n) : c ∈ lw c := (L.rch c hc c).2 .refl
theorem part_ne (L : Led n rs t lw) {f : Nat} (hf : f < n) : ∃ a l, part lw f = a :: l := by
  have : f ∈ part lw f := List.mem_filter.2 ⟨L.self hf, decide_eq_true (L.self hf)⟩
  cases e : part lw f with
  | nil => rw [e] at this; cases this
  | cons a l => exact ⟨a, l, rfl⟩
theorem lw_len (F : Fr n rs) (L : Led n rs t lw) {c : Nat} (hc : c < n) : (lw c).length ≤ 4 := by
  have := nodup_le (nodup_pw (L.pw c hc)) (L.lt c hc)
  have := F.n4
  omega
theorem iT_nat (l : List Nat) : iT (nI l) = .tup (l.map natD) := (natD_T l).symm
theorem parts_step (F : Fr n rs) (L : Led n rs t lw) {j : Nat} (hj : j < n) (c4 c6 : C) :
    bParts [.im (frD n rs), .im (iT t), .own (.lst ((rowL ((List.range n).map lw)).map M.im)), .own (.lst ((rowL (prts lw j)).map M.im)), c4, .im (.int (j : Int)), c6] () =
    some (.nx [.im (frD n rs), .im (iT t), .own (.lst ((rowL ((List.range n).map lw)).map M.im)), .own (.lst ((rowL (prts lw (j + 1))).map M.im)), c4, .im (.int (j : Int)), .im (iT (nI (part lw j)))], ()) := by
  have h4 := F.n4
  have hit : ∀ c, c < n → atI ((rowL ((List.range n).map lw)).map M.im) (c : Int) = some (.im (iT (nI (lw c)))) := fun c hc => by
    unfold rowL
    rw [List.map_map, List.map_map, atI_map (by simpa using hc)]
    simp
  have lc := lc_all (S := Unit) (fg := gfN 4) (ft := fTest (fOp (oIn false) (fVar 5) (fIx (fVar 2) (fVar 4)))) (fe := fVar 4) (ρ := [.im (frD n rs), .im (iT t), .own (.lst ((rowL ((List.range n).map lw)).map M.im)), .own (.lst ((rowL (prts lw j)).map M.im)), .no, .im (.int (j : Int)), c6]) (s := ())
    natD (fun c => decide (j ∈ lw c)) (fun c => intM (c : Int)) (lw j) (fun c hc => by
      have hcn := L.lt j hj c hc
      refine ⟨[.im (frD n rs), .im (iT t), .own (.lst ((rowL ((List.range n).map lw)).map M.im)), .own (.lst ((rowL (prts lw j)).map M.im)), .im (.int (c : Int)), .im (.int (j : Int)), c6], rfl, ?_, fun _ => ⟨_, rfl, rfl⟩⟩
      simp [hit c hcn, oIn_N (isR_iT _)])
  have e1 : ((lw j).filter fun c => decide (j ∈ lw c)).map (fun c : Nat => intM (c : Int)) = ((nI (part lw j)).map D.int).map M.im := by
    unfold part nI intM
    simp
  rw [e1] at lc
  have eT : tupD (.im (iT (nI (lw j)))) = some ((lw j).map natD) := by rw [iT_nat]; rfl
  have sz : szOk (lw j).length = true := szOk_m (by have := lw_len F L hj; omega)
  obtain ⟨a, l, ep⟩ := part_ne L hj
  have e0 : itemW (.im (iT (nI (part lw j)))) 0 = some (.im (.int (a : Int))) := by
    rw [ep, itemW_iT]
    rw [show (nI (a :: l)).map D.int = .int (a : Int) :: (nI l).map D.int from rfl, atI_zero]
    rfl
  have sz2 : szOk (prts lw j).length = true := szOk_m (by
    unfold prts
    rw [List.length_map]
    have := List.length_filter_le (fun f => decide ((part lw f).headD 0 = f)) (List.range j)
    rw [List.length_range] at this
    omega)
  have etup : ofM (tupM (((nI (part lw j)).map D.int).map M.im)) = .im (iT (nI (part lw j))) := by rw [tupM_ims]; rfl
  rw [prts_succ]
  by_cases h : a = j
  · have e2 : rowL (prts lw j ++ if (part lw j).headD 0 = j then [part lw j] else []) = rowL (prts lw j) ++ [iT (nI (part lw j))] := by
      rw [if_pos (by rw [ep]; exact h)]; simp [rowL]
    rw [e2, List.map_append]
    have sz3 : szOk (rowL (prts lw j)).length = true := by unfold rowL; rw [List.length_map]; exact sz2
    simp [bParts, hit j hj, eT, sz, lc, e0, oEq_int, h, sz3, etup, -List.map_map, -itemW_iT, -tupD_iT, -tupM_ims]
  · have e2 : rowL (prts lw j ++ if (part lw j).headD 0 = j then [part lw j] else []) = rowL (prts lw j) := by
      rw [if_neg (by rw [ep]; exact h)]; simp [rowL]
    rw [e2]
    have h' : ¬ ((a : Int) = (j : Int)) := by omega
    simp [bParts, hit j hj, eT, sz, lc, e0, oEq_int, h, h', etup, -List.map_map, -itemW_iT, -tupD_iT, -tupM_ims]
theorem parts_spec (F : Fr n rs) (L : Led n rs t lw) : m_parts_of [.im (frD n rs), .im (iT t)] = some (.im (.tup (rowL (prts lw n)))) := by
  have h4 := F.n4
  have sn : smI (n : Int) = true := smI_nat (by omega)
  have sz : szOk n = true := szOk_m (by omega)
  have lc := lc_all (S := Unit) (fg := gfN 4) (ft := fYes) (fe := fCall 3 m_led_from (fCons (fVar 0) (fCons (fVar 1) (fCons (fVar 4) fNil)))) (ρ := [.im (frD n rs), .im (iT t), .no, .no, .no, .no, .no]) (s := ())
    natD (fun _ => true) (fun c => M.im (iT (nI (lw c)))) (List.range n) (fun c hc => by
      have hc := List.mem_range.1 hc
      refine ⟨[.im (frD n rs), .im (iT t), .no, .no, .im (.int (c : Int)), .no, .no], rfl, rfl, fun _ => ⟨.im (iT (nI (lw c))), ?_, rfl⟩⟩
      simp [L.ev c hc])
  rw [filter_true] at lc
  have e1 : (List.range n).map (fun c => M.im (iT (nI (lw c)))) = (rowL ((List.range n).map lw)).map M.im := by unfold rowL; simp
  rw [e1] at lc
  obtain ⟨ρ', e, c4, c5, c6, rfl⟩ := for_rng (fg := gfN 5) (f := bParts) (s := ()) (ρ := [.im (frD n rs), .im (iT t), .own (.lst ((rowL ((List.range n).map lw)).map M.im)), .own (.lst []), .no, .no, .no]) n
    (fun j ρ => ∃ c4 c5 c6, ρ = [.im (frD n rs), .im (iT t), .own (.lst ((rowL ((List.range n).map lw)).map M.im)), .own (.lst ((rowL (prts lw j)).map M.im)), c4, c5, c6])
    ⟨_, _, _, rfl⟩ (fun j ρ hj ⟨c4, c5, c6, hρ⟩ => by
      subst hρ
      exact ⟨_, _, rfl, parts_step F L hj c4 c6, _, _, _, rfl⟩)
  simp [m_parts_of, runF, f_parts_eq, sn, rng_nat, sz, lc, -List.map_map] at e ⊢
  simp [e, -List.map_map]
end
end K96
end

section
set_option Elab.async false
set_option linter.all false
set_option maxRecDepth 100000
set_option maxHeartbeats 4000000
namespace K96
open PySem Pl L2
theorem map_py_rows (ls : List (List Nat)) : (rowL ls).map D.py = (ls.map nI).map fun r => (iT r).py := by
  unfold rowL
  rw [List.map_map, List.map_map]
  rfl
theorem eqv_nil (xs : List PyData) : PyData.eqv (.list xs) (.list []) = decide (xs = []) := by
  rw [PyData.eqv]
  cases xs <;> simp [PyData.eqvAll]
theorem ok_lrows (rs : List (List Int)) : okPy (.list (rs.map fun r => (iT r).py)) = true := ok_rows rs
theorem oEq_rows (ls : List (List Nat)) : oEq (.new (.lst ((rowL ls).map M.im))) (.new (.lst [])) = some (.bl (decide (ls = []))) := by
  rw [oEq_of (p := .list ((ls.map nI).map fun r => (iT r).py)) (q := .list []) (by rw [← map_py_rows]; exact py_lst _) rfl (ok_lrows _) (ok_lints []), eqv_nil]
  simp
def enR (rs : List (Nat × Nat)) (i : Nat) : D := .tup [.int (i : Int), rdD (rs.getD i (0, 0))]
theorem enum_roads (rs : List (Nat × Nat)) : enumD 0 (rs.map rdD) = (List.range rs.length).map (enR rs) := by
  rw [enumD_0, List.length_map]
  refine List.map_congr_left fun i hi => ?_
  unfold enR
  rw [List.mem_range] at hi
  simp [List.getD_eq_getElem?_getD, hi]
noncomputable def bStiff : Fn Unit Out := (fIfS (fTest (fOp oEq (fLc (xTup (fVar 2)) (gfN 7) (fAnd (fTest (fOp (oIn false) (fVar 5) (fVar 7))) (fTest (fOp (oIn false) (fVar 6) (fVar 7)))) (fVar 7) [7]) (fLst fNil))) (fApp 3 (fVar 4)) fNx)
theorem f_stiff_eq : f_stiff_roads = (fSeq (fPar2 2 3 (fCons (fCall 2 m_parts_of (fCons (fVar 0) (fCons (fVar 1) fNil))) (fCons (fLst fNil) fNil)))
  (fSeq (fFor none (xEnumT (fCons (fIx (fVar 0) (fC (.int 1))) fNil)) (gfTup 2 (gfCons (gfN 4) (gfCons (gfTup 2 (gfCons (gfN 5) (gfCons (gfN 6) gfNil))) gfNil))) bStiff)
  (fRet none (fCal oTuple (fCons (fVar 3) fNil))))) := rfl
section
variable {n : Nat} {rs : List (Nat × Nat)} {t : List Int} {lw : Nat → List Nat}
def both (ps : List (List Nat)) (p : Nat × Nat) : List (List Nat) := ps.filter fun l => decide (p.1 ∈ l) && decide (p.2 ∈ l)
theorem both_lc {ps : List (List Nat)} {p : Nat × Nat} {c0 c1 c3 c4 : C} {ds : D} :
    lcL (gfN 7) (fAnd (fTest (fOp (oIn false) (fVar 5) (fVar 7))) (fTest (fOp (oIn false) (fVar 6) (fVar 7)))) (fVar 7) [c0, c1, .im ds, c3, c4, .im (.int (p.1 : Int)), .im (.int (p.2 : Int)), .no] (rowL ps) () = some ((rowL (both ps p)).map M.im, ()) := by
  have q := lc_all (S := Unit) (fg := gfN 7) (ft := fAnd (fTest (fOp (oIn false) (fVar 5) (fVar 7))) (fTest (fOp (oIn false) (fVar 6) (fVar 7)))) (fe := fVar 7) (ρ := [c0, c1, .im ds, c3, c4, .im (.int (p.1 : Int)), .im (.int (p.2 : Int)), .no]) (s := ())
    (fun l => iT (nI l)) (fun l => decide (p.1 ∈ l) && decide (p.2 ∈ l)) (fun l => M.im (iT (nI l))) ps (fun l hl => by
      refine ⟨[c0, c1, .im ds, c3, c4, .im (.int (p.1 : Int)), .im (.int (p.2 : Int)), .im (iT (nI l))], rfl, ?_, fun _ => ⟨_, rfl, rfl⟩⟩
      simp [oIn_N (isR_iT _)]
      by_cases c : p.1 ∈ l <;> simp [c])
  rw [show rowL ps = ps.map fun l => iT (nI l) from rfl, q]
  unfold rowL both
  rw [List.map_map]
  rfl
def stf (rs : List (Nat × Nat)) (ps : List (List Nat)) (r : Nat) : Bool := decide (both ps (rs.getD r (0, 0)) = [])
theorem stiff_step (F : Fr n rs) (ps : List (List Nat)) (hps : ps.length ≤ 4) {j : Nat} (hj : j < rs.length) (c7 : C) (p : Nat × Nat) (hp : p = rs.getD j (0, 0)) (c0 c1 : C) :
    bStiff [c0, c1, .im (.tup (rowL ps)), .own (.lst (natL ((List.range j).filter (stf rs ps)))), .im (.int (j : Int)), .im (.int (p.1 : Int)), .im (.int (p.2 : Int)), c7] () =
    some (.nx [c0, c1, .im (.tup (rowL ps)), .own (.lst (natL ((List.range (j + 1)).filter (stf rs ps)))), .im (.int (j : Int)), .im (.int (p.1 : Int)), .im (.int (p.2 : Int)), c7], ()) := by
  have h7 := F.m7
  have sz : szOk (rowL ps).length = true := szOk_m (by unfold rowL; rw [List.length_map]; omega)
  have lc := both_lc (ps := ps) (p := p) (c0 := c0) (c1 := c1) (c3 := .own (.lst (natL ((List.range j).filter (stf rs ps))))) (c4 := .im (.int (j : Int))) (ds := .tup (rowL ps))
  have ee := oEq_rows (both ps p)
  have sz2 : szOk ((List.range j).filter (stf rs ps)).length = true := szOk_m (by
    have := List.length_filter_le (stf rs ps) (List.range j)
    rw [List.length_range] at this
    omega)
  rw [List.range_succ, List.filter_append]
  by_cases h : both ps p = []
  · have e1 : [j].filter (stf rs ps) = [j] := by
      rw [List.filter_cons, if_pos]
      · rfl
      · subst hp; exact decide_eq_true h
    rw [e1]
    rw [decide_eq_true h] at ee
    simp [bStiff, sz, lc, ee, natL_len, sz2, natL_app, -List.map_map]
  · have e1 : [j].filter (stf rs ps) = [] := by
      rw [List.filter_cons, if_neg]
      · rfl
      · subst hp; exact fun z => h (of_decide_eq_true z)
    rw [e1, List.append_nil]
    rw [decide_eq_false h] at ee
    simp [bStiff, sz, lc, ee, -List.map_map]
theorem stiff_spec (F : Fr n rs) (L : Led n rs t lw) : m_stiff_roads [.im (frD n rs), .im (iT t)] = some (.im (iT (nI ((List.range rs.length).filter (stf rs (prts lw n)))))) := by
  have h7 := F.m7
  have h4 := F.n4
  have ep := parts_spec F L
  have hps : (prts lw n).length ≤ 4 := by
    unfold prts
    rw [List.length_map]
    have := List.length_filter_le (fun f => decide ((part lw f).headD 0 = f)) (List.range n)
    rw [List.length_range] at this
    omega
  obtain ⟨ρ', e, c4, c5, c6, c7, rfl⟩ := for_pre (fg := gfTup 2 (gfCons (gfN 4) (gfCons (gfTup 2 (gfCons (gfN 5) (gfCons (gfN 6) gfNil))) gfNil))) (f := bStiff) (s := ()) (ρ := [.im (frD n rs), .im (iT t), .im (.tup (rowL (prts lw n))), .own (.lst (natL [])), .no, .no, .no, .no]) (enR rs)
    (fun pre ρ => ∃ c4 c5 c6 c7, ρ = [.im (frD n rs), .im (iT t), .im (.tup (rowL (prts lw n))), .own (.lst (natL ((List.range pre.length).filter (stf rs (prts lw n))))), c4, c5, c6, c7]) (List.range rs.length)
    ⟨_, _, _, _, rfl⟩ (fun pre x suf ρ hx ⟨c4, c5, c6, c7, hρ⟩ => by
      have hl : pre.length < rs.length := by
        have := congrArg List.length hx
        rw [List.length_range, List.length_append, List.length_cons] at this
        omega
      have ex : x = pre.length := by
        have e := congrArg (fun l => l[pre.length]?) hx
        simp [hl] at e
        exact e.symm
      subst hρ
      subst ex
      refine ⟨_, _, rfl, stiff_step F (prts lw n) hps hl c7 _ rfl _ _, ?_⟩
      rw [List.length_append]
      exact ⟨_, _, _, _, rfl⟩)
  rw [List.length_range] at e
  simp [m_stiff_roads, runF, f_stiff_eq, ep, enum_roads, -List.map_map]
  rw [natL_nil] at e
  rw [e]
  simp [natL, -List.map_map]
  rfl
/-- a road is in no part just if its head doesn't lead to its tail -/
theorem stf_iff (F : Fr n rs) (g : Tg rs t) (L : Led n rs t lw) {r : Nat} (hr : r < rs.length) : stf rs (prts lw n) r = true ↔ ¬ Rch rs.length (tl rs t) (hd rs t) (hd rs t r) (tl rs t r) := by
  have hT := tl_lt (t := t) F hr
  have hH := hd_lt (t := t) F hr
  have ha : ∀ a b, a < n → b < n → ((∃ l ∈ prts lw n, a ∈ l ∧ b ∈ l) ↔ (Rch rs.length (tl rs t) (hd rs t) a b ∧ Rch rs.length (tl rs t) (hd rs t) b a)) := by
    intro a b ha hb
    have mem_part : ∀ f v, f < n → (v ∈ part lw f ↔ Rch rs.length (tl rs t) (hd rs t) f v ∧ Rch rs.length (tl rs t) (hd rs t) v f) := by
      intro f v hf
      unfold part
      rw [List.mem_filter, L.rch f hf, decide_eq_true_iff]
      constructor
      · intro ⟨h1, h2⟩
        exact ⟨h1, (L.rch v (L.lt f hf v ((L.rch f hf v).2 h1)) f).1 h2⟩
      · intro ⟨h1, h2⟩
        exact ⟨h1, (L.rch v (L.lt f hf v ((L.rch f hf v).2 h1)) f).2 h2⟩
    constructor
    · rintro ⟨l, hl, h1, h2⟩
      unfold prts at hl
      obtain ⟨f, hf, rfl⟩ := List.mem_map.1 hl
      have hf := List.mem_range.1 (List.mem_filter.1 hf).1
      have q1 := (mem_part f a hf).1 h1
      have q2 := (mem_part f b hf).1 h2
      exact ⟨rch_trans q1.2 q2.1, rch_trans q2.2 q1.1⟩
    · intro ⟨h1, h2⟩
      -- the least crossing of a's part
      obtain ⟨f, l, e⟩ := part_ne L ha
      have hfm : f ∈ part lw a := by rw [e]; exact List.mem_cons_self
      have q := (mem_part a f ha).1 hfm
      have hfn : f < n := L.lt a ha f ((L.rch a ha f).2 q.1)
      have same : ∀ v, v ∈ part lw f ↔ v ∈ part lw a := fun v => by
        rw [mem_part f v hfn, mem_part a v ha]
        exact ⟨fun z => ⟨rch_trans q.1 z.1, rch_trans z.2 q.2⟩, fun z => ⟨rch_trans q.2 z.1, rch_trans z.2 q.1⟩⟩
      have pwa : (part lw a).Pairwise (· < ·) := (L.pw a ha).filter _
      have pwf : (part lw f).Pairwise (· < ·) := (L.pw f hfn).filter _
      have eq : part lw f = part lw a := by
        refine List.Perm.eq_of_pairwise (le := fun a b : Nat => a < b) (fun a b _ _ h1 h2 => by omega) pwf pwa ?_
        exact (List.perm_ext_iff_of_nodup (nodup_pw pwf) (nodup_pw pwa)).2 same
      refine ⟨part lw f, ?_, ?_, ?_⟩
      · unfold prts
        refine List.mem_map.2 ⟨f, List.mem_filter.2 ⟨List.mem_range.2 hfn, decide_eq_true ?_⟩, rfl⟩
        rw [eq, e]
        rfl
      · rw [eq]; exact (mem_part a a ha).2 ⟨.refl, .refl⟩
      · rw [eq]; exact (mem_part a b ha).2 ⟨h1, h2⟩
  have step : Rch rs.length (tl rs t) (hd rs t) (tl rs t r) (hd rs t r) := .step .refl hr
  have key : (∃ l ∈ prts lw n, tl rs t r ∈ l ∧ hd rs t r ∈ l) ↔ Rch rs.length (tl rs t) (hd rs t) (hd rs t r) (tl rs t r) := by
    rw [ha _ _ hT hH]
    exact ⟨fun z => z.2, fun z => ⟨step, z⟩⟩
  rw [← key]
  unfold stf both
  rw [decide_eq_true_iff, List.filter_eq_nil_iff]
  constructor
  · rintro h ⟨l, hl, h1, h2⟩
    refine h l hl ?_
    rw [Bool.and_eq_true, decide_eq_true_iff, decide_eq_true_iff]
    rcases ends_two g r with ⟨a, b⟩ | ⟨a, b⟩
    · exact ⟨a ▸ h1, b ▸ h2⟩
    · exact ⟨b ▸ h2, a ▸ h1⟩
  · intro h l hl hb
    rw [Bool.and_eq_true, decide_eq_true_iff, decide_eq_true_iff] at hb
    refine h ⟨l, hl, ?_⟩
    rcases ends_two g r with ⟨a, b⟩ | ⟨a, b⟩
    · rw [a, b]; exact hb
    · rw [a, b]; exact ⟨hb.2, hb.1⟩
/-! stiff roads are those that go one way in all turnings with these outs -/
theorem oc_zero {m c : Nat} {T : Nat → Nat} (h : ∀ r, r < m → T r ≠ c) : oc m T c = 0 := by
  unfold oc cnt
  refine List.countP_eq_zero.2 fun r hr z => ?_
  exact h r (List.mem_range.1 hr) (by simpa using z)
theorem ro_eq_oc (F : Fr n rs) {t' : List Int} (g : Tg rs t) (g' : Tg rs t') (e : ro n rs t = ro n rs t') (c : Nat) : oc rs.length (tl rs t) c = oc rs.length (tl rs t') c := by
  by_cases hc : c < n
  · rw [ro_oc g.len, ro_oc g'.len] at e
    have := rowF_ext.1 e c hc
    omega
  · rw [oc_zero fun r hr z => hc (by rw [← z]; exact tl_lt F hr), oc_zero fun r hr z => hc (by rw [← z]; exact tl_lt F hr)]
theorem ro_of_oc {t' : List Int} (g : Tg rs t) (g' : Tg rs t') (e : ∀ c, oc rs.length (tl rs t) c = oc rs.length (tl rs t') c) : ro n rs t = ro n rs t' := by
  rw [ro_oc g.len, ro_oc g'.len]
  exact rowF_ext.2 fun c _ => by rw [e]
theorem getD_lt {t : List Int} {r : Nat} (h : r < t.length) : t.getD r 0 = t[r] := by simp [List.getD_eq_getElem?_getD, h]
theorem stf_all (F : Fr n rs) (g : Tg rs t) (L : Led n rs t lw) {r : Nat} (hr : r < rs.length) : stf rs (prts lw n) r = true ↔ ∀ t', Tg rs t' → ro n rs t' = ro n rs t → at0 t' r = at0 t r := by
  rw [stf_iff F g L hr]
  constructor
  · intro h t' g' e
    obtain ⟨V, _, hV⟩ := ways_spec F g (hd_lt (t := t) F hr)
    have h1 : tl rs t r ∉ led V := fun z => h ((hV.rch _).1 (led_mem.1 z))
    have h2 : hd rs t r ∈ led V := led_mem.2 hV.ok.c0
    have q := stiff_const (nodup_pw (led_lt hV)) (led_cl hV) (tg_alike g g') (fun c => ro_eq_oc F g g' e.symm c) hr h1 h2
    have ne : tl rs t r ≠ hd rs t r := fun z => h1 (z ▸ h2)
    unfold tl at q ne
    unfold hd at ne
    unfold at0
    rcases g.getD r with a | a <;> rcases g'.getD r with b | b
    · rw [a, b]
    · exfalso
      rw [a, b] at q
      rw [a] at ne
      exact ne q.symm
    · exfalso
      rw [a, b] at q
      rw [a] at ne
      exact ne q.symm
    · rw [a, b]
  · intro h z
    rcases ring_with_spec F g hr with ⟨d, Q, _, _, ⟨q, Q', a, eQ, hw, nd, _⟩, hrQ⟩ | ⟨_, hn⟩
    · have g' := flp_tg g Q
      have e := ro_of_oc (n := n) g' g fun c => by
        have := flip_way (c := c) (T' := tl rs (flp t Q)) hw (nodup_of_map nd) fun r hr => flp_tl g Q hr
        omega
      have q := h _ g' e
      have := flp_at (t := t) (R := Q) (r := r) (by rw [g.len]; exact hr)
      rw [if_pos hrQ] at this
      unfold at0 at q this
      rw [this] at q
      have := g.getD r
      omega
    · exact hn z
end
end K96
end

section
set_option Elab.async false
set_option linter.all false
set_option maxRecDepth 100000
set_option maxHeartbeats 4000000
namespace K96
open PySem Pl L2
noncomputable def bWithin : Fn Unit Out := (fSeq (fApp 5 (fVar 3))
  (fSeq (fSet 6 (fIx (fLc (xList (fVar 2)) (gfN 7) (fAnd (fTest (fOp (oIn true) (fVar 7) (fVar 4))) (fTest (fOp oEq (fCall 3 m_tail_of (fCons (fVar 0) (fCons (fVar 1) (fCons (fVar 7) fNil)))) (fVar 3)))) (fVar 7) [7]) (fC (.int 0))))
  (fSeq (fApp 4 (fVar 6))
  (fSet 3 (fCall 3 m_head_of (fCons (fVar 0) (fCons (fVar 1) (fCons (fVar 6) fNil))))))))
theorem f_within_eq : f_ring_within = (fSeq (fTup3 3 4 5 (fCons (fCall 3 m_tail_of (fCons (fVar 0) (fCons (fVar 1) (fCons (fIx (fVar 2) (fC (.int 0))) fNil)))) (fCons (fLst fNil) (fCons (fLst fNil) fNil))))
  (fSeq (fWh (fTest (fOp (oIn true) (fVar 3) (fVar 5))) bWithin 1000)
  (fRet none (fCall 1 m_from_least (fCons (fCal oTupP (fCons (fSlice (fVar 4) (fPart (fMet (fun x y => if isLst x = true then oIdx x y else none) (fVar 5) (fVar 3))) (fun _ s => some (none, s))) fNil)) fNil))))) := rfl
theorem oIn_natL (w : W) (l : List Nat) (h : w = .new (.lst (natL l)) ∨ ∃ j, w = .sl j (.lst (natL l))) (neg : Bool) (c : Nat) : oIn neg (.im (.int (c : Int))) w = some (.bl (if neg then !decide (c ∈ l) else decide (c ∈ l))) := by
  rw [oIn_L w (nI l) h]
  have e : decide ((c : Int) ∈ nI l) = decide (c ∈ l) := decide_eq_decide.2 mem_nI
  rw [e]
section
variable {n : Nat} {rs : List (Nat × Nat)} {t : List Int} {D0 : List Nat}
def nxt (T : Nat → Nat) (D0 g : List Nat) (here : Nat) : List Nat := D0.filter fun r => !decide (r ∈ g) && decide (T r = here)
@[simp] theorem ofNew_im (d : D) : ofNew (.im d) = .im d := rfl
theorem nxt_tl {T : Nat → Nat} {D0 g : List Nat} {here r : Nat} {l : List Nat} (e : nxt T D0 g here = r :: l) : T r = here := by
  have : r ∈ nxt T D0 g here := by rw [e]; exact List.mem_cons_self
  have := (List.mem_filter.1 this).2
  simp at this
  exact this.2
theorem idx_nI (l : List Nat) (c : Nat) : (nI l).idxOf (c : Int) = l.idxOf c := by
  induction l with
  | nil => rfl
  | cons x l ih =>
    show ((x : Int) :: nI l).idxOf (c : Int) = _
    have e : ((x : Int) == (c : Int)) = (x == c) := by
      rw [Bool.eq_iff_iff, beq_iff_eq, beq_iff_eq]
      omega
    rw [List.idxOf_cons, List.idxOf_cons, ih, e]
/-- within the search of a ring -/
structure RW (n m : Nat) (T H : Nat → Nat) (D0 : List Nat) (s : Nat) (g : List Nat) (here : Nat) : Prop where
  way : IsWay m T H s g here
  nd : (g.map T).Nodup
  sub : ∀ r ∈ g, r ∈ D0
theorem rw_next {m : Nat} {T H : Nat → Nat} {s here : Nat} {g : List Nat} (hD : ∀ r ∈ D0, r < m) (hb : Bal T H D0) (hs : 0 < cnt T s D0) (h : RW n m T H D0 s g here) (hn : here ∉ g.map T) : ∃ r l, nxt T D0 g here = r :: l ∧ RW n m T H D0 s (g ++ [r]) (H r) := by
  have pos : 0 < cnt T here D0 := by
    by_cases e : g = []
    · have := h.way
      rw [e] at this
      cases this
      exact hs
    · obtain ⟨x, hx, ex⟩ := way_last h.way e
      rw [hb here]
      exact cnt_pos.2 ⟨x, h.sub x hx, ex⟩
  obtain ⟨r0, hr0, e0⟩ := cnt_pos.1 pos
  have hm : r0 ∈ nxt T D0 g here := by
    refine List.mem_filter.2 ⟨hr0, ?_⟩
    have : r0 ∉ g := fun z => hn (e0 ▸ List.mem_map.2 ⟨r0, z, rfl⟩)
    simp [this, e0]
  cases ex : nxt T D0 g here with
  | nil => rw [ex] at hm; cases hm
  | cons r l =>
    have hr : r ∈ nxt T D0 g here := by rw [ex]; exact List.mem_cons_self
    obtain ⟨h1, h2⟩ := List.mem_filter.1 hr
    simp at h2
    refine ⟨r, l, rfl, way_snoc h.way (hD r h1) h2.2, ?_, fun x hx => ?_⟩
    · rw [List.map_append]
      refine List.nodup_append.2 ⟨h.nd, List.nodup_cons.2 ⟨List.not_mem_nil, List.nodup_nil⟩, fun x hx y hy e => hn ?_⟩
      have : y = T r := by simpa using hy
      rw [← h2.2, ← this, ← e]
      exact hx
    · rcases List.mem_append.1 hx with z | z
      · exact h.sub x z
      · rw [List.mem_singleton] at z
        rw [z]; exact h1
theorem within_step (F : Fr n rs) (g : Tg rs t) (hD : ∀ r ∈ D0, r < rs.length) (hlen : D0.length ≤ 7) {p : List Nat} {here r : Nat} {l : List Nat} (hp : p.length ≤ 7) (e : nxt (tl rs t) D0 p here = r :: l) (c6 c7 : C) :
    bWithin [.im (frD n rs), .im (iT t), .frz false (.lst (natL D0)), .im (.int (here : Int)), .own (.lst (natL p)), .own (.lst (natL (p.map (tl rs t)))), c6, c7] () =
    some (.nx [.im (frD n rs), .im (iT t), .frz false (.lst (natL D0)), .im (.int (hd rs t r : Int)), .own (.lst (natL (p ++ [r]))), .own (.lst (natL (p.map (tl rs t) ++ [here]))), .im (.int (r : Int)), c7], ()) := by
  have hr : r ∈ D0 := by
    have : r ∈ nxt (tl rs t) D0 p here := by rw [e]; exact List.mem_cons_self
    exact (List.mem_filter.1 this).1
  have lc := lc_all (S := Unit) (fg := gfN 7) (ft := fAnd (fTest (fOp (oIn true) (fVar 7) (fVar 4))) (fTest (fOp oEq (fCall 3 m_tail_of (fCons (fVar 0) (fCons (fVar 1) (fCons (fVar 7) fNil)))) (fVar 3)))) (fe := fVar 7) (ρ := [.im (frD n rs), .im (iT t), .frz false (.lst (natL D0)), .im (.int (here : Int)), .own (.lst (natL p)), .own (.lst (natL (p.map (tl rs t) ++ [here]))), c6, .no]) (s := ())
    natD (fun x => !decide (x ∈ p) && decide (tl rs t x = here)) (fun c => intM (c : Int)) D0 (fun x hx => by
      refine ⟨[.im (frD n rs), .im (iT t), .frz false (.lst (natL D0)), .im (.int (here : Int)), .own (.lst (natL p)), .own (.lst (natL (p.map (tl rs t) ++ [here]))), c6, .im (.int (x : Int))], rfl, ?_, fun _ => ⟨_, rfl, rfl⟩⟩
      have e3 : decide ((tl rs t x : Int) = (here : Int)) = decide (tl rs t x = here) := decide_eq_decide.2 (by omega)
      simp [oIn_natL _ p (.inr ⟨4, rfl⟩), tail_at g (hD x hx), oEq_int, e3]
      by_cases c : x ∈ p <;> simp [c])
  rw [show D0.filter (fun x => !decide (x ∈ p) && decide (tl rs t x = here)) = nxt (tl rs t) D0 p here from rfl, e] at lc
  have sz1 : szOk (natL (p.map (tl rs t))).length = true := szOk_m (by rw [natL_len, List.length_map]; omega)
  have sz2 : szOk (natL p).length = true := szOk_m (by rw [natL_len]; omega)
  have sz3 : szOk (D0.map natD).length = true := szOk_m (by rw [List.length_map]; omega)
  have al : seqD (.sl 2 (.lst (natL D0))) = some (D0.map natD) := by rw [seqD_sl, natL_D, allIm_map]
  have a1 := natL_app (p.map (tl rs t)) here
  have a2 := natL_app p r
  have lm : (r :: l).map (fun c : Nat => intM (c : Int)) = .im (.int (r : Int)) :: l.map (fun c : Nat => intM (c : Int)) := rfl
  rw [lm] at lc
  rw [← a1] at lc ⊢
  rw [← a2]
  simp at sz3
  simp [bWithin, al, sz1, sz2, sz3, lc, head_at g (hD r hr), -List.map_map, -seqD_sl]
theorem within_ring (F : Fr n rs) (g : Tg rs t) (hne : D0 ≠ []) (hD : ∀ r ∈ D0, r < rs.length) (nd : D0.Nodup) (hb : Bal (tl rs t) (hd rs t) D0) :
    ∃ d Q, m_ring_within [.im (frD n rs), .im (iT t), .lst (natL D0)] = some (.im d) ∧ IsR d (nI Q) ∧ Ring rs.length (tl rs t) (hd rs t) Q ∧ ∀ x ∈ Q, x ∈ D0 := by
  have h4 := F.n4
  have h7 := F.m7
  have hlen : D0.length ≤ 7 := by have := nodup_le nd hD; omega
  cases eD : D0 with
  | nil => exact absurd eD hne
  | cons r0 l0 =>
  have hr0 : r0 ∈ D0 := by rw [eD]; exact List.mem_cons_self
  have hs : 0 < cnt (tl rs t) (tl rs t r0) D0 := cnt_pos.2 ⟨r0, hr0, rfl⟩
  rw [← eD]
  have plen : ∀ {p : List Nat} {here : Nat}, RW n rs.length (tl rs t) (hd rs t) D0 (tl rs t r0) p here → p.length ≤ n := fun {p here} h => by
    have := nodup_le h.nd (n := n) fun x hx => by
      obtain ⟨y, hy, rfl⟩ := List.mem_map.1 hx
      exact tl_lt F (hD y (h.sub y hy))
    rwa [List.length_map] at this
  obtain ⟨o, e, p, here, c6, c7, rfl, hw, hin⟩ := wh_ind (s := ()) (fc := fTest (fOp (oIn true) (fVar 3) (fVar 5))) (f := bWithin)
    (fun k ρ => ∃ (p : List Nat) (here : Nat) (c6 c7 : C), ρ = [.im (frD n rs), .im (iT t), .frz false (.lst (natL D0)), .im (.int (here : Int)), .own (.lst (natL p)), .own (.lst (natL (p.map (tl rs t)))), c6, c7] ∧ RW n rs.length (tl rs t) (hd rs t) D0 (tl rs t r0) p here ∧ n + 1 ≤ k + p.length)
    (fun o => ∃ (p : List Nat) (here : Nat) (c6 c7 : C), o = .nx [.im (frD n rs), .im (iT t), .frz false (.lst (natL D0)), .im (.int (here : Int)), .own (.lst (natL p)), .own (.lst (natL (p.map (tl rs t)))), c6, c7] ∧ RW n rs.length (tl rs t) (hd rs t) D0 (tl rs t r0) p here ∧ here ∈ p.map (tl rs t))
    (fun k ρ ⟨p, here, c6, c7, hρ, hw, hk⟩ => by
      subst hρ
      have hc := oIn_natL (.sl 5 (.lst (natL (p.map (tl rs t))))) _ (.inr ⟨5, rfl⟩) true here
      have hp := plen hw
      by_cases c : here ∈ p.map (tl rs t)
      · rw [decide_eq_true c] at hc
        exact .inl ⟨by simp [hc], p, here, c6, c7, rfl, hw, c⟩
      · rw [decide_eq_false c] at hc
        obtain ⟨r, l, e, hw'⟩ := rw_next hD hb hs hw c
        have st := within_step F g hD hlen (by omega) e c6 c7
        refine .inr ⟨by simp [hc], .inr ⟨k - 1, _, by omega, st, p ++ [r], hd rs t r, .im (.int (r : Int)), c7, ?_, hw', ?_⟩⟩
        · rw [List.map_append, ← nxt_tl e]
          rfl
        · rw [List.length_append, List.length_singleton]; omega)
    1000 (n + 1) [.im (frD n rs), .im (iT t), .frz false (.lst (natL D0)), .im (.int (tl rs t r0 : Int)), .own (.lst []), .own (.lst []), .no, .no] (by omega)
    ⟨[], tl rs t r0, _, _, rfl, ⟨rfl, List.nodup_nil, fun _ h => nomatch h⟩, by simp⟩
  -- the ring
  have hk : (p.map (tl rs t)).idxOf here < (p.map (tl rs t)).length := List.idxOf_lt_length_of_mem hin
  have hk2 : (p.map (tl rs t)).idxOf here < p.length := by rwa [List.length_map] at hk
  generalize ek : (p.map (tl rs t)).idxOf here = k at hk hk2
  have hT : tl rs t p[k] = here := by
    have := List.getElem_idxOf (x := here) (xs := p.map (tl rs t)) (by rw [ek]; exact hk)
    simp only [ek] at this
    rwa [List.getElem_map] at this
  have hp := plen hw
  have hR : IsWay rs.length (tl rs t) (hd rs t) here (p.drop k) here := by
    have := way_drop k hw.way hk2
    rwa [hT] at this
  have ndR : ((p.drop k).map (tl rs t)).Nodup := by
    rw [List.map_drop]
    exact hw.nd.sublist (List.drop_sublist ..)
  have hRne : p.drop k ≠ [] := by
    intro z
    have := congrArg List.length z
    rw [List.length_drop] at this
    simp at this
    omega
  obtain ⟨k2, d, hk3, hmin, ef, hd⟩ := from_spec (R := p.drop k) hRne (by rw [List.length_drop]; omega)
  refine ⟨d, _, ?_, hd, ring_rot hR ndR hk3 hmin, fun x hx => hw.sub x (List.mem_of_mem_drop ((rot_perm _ k2).mem_iff.1 hx))⟩
  have et := tail_at (n := n) g (hD r0 hr0)
  have ei : oIdx (.sl 5 (.lst (natL (p.map (tl rs t))))) (.im (.int (here : Int))) = some (.int (k : Int)) := by
    unfold oIdx
    rw [show seqI (.sl 5 (.lst (natL (p.map (tl rs t))))) = some (nI (p.map (tl rs t))) from seqI_sl 5 _]
    show (if (here : Int) ∈ nI (p.map (tl rs t)) then _ else _) = _
    rw [if_pos (mem_nI.2 hin), idx_nI, ek]
  have esl := slice_nat 4 p (some (k : Int)) none
  rw [cut_from] at esl
  have etp : oTupP [.new (.lst (natL (p.drop k)))] = some (.im (.ptp ((nI (p.drop k)).map .int))) := by
    show (if isLst (.new (.lst (natL (p.drop k)))) = true then (seqD (.new (.lst (natL (p.drop k))))).map (fun ds => W.im (.ptp ds)) else none) = _
    rw [isLst_new, if_pos rfl, seqD_new, natL, allIm_map]
    rfl
  have ei0 : itemW (.sl 2 (.lst (natL D0))) 0 = some (.im (.int (r0 : Int))) := by
    rw [eD, itemW_sl, at_natL]
    rfl
  simp [m_ring_within, runF, f_within_eq, ei0, et, e, ei, esl, etp, ef, show szOk 3 = true from rfl, -itemW_sl]
end
end K96
end

section
set_option Elab.async false
set_option linter.all false
set_option maxRecDepth 100000
set_option maxHeartbeats 4000000
namespace K96
open PySem Pl L2
noncomputable def bRings : Fn Unit Out := (fSeq (fSet 6 (fCall 3 m_ring_within (fCons (fVar 0) (fCons (fVar 1) (fCons (fVar 3) fNil)))))
  (fSeq (fApp 4 (fVar 6))
  (fSet 3 (fLc (xList (fVar 3)) (gfN 5) (fTest (fOp (oIn true) (fVar 5) (fVar 6))) (fVar 5) [5]))))
theorem f_rings_eq : f_rings_turned = (fSeq (fIfS (fTest (fOp oNe (fCall 2 m_outs_of (fCons (fVar 0) (fCons (fVar 1) fNil))) (fCall 2 m_outs_of (fCons (fVar 0) (fCons (fVar 2) fNil))))) fNo fNx)
  (fSeq (fPar2 3 4 (fCons (fLc (xRng1 (fCons (fCal oLen (fCons (fVar 1) fNil)) fNil)) (gfN 5) (fTest (fOp oNe (fIx (fVar 1) (fVar 5)) (fIx (fVar 2) (fVar 5)))) (fVar 5) [5]) (fCons (fLst fNil) fNil)))
  (fSeq (fWh (fTest (fOp oNe (fVar 3) (fLst fNil))) bRings 1000)
  (fRet none (fCal oTuple (fCons (fCal oSortD (fCons (fVar 4) fNil)) fNil)))))) := rfl
theorem perm_map_inv {α β : Type} (f : α → β) : ∀ {l : List β} {xs : List α}, l.Perm (xs.map f) → ∃ ys : List α, ys.Perm xs ∧ ys.map f = l
  | [], xs, h => by
    have := h.symm.eq_nil
    rw [List.map_eq_nil_iff] at this
    exact ⟨[], by rw [this], rfl⟩
  | y :: l, xs, h => by
    have hy : y ∈ xs.map f := h.mem_iff.1 List.mem_cons_self
    obtain ⟨x, hx, rfl⟩ := List.mem_map.1 hy
    obtain ⟨a, b, rfl⟩ := List.append_of_mem hx
    have h2 : (f x :: l).Perm (f x :: (a ++ b).map f) := by
      refine h.trans ?_
      rw [List.map_append, List.map_cons, List.map_append]
      exact List.perm_middle
    obtain ⟨ys, hp, e⟩ := perm_map_inv f (List.Perm.cons_inv h2)
    exact ⟨x :: ys, (hp.cons x).trans List.perm_middle.symm, by rw [List.map_cons, e]⟩
theorem sortOk_py {ds : List D} {rs : List (List Int)} (e : ds.map D.py = (rs.map iT).map D.py) (ne : ∀ r ∈ rs, r ≠ []) (hl : rs.length ≤ cap) : SortOk ds := by
  obtain ⟨h1, h2, h3, h4⟩ := sortOk_iT ne hl
  have el : ds.length = rs.length := by
    have := congrArg List.length e
    simpa using this
  refine ⟨by rw [e]; exact h1, by rw [e]; exact h2, fun d hd => ?_, by rw [el]; exact hl⟩
  have : d.py ∈ ds.map D.py := List.mem_map.2 ⟨d, hd, rfl⟩
  rw [e] at this
  obtain ⟨x, hx, ex⟩ := List.mem_map.1 this
  rw [← ex]
  exact h3 x hx
theorem sortD_sl (j : Nat) {ds : List D} (h : SortOk ds) : oSortD [.sl j (.lst (ds.map M.im))] = some (.new (.lst ((sortD ds).map M.im))) := by
  unfold oSortD o1
  simp [h]
theorem flp_flp {t : List Int} {A B : List Nat} (h : ∀ x ∈ A, x ∉ B) : flp (flp t A) B = flp t (A ++ B) := by
  refine List.ext_getElem (by simp [flp_len]) fun i h1 h2 => ?_
  have hi : i < t.length := by rw [flp_len] at h2; exact h2
  have e1 := flp_at (t := flp t A) (R := B) (r := i) (by rw [flp_len]; exact hi)
  have e2 := flp_at (t := t) (R := A ++ B) (r := i) hi
  have e3 := flp_at (t := t) (R := A) (r := i) hi
  rw [getD_lt h1] at e1
  rw [getD_lt h2] at e2
  rw [e1, e2]
  unfold at0
  rw [e3]
  unfold at0
  by_cases a : i ∈ A
  · have b := h i a
    simp [a, b]
  · by_cases b : i ∈ B <;> simp [a, b]
theorem fold_flp : ∀ (Qs : List (List Nat)) (A : List Nat) (t : List Int), (A ++ Qs.flatten).Nodup → Qs.foldl flp (flp t A) = flp t (A ++ Qs.flatten)
  | [], A, t, _ => by simp
  | Q :: Qs, A, t, h => by
    rw [List.foldl_cons, List.flatten_cons, ← List.append_assoc]
    rw [List.flatten_cons] at h
    obtain ⟨_, _, h3⟩ := List.nodup_append.1 h
    rw [flp_flp fun x hx hy => h3 x hx x (List.mem_append_left _ hy) rfl]
    exact fold_flp Qs (A ++ Q) t (by rw [List.append_assoc]; exact h)
theorem flp_nil {t : List Int} : flp t [] = t := by
  refine List.ext_getElem (flp_len ..) fun i h1 h2 => ?_
  have e1 := flp_at (t := t) (R := []) (r := i) h2
  rw [getD_lt h1] at e1
  rw [e1]
  simp [at0_at h2]
section
variable {n : Nat} {rs : List (Nat × Nat)} {t u : List Int}
/-- the roads that differ -/
def dif (m : Nat) (t u : List Int) : List Nat := (List.range m).filter fun r => !decide (at0 t r = at0 u r)
theorem dif_nodup (m : Nat) (t u : List Int) : (dif m t u).Nodup := List.nodup_range.filter _
theorem dif_lt {m : Nat} {t u : List Int} {r : Nat} (h : r ∈ dif m t u) : r < m := List.mem_range.1 (List.mem_filter.1 h).1
theorem dif_mem {m : Nat} {t u : List Int} {r : Nat} (hr : r < m) : r ∈ dif m t u ↔ at0 t r ≠ at0 u r := by
  unfold dif
  rw [List.mem_filter, List.mem_range]
  simp [hr]
theorem flp_dif (g : Tg rs t) (k : Tg rs u) {A : List Nat} (h : A.Perm (dif rs.length t u)) : flp t A = u := by
  refine List.ext_getElem (by rw [flp_len, g.len, k.len]) fun i h1 h2 => ?_
  have hi : i < rs.length := by rw [flp_len, g.len] at h1; exact h1
  have e1 := flp_at (t := t) (R := A) (r := i) (by rw [g.len]; exact hi)
  rw [getD_lt h1] at e1
  rw [e1]
  have hm : i ∈ A ↔ at0 t i ≠ at0 u i := h.mem_iff.trans (dif_mem hi)
  rw [at0_at h2] at hm
  have a := g.getD i
  have b := k.bit _ (List.getElem_mem h2)
  unfold at0 at hm ⊢
  by_cases c : i ∈ A
  · rw [if_pos c]
    have := hm.1 c
    omega
  · rw [if_neg c]
    have : ¬ (t.getD i 0 ≠ u[i]) := fun z => c (hm.2 z)
    omega
theorem dif_bal (F : Fr n rs) (g : Tg rs t) (k : Tg rs u) (e : ro n rs t = ro n rs u) : Bal (tl rs t) (hd rs t) (dif rs.length t u) := by
  refine bal_diff (m := rs.length) (T' := tl rs u) (dif_nodup ..) (fun r h => dif_lt h) (fun r hr => ?_) (fun c => ro_eq_oc F g k e c)
  have := flp_tl g (dif rs.length t u) hr
  rwa [flp_dif g k (.refl _)] at this
theorem rings_step (F : Fr n rs) (g : Tg rs t) {A : List Nat} (hne : A ≠ []) (hA : ∀ r ∈ A, r < rs.length) (nd : A.Nodup) (hb : Bal (tl rs t) (hd rs t) A) (ds : List D) (hds : ds.length ≤ 1000) (c2 c5 c6 : C) :
    ∃ d Q, bRings [.im (frD n rs), .im (iT t), c2, .own (.lst (natL A)), .own (.lst (ds.map M.im)), c5, c6] () =
      some (.nx [.im (frD n rs), .im (iT t), c2, .own (.lst (natL (A.filter fun r => !decide (r ∈ Q)))), .own (.lst ((ds ++ [d]).map M.im)), c5, .im d], ()) ∧
      IsR d (nI Q) ∧ Ring rs.length (tl rs t) (hd rs t) Q ∧ ∀ x ∈ Q, x ∈ A := by
  obtain ⟨d, Q, e, hd, hq, hs⟩ := within_ring F g hne hA nd hb
  refine ⟨d, Q, ?_, hd, hq, hs⟩
  have hlen : A.length ≤ 7 := by have := nodup_le nd hA; have := F.m7; omega
  have lc := lc_all (S := Unit) (fg := gfN 5) (ft := fTest (fOp (oIn true) (fVar 5) (fVar 6))) (fe := fVar 5) (ρ := [.im (frD n rs), .im (iT t), c2, .own (.lst (natL A)), .own (.lst ((ds ++ [d]).map M.im)), .no, .im d]) (s := ())
    natD (fun x => !decide (x ∈ Q)) (fun c => intM (c : Int)) A (fun x hx => by
      refine ⟨[.im (frD n rs), .im (iT t), c2, .own (.lst (natL A)), .own (.lst ((ds ++ [d]).map M.im)), .im (.int (x : Int)), .im d], rfl, ?_, fun _ => ⟨_, rfl, rfl⟩⟩
      simp [oIn_N hd])
  have e1 : (A.filter fun x => !decide (x ∈ Q)).map (fun c : Nat => intM (c : Int)) = natL (A.filter fun x => !decide (x ∈ Q)) := by
    unfold natL nI intM
    simp
  rw [e1] at lc
  have sz : szOk ds.length = true := szOk_m (by omega)
  have sz2 : szOk A.length = true := szOk_m (by omega)
  have al : seqD (.sl 3 (.lst (natL A))) = some (A.map natD) := by rw [seqD_sl, natL_D, allIm_map]
  rw [List.map_append] at lc ⊢
  simp at lc
  simp [bRings, e, sz, al, sz2, lc, -List.map_map, -seqD_sl]
theorem ring_nodup {m : Nat} {T H : Nat → Nat} {Q : List Nat} (h : Ring m T H Q) : Q.Nodup ∧ Q ≠ [] ∧ Bal T H Q := by
  obtain ⟨q, Q', a, e, w, nd, _⟩ := h
  exact ⟨nodup_of_map nd, by rw [e]; simp, bal_cycle w⟩
theorem rings_spec (F : Fr n rs) (g : Tg rs t) (k : Tg rs u) (e : ro n rs t = ro n rs u) :
    ∃ fs : List (D × List Nat), m_rings_turned [.im (frD n rs), .im (iT t), .im (iT u)] = some (.im (.tup (fs.map (·.1)))) ∧ (∀ p ∈ fs, IsR p.1 (nI p.2)) ∧ ((fs.map (·.2)).flatten).Perm (dif rs.length t u) := by
  have h7 := F.m7
  have e1 := outs_spec F g
  have e2 := outs_spec F k
  have hne := oNe_R (isR_iT (ro n rs t)) (isR_iT (ro n rs u))
  rw [decide_eq_true e] at hne
  have lc := lc_all (S := Unit) (fg := gfN 5) (ft := fTest (fOp oNe (fIx (fVar 1) (fVar 5)) (fIx (fVar 2) (fVar 5)))) (fe := fVar 5) (ρ := [.im (frD n rs), .im (iT t), .im (iT u), .no, .no, .no, .no]) (s := ())
    natD (fun r => !decide (at0 t r = at0 u r)) (fun c => intM (c : Int)) (List.range rs.length) (fun x hx => by
      have hx := List.mem_range.1 hx
      refine ⟨[.im (frD n rs), .im (iT t), .im (iT u), .no, .no, .im (.int (x : Int)), .no], rfl, ?_, fun _ => ⟨_, rfl, rfl⟩⟩
      simp [atI_at0 (show x < t.length by rw [g.len]; exact hx), atI_at0 (show x < u.length by rw [k.len]; exact hx), oNe_int])
  have e3 : ((List.range rs.length).filter fun r => !decide (at0 t r = at0 u r)).map (fun c : Nat => intM (c : Int)) = natL (dif rs.length t u) := by
    unfold natL nI intM dif
    simp
  rw [e3] at lc
  have sm : smI (rs.length : Int) = true := smI_nat (by omega)
  have sz : szOk rs.length = true := szOk_m (by omega)
  obtain ⟨o, ew, fs, c5, c6, rfl, hf, hp⟩ := wh_ind (s := ()) (fc := fTest (fOp oNe (fVar 3) (fLst fNil))) (f := bRings)
    (fun j ρ => ∃ (A : List Nat) (fs : List (D × List Nat)) (c5 c6 : C), ρ = [.im (frD n rs), .im (iT t), .im (iT u), .own (.lst (natL A)), .own (.lst ((fs.map (·.1)).map M.im)), c5, c6] ∧ A.Nodup ∧ (∀ r ∈ A, r < rs.length) ∧ Bal (tl rs t) (hd rs t) A ∧
      (∀ p ∈ fs, IsR p.1 (nI p.2) ∧ p.2 ≠ []) ∧ ((fs.map (·.2)).flatten ++ A).Perm (dif rs.length t u) ∧ A.length ≤ j ∧ fs.length + A.length ≤ 7)
    (fun o => ∃ (fs : List (D × List Nat)) (c5 c6 : C), o = .nx [.im (frD n rs), .im (iT t), .im (iT u), .own (.lst []), .own (.lst ((fs.map (·.1)).map M.im)), c5, c6] ∧
      (∀ p ∈ fs, IsR p.1 (nI p.2) ∧ p.2 ≠ []) ∧ ((fs.map (·.2)).flatten).Perm (dif rs.length t u) ∧ fs.length ≤ 7)
    (fun j ρ ⟨A, fs, c5, c6, hρ, nd, hA, hb, hf, hp, hj, hl⟩ => by
      subst hρ
      have ne := oNe_L (isL_nat 3 A) isL_nil
      by_cases c : A = []
      · subst c
        left
        rw [List.append_nil] at hp
        have ne2 : oNe (.sl 3 (.lst (natL []))) (.new (.lst [])) = some (.bl false) := by rw [ne]; rfl
        exact ⟨by simp [ne2], fs, c5, c6, rfl, hf, hp, by simpa using hl⟩
      · right
        have cn : ¬ nI A = [] := fun z => c (nI_nil.1 z)
        rw [decide_eq_false cn] at ne
        obtain ⟨d, Q, st, hd, hq, hs⟩ := rings_step F g c hA nd hb (fs.map (·.1)) (by rw [List.length_map]; omega) (.im (iT u)) c5 c6
        obtain ⟨nq, qne, bq⟩ := ring_nodup hq
        have sp := split_perm nd nq hs
        have hlen := sp.length_eq
        rw [List.length_append] at hlen
        have ql : 0 < Q.length := List.length_pos_iff.2 qne
        refine ⟨by simp [ne], .inr ⟨j - 1, _, by omega, st, A.filter fun r => !decide (r ∈ Q), fs ++ [(d, Q)], c5, .im d, by simp, nd.filter _, fun r hr => hA r (List.mem_filter.1 hr).1, bal_sub hb nd nq hs bq, fun p hp => ?_, ?_, by omega, by rw [List.length_append, List.length_singleton]; omega⟩⟩
        · rcases List.mem_append.1 hp with z | z
          · exact hf p z
          · rw [List.mem_singleton] at z
            subst z
            exact ⟨hd, qne⟩
        · refine List.Perm.trans ?_ hp
          rw [List.map_append, List.flatten_append]
          simp only [List.map_cons, List.map_nil, List.flatten_cons, List.flatten_nil, List.append_nil]
          rw [List.append_assoc]
          exact List.Perm.append_left _ sp.symm)
    1000 (dif rs.length t u).length [.im (frD n rs), .im (iT t), .im (iT u), .own (.lst (natL (dif rs.length t u))), .own (.lst []), .no, .no]
    (by have := nodup_le (dif_nodup rs.length t u) (fun r h => dif_lt h); omega)
    ⟨dif rs.length t u, [], .no, .no, rfl, dif_nodup .., fun r h => dif_lt h, dif_bal F g k e, fun _ h => (List.not_mem_nil h).elim, List.Perm.refl _, Nat.le_refl _, by
      have := nodup_le (dif_nodup rs.length t u) (fun r h => dif_lt h)
      simp
      omega⟩
  have so : SortOk (fs.map (·.1)) := by
    refine sortOk_py (rs := fs.map fun p => nI p.2) ?_ (fun r hr => ?_) (by rw [List.length_map]; unfold cap; omega)
    · rw [List.map_map, List.map_map, List.map_map]
      refine List.map_congr_left fun p hp => ?_
      show p.1.py = (iT (nI p.2)).py
      rw [(hf p hp).1.py, py_iT]
    · obtain ⟨p, hp, rfl⟩ := List.mem_map.1 hr
      exact fun z => (hf p hp).2 (nI_nil.1 z)
  have pm : (sortD (fs.map (·.1))).Perm (fs.map (·.1)) := List.mergeSort_perm _ _
  obtain ⟨fs', hp', e'⟩ := perm_map_inv (fun p : D × List Nat => p.1) pm
  refine ⟨fs', ?_, fun p hp => (hf p (hp'.mem_iff.1 hp)).1, ?_⟩
  · have es := sortD_sl 4 so
    rw [e']
    simp [m_rings_turned, runF, f_rings_eq, e1, e2, hne, sm, g.len, rng_nat, sz, lc, ew, es, -List.map_map]
  · exact ((hp'.map _).flatten).trans hp.1
end
end K96
end

section
set_option Elab.async false
set_option linter.all false
set_option maxRecDepth 100000
set_option maxHeartbeats 4000000
namespace K96
open PySem Pl L2
abbrev KR := List L2.Key
def kR (r : Row) : KR := r.map Sum.inl
theorem kR_inj {a b : Row} : kR a = kR b ↔ a = b := by
  constructor
  · intro h
    unfold kR at h
    exact List.map_inj_right (fun x y e => by injection e) |>.1 h
  · rintro rfl; rfl
theorem keyT_iT (r : Row) : keyT (iT r) = some (kR r) := by
  show keysD (r.map D.int) = _
  induction r with
  | nil => rfl
  | cons x r ih =>
    show (match keyD (.int x), keysD (r.map D.int) with | some k, some ks => some (k :: ks) | _, _ => none) = _
    rw [ih]
    rfl
theorem kD_kR (r : Row) : (kR r).map kD = r.map D.int := by
  unfold kR
  rw [List.map_map]
  rfl
def eT (p : Row × Int) : KR × D := (kR p.1, .int p.2)
def dT (l : List (Row × Int)) : List (KR × M) := dimg (l.map eT)
theorem dget_T (l : List (Row × Int)) (r : Row) : dget (l.map eT) (kR r) = (aget l r).map D.int := by
  induction l with
  | nil => rfl
  | cons p l ih =>
    rw [List.map_cons, dget, aget]
    by_cases h : p.1 = r
    · rw [if_pos h, if_pos]
      · rfl
      · show kR p.1 = kR r
        rw [h]
    · rw [if_neg h, if_neg (show ¬ (eT p).1 = kR r from fun z => h (kR_inj.1 z)), ih]
theorem dput_T (l : List (Row × Int)) (r : Row) (v : Int) : dput (l.map eT) (kR r) (.int v) = (aput l r v).map eT := by
  unfold dput aput
  have e : ((l.map eT).any fun p => decide (p.1 = kR r)) = l.any fun p => decide (p.1 = r) := by
    rw [List.any_map]
    congr 1
    funext p
    exact decide_eq_decide.2 kR_inj
  rw [e]
  by_cases h : (l.any fun p => decide (p.1 = r)) = true
  · rw [if_pos h, if_pos h, List.map_map, List.map_map]
    refine List.map_congr_left fun p _ => ?_
    show (if kR p.1 = kR r then (kR p.1, D.int v) else eT p) = eT (if p.1 = r then (p.1, v) else p)
    by_cases q : p.1 = r
    · rw [if_pos (kR_inj.2 q), if_pos q]; rfl
    · rw [if_neg (fun z => q (kR_inj.1 z)), if_neg q]
  · rw [if_neg h, if_neg h, List.map_append]
    rfl
theorem look_T (x : W) (l : List (Row × Int)) (hx : dkW x = none) (h : dtW x = some (dT l)) (r : Row) : lookW x (.im (iT r)) = some ((aget l r).map D.int) := by
  unfold lookW
  rw [hx, h]
  simp [dT, keyT_iT, dget_T]
theorem put_T {l : List (Row × Int)} {r : Row} {v : Int} (hl : l.length ≤ 10000) : putC (.own (.dt (dT l))) (.im (iT r)) (.im (.int v)) = some (.own (.dt (dT (aput l r v)))) := by
  have sz : szOk l.length = true := szOk_m (by omega)
  unfold putC
  simp [dT, keyT_iT, sz, dput_T]
theorem Cnt.mem {l : List (Row × Int)} {B : List Row} (h : Cnt l B) {p : Row × Int} (hp : p ∈ l) : p.1 ∈ B := by
  have k := h.key p.1
  cases e : aget l p.1 with
  | none => exact absurd (List.mem_map.2 ⟨p, hp, rfl⟩) (aget_none.1 e)
  | some v => rw [e] at k; simpa using k.symm
theorem Cnt.few {l : List (Row × Int)} {B : List Row} (h : Cnt l B) : l.length ≤ B.length := by
  have q := List.Nodup.length_le_of_subset h.nd (l₂ := B) fun r hr => by
    obtain ⟨p, hp, rfl⟩ := List.mem_map.1 hr
    exact h.mem hp
  rwa [List.length_map] at q
/-- the dicts from a road on -/
def LC (n : Nat) (o : Row) : List (Nat × Nat) → List (List (Row × Int)) → Prop
  | [], ls => ∃ l, ls = [l] ∧ Cnt l (bagS n o [])
  | p :: rs, ls => ∃ l ls', ls = l :: ls' ∧ Cnt l (bagS n o (p :: rs)) ∧ LC n o rs ls'
theorem LC.head {n : Nat} {o : Row} : ∀ {rs : List (Nat × Nat)} {ls : List (List (Row × Int))}, LC n o rs ls → ∃ l ls', ls = l :: ls' ∧ Cnt l (bagS n o rs)
  | [], _, ⟨l, e, h⟩ => ⟨l, [], e, h⟩
  | _ :: _, _, ⟨l, ls', e, h, _⟩ => ⟨l, ls', e, h⟩
theorem LC.at {n : Nat} {o : Row} : ∀ {rs : List (Nat × Nat)} {ls : List (List (Row × Int))} (j : Nat), LC n o rs ls → j ≤ rs.length → ∃ l, ls[j]? = some l ∧ Cnt l (bagS n o (rs.drop j))
  | rs, ls, 0, h, _ => by
    obtain ⟨l, ls', rfl, hc⟩ := h.head
    exact ⟨l, rfl, hc⟩
  | [], ls, j + 1, h, hj => absurd hj (by simp)
  | p :: rs, ls, j + 1, h, hj => by
    obtain ⟨l, ls', rfl, _, h2⟩ := h
    obtain ⟨l', e, hc⟩ := LC.at j h2 (by simpa using hj)
    exact ⟨l', e, hc⟩
theorem LC.len {n : Nat} {o : Row} : ∀ {rs : List (Nat × Nat)} {ls : List (List (Row × Int))}, LC n o rs ls → ls.length = rs.length + 1
  | [], ls, ⟨l, e, _⟩ => by rw [e]; rfl
  | p :: rs, ls, ⟨l, ls', e, _, h⟩ => by rw [e, List.length_cons, h.len]; rfl
theorem bagS_len {n : Nat} {o r : Row} {rs : List (Nat × Nat)} (h : r ∈ bagS n o rs) : r.length = n := by
  obtain ⟨⟨t, _, rfl⟩, _⟩ := bagS_mem.1 h
  exact ro_len ..
theorem bagS_size (n : Nat) (o : Row) (rs : List (Nat × Nat)) : (bagS n o rs).length ≤ 2 ^ rs.length := by
  unfold bagS
  refine Nat.le_trans (List.length_filter_le ..) ?_
  rw [List.length_map, marks_len]
  exact Nat.le_refl _
theorem rep_stp (k : Nat) (o : Row) (c : Nat) (row : Row) : (List.replicate k row).flatMap (stp o c) = if (bump row c 1).getD c 0 ≤ o.getD c 0 then List.replicate k (bump row c 1) else [] := by
  have e : stp o c row = if (bump row c 1).getD c 0 ≤ o.getD c 0 then [bump row c 1] else [] := rfl
  induction k with
  | zero => simp
  | succ k ih =>
    rw [List.replicate_succ, List.flatMap_cons, ih, e]
    by_cases h : (bump row c 1).getD c 0 ≤ o.getD c 0
    · rw [if_pos h, if_pos h, if_pos h]; rfl
    · rw [if_neg h, if_neg h, if_neg h]; rfl
noncomputable def bC3 : Fn Unit Out := (fSeq (fSet 9 (fCall 3 m_with_one (fCons (fVar 6) (fCons (fVar 8) (fCons (fC (.int 1)) fNil)))))
  (fIfS (fTest (fOp oLe (fIx (fVar 9) (fVar 8)) (fIx (fVar 1) (fVar 8)))) (fPutD 5 (fOp oAdd (fDGt (fVar 5) (fVar 9) (fC (.int 0))) (fVar 7)) (fVar 9)) fNx))
noncomputable def bC2 : Fn Unit Out := (fFor none (xTup (fTup (fCons (fVar 3) (fCons (fVar 4) fNil)))) (gfN 8) bC3)
noncomputable def bC1 : Fn Unit Out := (fSeq (fSet 5 fDnT)
  (fSeq (fForD 2 (selIx 0) itsT (gfTup 2 (gfCons (gfN 6) (gfCons (gfN 7) gfNil))) bC2)
  (fSeq (fIfS (fTest (fOp oGt (fCal oLen (fCons (fVar 5) fNil)) (fC (.int 8000)))) fNo fNx)
  (fConsMv 2 5))))
theorem f_later_eq : f_later_counts = (fSeq (fSet 2 (fLst (fCons (fDsT (fOpW oRepT (fTup (fCons (fC (.int 0)) fNil)) (fIx (fVar 0) (fC (.int 0)))) (fC (.int 1))) fNil)))
  (fSeq (fFor none (xRevT (fIx (fVar 0) (fC (.int 1)))) (gfTup 2 (gfCons (gfN 3) (gfCons (gfN 4) gfNil))) bC1)
  (fRet (some 2) (fC .non)))) := rfl
section
variable {n : Nat} {rs : List (Nat × Nat)} {o : Row}
/-- one crossing of one road, one row of the dict -/
theorem c3_step (ho : o.length = n) (hn : n ≤ 1000) {row : Row} (hr : row.length = n) {v : Int} (hv : 0 < v) {c : Nat} (hc : c < n) {known : List (Row × Int)} {B : List Row} (hB : Cnt known B) (hl : B.length ≤ 10000) (c0 c2 c3 c4 c9 : C) :
    ∃ known', bC3 [c0, .im (iT o), c2, c3, c4, .own (.dt (dT known)), .im (iT row), .im (.int v), .im (.int (c : Int)), c9] () =
      some (.nx [c0, .im (iT o), c2, c3, c4, .own (.dt (dT known')), .im (iT row), .im (.int v), .im (.int (c : Int)), .im (iT (bump row c 1))], ()) ∧ Cnt known' (B ++ (List.replicate v.toNat row).flatMap (stp o c)) := by
  have ew := with_spec (row := row) (c := c) (k := 1) (by omega)
  have a1 := atI_at0 (t := bump row c 1) (i := c) (by rw [bump_len, hr]; exact hc)
  have a2 := atI_at0 (t := o) (i := c) (by rw [ho]; exact hc)
  rw [rep_stp]
  have lk := look_T (.sl 5 (.dt (dT known))) known rfl rfl (bump row c 1)
  have hk := hB.few
  by_cases h : (bump row c 1).getD c 0 ≤ o.getD c 0
  · have h' : at0 (bump row c 1) c ≤ at0 o c := h
    have pt := put_T (l := known) (r := bump row c 1) (v := (aget known (bump row c 1)).getD 0 + v) (by omega)
    rw [if_pos h]
    refine ⟨_, ?_, hB.put _ hv⟩
    have ed : ((aget known (bump row c 1)).map D.int).getD (.int 0) = .int ((aget known (bump row c 1)).getD 0) := by
      cases aget known (bump row c 1) <;> rfl
    simp [bC3, ew, a1, a2, h', lk, ed, pt, -Option.getD_map]
  · have h' : ¬ (at0 (bump row c 1) c ≤ at0 o c) := h
    rw [if_neg h, List.append_nil]
    refine ⟨known, ?_, hB⟩
    simp [bC3, ew, a1, a2, h']
theorem c2_step (ho : o.length = n) (hn : n ≤ 1000) {row : Row} (hr : row.length = n) {v : Int} (hv : 0 < v) {p : Nat × Nat} (h1 : p.1 < n) (h2 : p.2 < n) {known : List (Row × Int)} {B : List Row} (hB : Cnt known B) (hl : B.length + v.toNat ≤ 5000) (c0 c2 c8 c9 : C) :
    ∃ known', bC2 [c0, .im (iT o), c2, .im (.int (p.1 : Int)), .im (.int (p.2 : Int)), .own (.dt (dT known)), .im (iT row), .im (.int v), c8, c9] () =
      some (.nx [c0, .im (iT o), c2, .im (.int (p.1 : Int)), .im (.int (p.2 : Int)), .own (.dt (dT known')), .im (iT row), .im (.int v), .im (.int (p.2 : Int)), .im (iT (bump row p.2 1))], ()) ∧ Cnt known' (B ++ (List.replicate v.toNat row).flatMap fun r => stp o p.1 r ++ stp o p.2 r) := by
  obtain ⟨k1, e1, hk1⟩ := c3_step ho hn hr hv h1 hB (by omega) c0 c2 (.im (.int (p.1 : Int))) (.im (.int (p.2 : Int))) c9
  have hl1 : (B ++ (List.replicate v.toNat row).flatMap (stp o p.1)).length ≤ 10000 := by
    rw [List.length_append, rep_stp]
    split
    · rw [List.length_replicate]; omega
    · simp; omega
  obtain ⟨k2, e2, hk2⟩ := c3_step ho hn hr hv h2 hk1 hl1 c0 c2 (.im (.int (p.1 : Int))) (.im (.int (p.2 : Int))) (.im (iT (bump row p.1 1)))
  refine ⟨k2, ?_, hk2.perm ?_⟩
  · simp [bC2, forL, e1, e2]
  · rw [List.append_assoc]
    exact List.Perm.append_left _ (flat_two _ _ _).symm
theorem its_T (l : List (Row × Int)) : itsT (l.map eT) = l.map fun p => D.tup [iT p.1, .int p.2] := by
  unfold itsT
  rw [List.map_map]
  refine List.map_congr_left fun p _ => ?_
  show D.tup [.tup ((kR p.1).map kD), .int p.2] = _
  rw [kD_kR]
  rfl
theorem ex_app (a b : List (Row × Int)) : ex (a ++ b) = ex a ++ ex b := by unfold ex; rw [List.flatMap_append]
theorem flat_len {α β : Type} (L : List α) (f : α → List β) (k : Nat) (h : ∀ x ∈ L, (f x).length ≤ k) : (L.flatMap f).length ≤ k * L.length := by
  induction L with
  | nil => simp
  | cons x L ih =>
    have i := ih fun y hy => h y (List.mem_cons_of_mem _ hy)
    have hx := h x List.mem_cons_self
    rw [List.flatMap_cons, List.length_append, List.length_cons, Nat.mul_succ]
    omega
theorem stp_len (o : Row) (c : Nat) (r : Row) : (stp o c r).length ≤ 1 := by
  unfold stp
  split <;> simp
/-- cells without a part that changes -/
def Plc (c : C) : Prop := lckC c = c ∧ unlC c = c
theorem plc_im (d : D) : Plc (.im d) := ⟨rfl, rfl⟩
theorem plc_no : Plc .no := ⟨rfl, rfl⟩
/-- the dict of one more road -/
theorem c1_walk (ho : o.length = n) (hn : n ≤ 1000) {p : Nat × Nat} (h1 : p.1 < n) (h2 : p.2 < n) {l0 : List (Row × Int)} (hl0 : Cnt l0 (bagS n o rs)) (hm : rs.length ≤ 7) (c0 c2 : C) {c6 c7 c8 c9 : C} (k6 : Plc c6) (k7 : Plc c7) (k8 : Plc c8) (k9 : Plc c9) :
    ∃ known c6' c7' c8' c9', (Plc c6' ∧ Plc c7' ∧ Plc c8' ∧ Plc c9') ∧ forL (gfTup 2 (gfCons (gfN 6) (gfCons (gfN 7) gfNil))) bC2 (itsT (l0.map eT)) [c0, .im (iT o), c2, .im (.int (p.1 : Int)), .im (.int (p.2 : Int)), .own (.dt (dT [])), c6, c7, c8, c9] () =
      some (.nx [c0, .im (iT o), c2, .im (.int (p.1 : Int)), .im (.int (p.2 : Int)), .own (.dt (dT known)), c6', c7', c8', c9'], ()) ∧ Cnt known (bagS n o (p :: rs)) := by
  have hsz := bagS_size n o rs
  have h128 : 2 ^ rs.length ≤ 128 := Nat.pow_le_pow_right (by decide) hm
  have hex := hl0.ex.length_eq
  obtain ⟨ρ', e, known, c6', c7', c8', c9', rfl, hk, hpl⟩ := for_pre (fg := gfTup 2 (gfCons (gfN 6) (gfCons (gfN 7) gfNil))) (f := bC2) (s := ()) (ρ := [c0, .im (iT o), c2, .im (.int (p.1 : Int)), .im (.int (p.2 : Int)), .own (.dt (dT [])), c6, c7, c8, c9])
    (fun p : Row × Int => D.tup [iT p.1, .int p.2])
    (fun pre ρ => ∃ known c6 c7 c8 c9, ρ = [c0, .im (iT o), c2, .im (.int (p.1 : Int)), .im (.int (p.2 : Int)), .own (.dt (dT known)), c6, c7, c8, c9] ∧ Cnt known ((ex pre).flatMap fun r => stp o p.1 r ++ stp o p.2 r) ∧ (Plc c6 ∧ Plc c7 ∧ Plc c8 ∧ Plc c9)) l0
    ⟨[], c6, c7, c8, c9, rfl, Cnt.nil, k6, k7, k8, k9⟩ (fun pre x suf ρ hx ⟨known, c6, c7, c8, c9, hρ, hk, _⟩ => by
      subst hρ
      have hxm : x ∈ l0 := by rw [hx]; exact List.mem_append_right _ List.mem_cons_self
      have hxl := bagS_len (hl0.mem hxm)
      have hxv := hl0.pos x hxm
      have hlen : (ex pre).length + x.2.toNat ≤ 128 := by
        rw [hx, ex_app, List.length_append] at hex
        have : (ex (x :: suf)).length = x.2.toNat + (ex suf).length := by
          unfold ex
          rw [List.flatMap_cons, List.length_append, List.length_replicate]
        omega
      have hB : ((ex pre).flatMap fun r => stp o p.1 r ++ stp o p.2 r).length ≤ 2 * (ex pre).length := flat_len _ _ 2 fun r _ => by
        have a := stp_len o p.1 r
        have b := stp_len o p.2 r
        rw [List.length_append]
        omega
      obtain ⟨known', e, hk'⟩ := c2_step ho hn hxl hxv h1 h2 hk (by omega) c0 c2 c8 c9
      refine ⟨_, _, rfl, e, known', _, _, _, _, rfl, ?_, plc_im _, plc_im _, plc_im _, plc_im _⟩
      rw [ex_app, List.flatMap_append]
      have : ex [x] = List.replicate x.2.toNat x.1 := by unfold ex; simp
      rw [this]
      exact hk')
  refine ⟨known, c6', c7', c8', c9', hpl, by rw [its_T]; exact e, hk.perm ?_⟩
  exact (List.Perm.flatMap_right _ hl0.ex).trans (bagS_cons h1 h2)
end
end K96
end

section
set_option Elab.async false
set_option linter.all false
set_option maxRecDepth 100000
set_option maxHeartbeats 4000000
namespace K96
open PySem Pl L2
@[simp] theorem fForD_ev {S : Type} (k : Nat) (sel : M → Option M) (ky : List (List L2.Key × D) → List D) (fg : D → Rho → Option Rho) (f : Fn S Out) (ρ : Rho) (s : S) : fForD k sel ky fg f ρ s =
  match ((locM (frz1 (some k) ρ) k).bind sel).bind theT with
  | none => none
  | some r => bnd (forL fg f (ky r) ((frz1 (some k) ρ).map lckC) s) fun o s1 => lft (unlO o) s1 fun o => o := rfl
@[simp] theorem lckC_im (d : D) : lckC (.im d) = .im d := rfl
@[simp] theorem lckC_own (m : M) : lckC (.own m) = .own m := rfl
@[simp] theorem lckC_frz (m : M) : lckC (.frz true m) = .lck 1 m := rfl
@[simp] theorem lckC_no : lckC .no = .no := rfl
@[simp] theorem unlC_im (d : D) : unlC (.im d) = .im d := rfl
@[simp] theorem unlC_own (m : M) : unlC (.own m) = .own m := rfl
@[simp] theorem unlC_lck (m : M) : unlC (.lck 1 m) = .frz true m := rfl
@[simp] theorem unlC_no : unlC .no = .no := rfl
@[simp] theorem unlO_nx (ρ : Rho) : unlO (.nx ρ) = some (.nx (ρ.map unlC)) := rfl
@[simp] theorem locM_ev (ρ : Rho) (k : Nat) : locM ρ k = match cel ρ k with
  | .frz true m => some m
  | _ => none := rfl
@[simp] theorem selIx_lst (n : Nat) (ms : List M) : selIx n (.lst ms) = ms[n]? := rfl
@[simp] theorem theT_dt (l : List (KR × M)) : theT (.dt l) = dof l := rfl
@[simp] theorem consC_ev (ρ : Rho) (i j : Nat) : consC ρ i j = match cel ρ j, cel ρ i with
  | .own m, .frz true (.lst ms) => if szOk (ms.length + 1) = true ∧ i ≠ j then some ((ρ.set j .no).set i (.frz true (.lst (m :: ms)))) else none
  | _, _ => none := rfl
def mT (ls : List (List (Row × Int))) : List M := ls.map fun l => M.dt (dT l)
section
variable {n : Nat} {rs : List (Nat × Nat)} {o : Row}
/-- one road -/
theorem c1_step (ho : o.length = n) (hn : n ≤ 1000) {p : Nat × Nat} (h1 : p.1 < n) (h2 : p.2 < n) {l0 : List (Row × Int)} {ls : List (List (Row × Int))} (hl0 : Cnt l0 (bagS n o rs)) (hm : rs.length ≤ 7) (hls : ls.length ≤ 100) {c2 : C} (hc2 : c2 = .own (.lst (mT (l0 :: ls))) ∨ c2 = .frz true (.lst (mT (l0 :: ls))))
    (d : D) {d6 d7 d8 d9 : C} (k6 : Plc d6) (k7 : Plc d7) (k8 : Plc d8) (k9 : Plc d9) (c5 : C) :
    ∃ known c6' c7' c8' c9', (Plc c6' ∧ Plc c7' ∧ Plc c8' ∧ Plc c9') ∧ bC1 [.im d, .im (iT o), c2, .im (.int (p.1 : Int)), .im (.int (p.2 : Int)), c5, d6, d7, d8, d9] () =
      some (.nx [.im d, .im (iT o), .frz true (.lst (mT (known :: l0 :: ls))), .im (.int (p.1 : Int)), .im (.int (p.2 : Int)), .no, c6', c7', c8', c9'], ()) ∧ Cnt known (bagS n o (p :: rs)) := by
  obtain ⟨known, c6', c7', c8', c9', ⟨p6, p7, p8, p9⟩, e, hk⟩ := c1_walk (rs := rs) ho hn h1 h2 hl0 hm (.im d) (.lck 1 (.lst (mT (l0 :: ls)))) k6 k7 k8 k9
  have hkl : known.length ≤ 1000 := by
    have := hk.few
    have h2 := bagS_size n o (p :: rs)
    have h3 : 2 ^ (p :: rs).length ≤ 2 ^ 8 := Nat.pow_le_pow_right (by decide) (by rw [List.length_cons]; omega)
    omega
  have hg : ¬ (8000 < (known.length : Int)) := by omega
  have sz : szOk (ls.length + 1 + 1) = true := szOk_m (by omega)
  have m0 : (mT (l0 :: ls))[0]'(by simp [mT]) = M.dt (dT l0) := rfl
  have ml : (mT (l0 :: ls)).length = ls.length + 1 := by simp [mT]
  have mk : M.dt (dT known) :: mT (l0 :: ls) = mT (known :: l0 :: ls) := rfl
  have dl : (dT known).length = known.length := by simp [dT, dimg]
  have df : dof (dT l0) = some (l0.map eT) := dof_dimg _
  have e0 : (C.own (M.dt [])) = .own (.dt (dT [])) := rfl
  refine ⟨known, c6', c7', c8', c9', ⟨p6, p7, p8, p9⟩, ?_, hk⟩
  rcases hc2 with rfl | rfl
  · simp [bC1, m0, df, e0, k6.1, k7.1, k8.1, k9.1, e, p6.2, p7.2, p8.2, p9.2, dl, hg, ml, sz, mk]
  · simp [bC1, m0, df, e0, k6.1, k7.1, k8.1, k9.1, e, p6.2, p7.2, p8.2, p9.2, dl, hg, ml, sz, mk]
theorem zero_row (n : Nat) : List.replicate n (0 : Int) = rowF n fun _ => 0 := by
  refine (List.eq_replicate_iff.2 ⟨rowF_len .., fun b hb => ?_⟩).symm
  obtain ⟨c, _, rfl⟩ := List.mem_map.1 hb
  rfl
theorem bagS_nil (ho : ∀ c, c < n → 0 ≤ at0 o c) : bagS n o [] = [List.replicate n 0] := by
  show List.filter (leq n o) [ro n [] []] = _
  rw [ro_nil, List.filter_cons, if_pos]
  · rfl
  · refine leq_iff.2 fun c hc => ?_
    rw [zero_row, rowF_getD hc]
    exact ho c hc
theorem later_spec (F : Fr n rs) (ho : o.length = n) (h0 : ∀ c, c < n → 0 ≤ at0 o c) : ∃ ls, m_later_counts [.im (frD n rs), .im (iT o)] = some (.lst (mT ls)) ∧ LC n o rs ls := by
  have h4 := F.n4
  have h7 := F.m7
  obtain ⟨ρ', e, ls, c2, c3, c4, c5, c6, c7, c8, c9, rfl, hc2, hL, hpl⟩ := for_pre (fg := gfTup 2 (gfCons (gfN 3) (gfCons (gfN 4) gfNil))) (f := bC1) (s := ()) (ρ := [.im (frD n rs), .im (iT o), .own (.lst (mT [[(List.replicate n 0, 1)]])), .no, .no, .no, .no, .no, .no, .no]) rdD
    (fun pre ρ => ∃ ls c2 c3 c4 c5 c6 c7 c8 c9, ρ = [.im (frD n rs), .im (iT o), c2, c3, c4, c5, c6, c7, c8, c9] ∧ (c2 = .own (.lst (mT ls)) ∧ pre = [] ∨ c2 = .frz true (.lst (mT ls))) ∧ LC n o pre.reverse ls ∧ (Plc c6 ∧ Plc c7 ∧ Plc c8 ∧ Plc c9)) rs.reverse
    ⟨_, _, _, _, _, _, _, _, _, rfl, .inl ⟨rfl, rfl⟩, ⟨_, rfl, by rw [bagS_nil h0]; exact Cnt.one _⟩, plc_no, plc_no, plc_no, plc_no⟩
    (fun pre x suf ρ hx ⟨ls, c2, c3, c4, c5, c6, c7, c8, c9, hρ, hc2, hL, k6, k7, k8, k9⟩ => by
      subst hρ
      have hxm : x ∈ rs := by
        have : x ∈ rs.reverse := by rw [hx]; exact List.mem_append_right _ List.mem_cons_self
        exact List.mem_reverse.1 this
      have hxe := F.ends x hxm
      obtain ⟨l0, ls', rfl, hl0⟩ := hL.head
      have hpl : pre.length ≤ rs.length := by
        have := congrArg List.length hx
        rw [List.length_reverse, List.length_append] at this
        omega
      have hll := hL.len
      rw [List.length_cons, List.length_reverse] at hll
      obtain ⟨known, c6', c7', c8', c9', pl, e, hk⟩ := c1_step (rs := pre.reverse) ho (by omega) hxe.1 hxe.2 hl0 (by rw [List.length_reverse]; omega) (ls := ls') (by omega) (hc2.elim (fun z => .inl z.1) .inr) (frD n rs) k6 k7 k8 k9 c5
      refine ⟨_, _, rfl, e, known :: l0 :: ls', _, _, _, _, _, _, _, _, rfl, .inr rfl, ?_, pl⟩
      rw [List.reverse_append]
      exact ⟨known, l0 :: ls', rfl, hk, hL⟩)
  rw [List.reverse_reverse] at hL
  have hrev : (rs.map rdD).reverse = rs.reverse.map rdD := by rw [List.map_reverse]
  have er : oRepT (.im (.tup [.int 0])) (.im (.int (n : Int))) = some (.im (iT (List.replicate n 0))) := oRepT_one n F.n1 (by omega)
  have hc : c2 = .frz true (.lst (mT ls)) := by
    rcases hc2 with ⟨_, z⟩ | z
    · have := F.m1
      rw [List.reverse_eq_nil_iff] at z
      rw [z] at this
      simp at this
    · exact z
  subst hc
  refine ⟨ls, ?_, hL⟩
  have ed : C.own (M.lst [M.dt [(kR (List.replicate n 0), M.im (D.int 1))]]) = .own (.lst (mT [[(List.replicate n 0, 1)]])) := rfl
  simp [m_later_counts, runF, f_later_eq, er, keyT_iT, hrev, ed, e, -List.map_reverse]
end
end K96
end

section
set_option Elab.async false
set_option linter.all false
set_option maxRecDepth 100000
set_option maxHeartbeats 4000000
namespace K96
open PySem Pl L2
theorem ofNew_dt (l : List (KR × M)) : ofNew (.dt l) = .tm (.dt l) := rfl
theorem ofIx_dt (j : Nat) (l : List (KR × M)) : ofIx (W.sl j) (.dt l) = .sl j (.dt l) := rfl
theorem at_mT {ls : List (List (Row × Int))} {j : Nat} {l : List (Row × Int)} (h : ls[j]? = some l) : atI (mT ls) (j : Int) = some (M.dt (dT l)) := by
  refine atI_nat ?_
  unfold mT
  rw [List.getElem?_map, h]
  rfl
theorem at_mT0 {ls : List (List (Row × Int))} {l : List (Row × Int)} (h : ls[0]? = some l) : atI (mT ls) 0 = some (M.dt (dT l)) := at_mT (j := 0) h
noncomputable def bA3 : Fn Unit Out := (fSeq (fSet 10 (fCall 3 m_with_one (fCons (fVar 8) (fCons (fIx (fVar 5) (fVar 9)) (fCons (fUn (fC (.int 1))) fNil)))))
  (fIfS (fTest (fDIn false (fVar 10) (fIx (fVar 2) (fOp oAdd (fVar 4) (fC (.int 1)))))) (fApp 6 (fTup (fCons (fTup (fStar (fVar 7) (fCons (fVar 9) fNil))) (fCons (fVar 10) fNil)))) fNx))
noncomputable def bA2 : Fn Unit Out := (fFor none (xTup (fTup (fCons (fC (.int 0)) (fCons (fC (.int 1)) fNil)))) (gfN 9) bA3)
noncomputable def bA1 : Fn Unit Out := (fSeq (fSet 6 (fLst fNil))
  (fSeq (fFor (some 3) (xList (fVar 3)) (gfTup 2 (gfCons (gfN 7) (gfCons (gfN 8) gfNil))) bA2)
  (fMv 3 6)))
theorem f_allt_eq : f_all_turnings = (fSeq (fSet 2 (fCall 2 m_later_counts (fCons (fVar 0) (fCons (fVar 1) fNil))))
  (fSeq (fIfS (fTest (fOp oGt (fDGt (fIx (fVar 2) (fC (.int 0))) (fVar 1) (fC (.int 0))) (fC (.int 2000)))) fNo fNx)
  (fSeq (fSet 3 (fIf (fTest (fDIn false (fVar 1) (fIx (fVar 2) (fC (.int 0))))) (fLst (fCons (fTup (fCons (fTup fNil) (fCons (fVar 1) fNil))) fNil)) (fLst fNil)))
  (fSeq (fFor none (xEnumT (fCons (fIx (fVar 0) (fC (.int 1))) fNil)) (gfTup 2 (gfCons (gfN 4) (gfCons (gfN 5) gfNil))) bA1)
  (fRet none (fLc (xList (fVar 3)) (gfTup 2 (gfCons (gfN 7) (gfCons (gfN 8) gfNil))) fYes (fVar 7) [7, 8])))))) := rfl
section
variable {n : Nat} {rs : List (Nat × Nat)} {o : Row}
theorem count_spec (F : Fr n rs) (ho : o.length = n) (h0 : ∀ c, c < n → 0 ≤ at0 o c) : m_turnings_count [.im (frD n rs), .im (iT o)] = some (.im (.int (((marks rs.length).filter fun t => decide (ro n rs t = o)).length : Nat))) := by
  obtain ⟨ls, e, hL⟩ := later_spec F ho h0
  obtain ⟨l, el, hc⟩ := hL.at 0 (Nat.zero_le _)
  have lk := look_T (.tm (.dt (dT l))) l rfl rfl o
  have hv := hc.val o
  rw [List.drop_zero, bagS_count] at hv
  have ed : ((aget l o).map D.int).getD (.int 0) = .int ((aget l o).getD 0) := by cases aget l o <;> rfl
  simp [m_turnings_count, runF, f_turnings_count, e, at_mT0 el, ofNew_dt, lk, ed, hv, -Option.getD_map]
/-- a turning begun, and what is left -/
def itm (n : Nat) (rs : List (Nat × Nat)) (o : Row) (j : Nat) (p : List Int) : D := .tup [iT p, iT (rem n o (rs.take j) p)]
theorem iT_app (p : List Int) (k : Int) : D.tup (p.map D.int ++ [.int k]) = iT (p ++ [k]) := iT_snoc p k
theorem a3_step {j : Nat} (hj : j < rs.length) (hn : n ≤ 1000) {ls : List (List (Row × Int))} (hL : LC n o rs ls) {p : List Int} (hp : p.length = j) (hm : rs.length ≤ 7) {k : Int} (hk : k = 0 ∨ k = 1) {late : List (List Int)} (hl : late.length ≤ 10000) (c0 c1 c3 c10 : C) :
    bA3 [c0, c1, .own (.lst (mT ls)), c3, .im (.int (j : Int)), .im (rdD (rs.getD j (0, 0))), .own (.lst ((late.map (itm n rs o (j + 1))).map M.im)), .im (iT p), .im (iT (rem n o (rs.take j) p)), .im (.int k), c10] () =
    some (.nx [c0, c1, .own (.lst (mT ls)), c3, .im (.int (j : Int)), .im (rdD (rs.getD j (0, 0))), .own (.lst (((late ++ ([p ++ [k]].filter fun p => decide (rem n o (rs.take (j + 1)) p ∈ bagS n o (rs.drop (j + 1))))).map (itm n rs o (j + 1))).map M.im)), .im (iT p), .im (iT (rem n o (rs.take j) p)), .im (.int k), .im (iT (rem n o (rs.take (j + 1)) (p ++ [k])))], ()) := by
  have hrl : (rem n o (rs.take j) p).length ≤ 1000 := by unfold rem; rw [rowF_len]; exact hn
  have ew := with_spec (row := rem n o (rs.take j) p) (c := pick (rs.getD j (0, 0)) k) (k := -1) hrl
  have eg : rs.getD j (0, 0) = rs[j] := by simp [List.getD_eq_getElem?_getD, hj]
  have er : bump (rem n o (rs.take j) p) (pick (rs.getD j (0, 0)) k) (-1) = rem n o (rs.take (j + 1)) (p ++ [k]) := by
    rw [List.take_succ_eq_append_getElem hj, rem_snoc (by rw [List.length_take]; omega), eg]
  rw [er] at ew
  have ep := atI_rd (rs.getD j (0, 0)) k hk
  obtain ⟨l, el, hc⟩ := hL.at (j + 1) (by omega)
  have el' := at_mT el
  have lk := look_T (.sl 2 (.dt (dT l))) l rfl rfl (rem n o (rs.take (j + 1)) (p ++ [k]))
  have hkey := hc.key (rem n o (rs.take (j + 1)) (p ++ [k]))
  have ej : (j : Int) + 1 = ((j + 1 : Nat) : Int) := by omega
  have szp : szOk (p.length + 1) = true := szOk_m (by omega)
  have szl : szOk late.length = true := szOk_m (by omega)
  rw [List.filter_cons, List.filter_nil]
  by_cases h : rem n o (rs.take (j + 1)) (p ++ [k]) ∈ bagS n o (rs.drop (j + 1))
  · rw [decide_eq_true h] at hkey ⊢
    rw [if_pos rfl, List.map_append, List.map_append]
    simp [bA3, ep, ew, ej, el', ofIx_dt, lk, hkey, stos_app, szp, tupM_snoc, iT_app, szl, itm, -List.map_map, -List.getD_eq_getElem?_getD, -Int.natCast_add]
  · rw [decide_eq_false h] at hkey ⊢
    rw [if_neg (by simp), List.append_nil]
    simp [bA3, ep, ew, ej, el', ofIx_dt, lk, hkey, -List.map_map, -List.getD_eq_getElem?_getD, -Int.natCast_add]
theorem a1_step {j : Nat} (hj : j < rs.length) (hn : n ≤ 1000) {ls : List (List (Row × Int))} (hL : LC n o rs ls) (hm : rs.length ≤ 7) (c0 c1 c6 c7 c8 c9 c10 : C) :
    ∃ c7' c8' c9' c10', bA1 [c0, c1, .own (.lst (mT ls)), .own (.lst (((fnd n o rs j).map (itm n rs o j)).map M.im)), .im (.int (j : Int)), .im (rdD (rs.getD j (0, 0))), c6, c7, c8, c9, c10] () =
    some (.nx [c0, c1, .own (.lst (mT ls)), .own (.lst (((fnd n o rs (j + 1)).map (itm n rs o (j + 1))).map M.im)), .im (.int (j : Int)), .im (rdD (rs.getD j (0, 0))), .no, c7', c8', c9', c10'], ()) := by
  have flen : ∀ {p}, p ∈ fnd n o rs j → p.length = j := fun {p} hp => (marks_mem.1 (List.mem_filter.1 hp).1).1
  have ftot : (fnd n o rs j).length ≤ 128 := by
    unfold fnd
    refine Nat.le_trans (List.length_filter_le ..) ?_
    rw [marks_len]
    exact Nat.pow_le_pow_right (i := j) (j := 7) (by decide) (by omega)
  obtain ⟨ρ', e, c7', c8', c9', c10', rfl⟩ := for_pre (fg := gfTup 2 (gfCons (gfN 7) (gfCons (gfN 8) gfNil))) (f := bA2) (s := ()) (ρ := [c0, c1, .own (.lst (mT ls)), .frz true (.lst (((fnd n o rs j).map (itm n rs o j)).map M.im)), .im (.int (j : Int)), .im (rdD (rs.getD j (0, 0))), .own (.lst []), c7, c8, c9, c10]) (itm n rs o j)
    (fun pre ρ => ∃ c7 c8 c9 c10, ρ = [c0, c1, .own (.lst (mT ls)), .frz true (.lst (((fnd n o rs j).map (itm n rs o j)).map M.im)), .im (.int (j : Int)), .im (rdD (rs.getD j (0, 0))), .own (.lst (((pre.flatMap fun p => [p ++ [0], p ++ [1]].filter fun p => decide (rem n o (rs.take (j + 1)) p ∈ bagS n o (rs.drop (j + 1)))).map (itm n rs o (j + 1))).map M.im)), c7, c8, c9, c10]) (fnd n o rs j)
    ⟨c7, c8, c9, c10, rfl⟩ (fun pre x suf ρ hx ⟨c7, c8, c9, c10, hρ⟩ => by
      subst hρ
      have hxm : x ∈ fnd n o rs j := by rw [hx]; exact List.mem_append_right _ List.mem_cons_self
      have hlen : (pre.flatMap fun p => [p ++ [(0 : Int)], p ++ [1]].filter fun p => decide (rem n o (rs.take (j + 1)) p ∈ bagS n o (rs.drop (j + 1)))).length ≤ 2 * pre.length :=
        flat_len _ _ 2 fun x _ => List.length_filter_le ..
      have hpl : pre.length ≤ 128 := by
        have := congrArg List.length hx
        rw [List.length_append] at this
        omega
      have s0 := fun c10 => a3_step hj hn hL (flen hxm) hm (k := 0) (.inl rfl) (late := pre.flatMap fun p => [p ++ [(0 : Int)], p ++ [1]].filter fun p => decide (rem n o (rs.take (j + 1)) p ∈ bagS n o (rs.drop (j + 1)))) (by omega) c0 c1 (.frz true (.lst (((fnd n o rs j).map (itm n rs o j)).map M.im))) c10
      have s1 := fun c10 => a3_step hj hn hL (flen hxm) hm (k := 1) (.inr rfl) (late := (pre.flatMap fun p => [p ++ [(0 : Int)], p ++ [1]].filter fun p => decide (rem n o (rs.take (j + 1)) p ∈ bagS n o (rs.drop (j + 1)))) ++ [x ++ [(0 : Int)]].filter fun p => decide (rem n o (rs.take (j + 1)) p ∈ bagS n o (rs.drop (j + 1)))) (by
        rw [List.length_append]
        have := List.length_filter_le (fun p => decide (rem n o (rs.take (j + 1)) p ∈ bagS n o (rs.drop (j + 1)))) [x ++ [(0 : Int)]]
        rw [List.length_singleton] at this
        omega) c0 c1 (.frz true (.lst (((fnd n o rs j).map (itm n rs o j)).map M.im))) c10
      have ef : (pre ++ [x]).flatMap (fun p => [p ++ [(0 : Int)], p ++ [1]].filter fun p => decide (rem n o (rs.take (j + 1)) p ∈ bagS n o (rs.drop (j + 1)))) = ((pre.flatMap fun p => [p ++ [(0 : Int)], p ++ [1]].filter fun p => decide (rem n o (rs.take (j + 1)) p ∈ bagS n o (rs.drop (j + 1)))) ++ [x ++ [(0 : Int)]].filter fun p => decide (rem n o (rs.take (j + 1)) p ∈ bagS n o (rs.drop (j + 1)))) ++ [x ++ [(1 : Int)]].filter fun p => decide (rem n o (rs.take (j + 1)) p ∈ bagS n o (rs.drop (j + 1))) := by
        rw [List.flatMap_append, List.append_assoc, ← List.filter_append]
        simp
      rw [ef]
      generalize (pre.flatMap fun p => [p ++ [(0 : Int)], p ++ [1]].filter fun p => decide (rem n o (rs.take (j + 1)) p ∈ bagS n o (rs.drop (j + 1)))) = L0 at *
      generalize ([x ++ [(0 : Int)]].filter fun p => decide (rem n o (rs.take (j + 1)) p ∈ bagS n o (rs.drop (j + 1)))) = L1 at *
      generalize ([x ++ [(1 : Int)]].filter fun p => decide (rem n o (rs.take (j + 1)) p ∈ bagS n o (rs.drop (j + 1)))) = L2 at *
      refine ⟨_, _, rfl, ?_, .im (iT x), .im (iT (rem n o (rs.take j) x)), .im (.int 1), .im (iT (rem n o (rs.take (j + 1)) (x ++ [1]))), rfl⟩
      simp [bA2, forL, -List.map_map, -List.getD_eq_getElem?_getD, -List.map_append]
      rw [s0]
      simp [-List.map_map, -List.getD_eq_getElem?_getD, -List.map_append]
      rw [s1, List.append_assoc]
      rfl)
  rw [← fnd_step hj] at e
  refine ⟨c7', c8', c9', c10', ?_⟩
  simp [bA1, e, -List.map_map, -List.getD_eq_getElem?_getD]
theorem all_spec (F : Fr n rs) (ho : o.length = n) (h0 : ∀ c, c < n → 0 ≤ at0 o c) : m_all_turnings [.im (frD n rs), .im (iT o)] = some (.lst ((((marks rs.length).filter fun t => decide (ro n rs t = o)).map iT).map M.im)) := by
  have h7 := F.m7
  have h4 := F.n4
  obtain ⟨ls, e, hL⟩ := later_spec F ho h0
  obtain ⟨l, el, hc⟩ := hL.at 0 (Nat.zero_le _)
  have lk := look_T (.sl 2 (.dt (dT l))) l rfl rfl o
  have hv := hc.val o
  rw [List.drop_zero] at hv
  have hcl : ((bagS n o rs).count o : Int) ≤ 128 := by
    have h1 : (bagS n o rs).count o ≤ (bagS n o rs).length := List.count_le_length
    have h2 := bagS_size n o rs
    have h3 : 2 ^ rs.length ≤ 2 ^ 7 := Nat.pow_le_pow_right (by decide) h7
    omega
  have ed : ((aget l o).map D.int).getD (.int 0) = .int ((aget l o).getD 0) := by cases aget l o <;> rfl
  have hg : ¬ (2000 < ((bagS n o rs).count o : Int)) := by omega
  have hkey := hc.key o
  rw [List.drop_zero] at hkey
  obtain ⟨ρ', ef, c4, c5, c6, c7, c8, c9, c10, rfl⟩ := for_pre (fg := gfTup 2 (gfCons (gfN 4) (gfCons (gfN 5) gfNil))) (f := bA1) (s := ()) (ρ := [.im (frD n rs), .im (iT o), .own (.lst (mT ls)), .own (.lst (((fnd n o rs 0).map (itm n rs o 0)).map M.im)), .no, .no, .no, .no, .no, .no, .no]) (enR rs)
    (fun pre ρ => ∃ c4 c5 c6 c7 c8 c9 c10, ρ = [.im (frD n rs), .im (iT o), .own (.lst (mT ls)), .own (.lst (((fnd n o rs pre.length).map (itm n rs o pre.length)).map M.im)), c4, c5, c6, c7, c8, c9, c10]) (List.range rs.length)
    ⟨_, _, _, _, _, _, _, rfl⟩ (fun pre x suf ρ hx ⟨c4, c5, c6, c7, c8, c9, c10, hρ⟩ => by
      have hl : pre.length < rs.length := by
        have := congrArg List.length hx
        rw [List.length_range, List.length_append, List.length_cons] at this
        omega
      have ex : x = pre.length := by
        have e := congrArg (fun l => l[pre.length]?) hx
        simp [hl] at e
        exact e.symm
      subst hρ
      subst ex
      obtain ⟨c7', c8', c9', c10', e⟩ := a1_step hl (by omega) hL h7 (.im (frD n rs)) (.im (iT o)) c6 c7 c8 c9 c10
      refine ⟨_, _, rfl, e, ?_⟩
      rw [List.length_append]
      exact ⟨_, _, _, _, _, _, _, rfl⟩)
  rw [List.length_range] at ef
  have hfl := fnd_last ho h0 rs
  have h3i : C.own (.lst (((fnd n o rs 0).map (itm n rs o 0)).map M.im)) = if o ∈ bagS n o rs then C.own (.lst [.im (.tup [.tup [], iT o])]) else .own (.lst []) := by
    rw [fnd_zero n ho]
    have er : rem n o (rs.take 0) [] = o := by
      unfold rem zc
      rw [List.take_zero]
      conv => rhs; rw [rowF_of ho]
      refine rowF_ext.2 fun c _ => ?_
      simp
    by_cases h : o ∈ bagS n o rs
    · rw [if_pos h, if_pos h]
      show C.own (.lst [.im (.tup [iT [], iT (rem n o (rs.take 0) [])])]) = _
      rw [er]
      rfl
    · rw [if_neg h, if_neg h]
      rfl
  rw [h3i] at ef
  have lcq := lc_all (S := Unit) (fg := gfTup 2 (gfCons (gfN 7) (gfCons (gfN 8) gfNil))) (ft := fYes) (fe := fVar 7) (ρ := [.im (frD n rs), .im (iT o), .own (.lst (mT ls)), .own (.lst (((fnd n o rs rs.length).map (itm n rs o rs.length)).map M.im)), c4, c5, c6, .no, .no, c9, c10]) (s := ())
    (itm n rs o rs.length) (fun _ => true) (fun p => M.im (iT p)) (fnd n o rs rs.length) (fun p hp => ⟨_, rfl, rfl, fun _ => ⟨.im (iT p), rfl, rfl⟩⟩)
  rw [filter_true] at lcq
  have ftot : (fnd n o rs rs.length).length ≤ 1000 := by
    unfold fnd
    refine Nat.le_trans (List.length_filter_le ..) ?_
    rw [marks_len]
    exact Nat.le_trans (Nat.pow_le_pow_right (i := rs.length) (j := 7) (by decide) (by omega)) (by decide)
  have szf : szOk (fnd n o rs rs.length).length = true := szOk_m (by omega)
  have hres : (fnd n o rs rs.length).map (fun p => M.im (iT p)) = (((marks rs.length).filter fun t => decide (ro n rs t = o)).map iT).map M.im := by
    rw [hfl, List.map_map]
    rfl
  rw [hres] at lcq
  by_cases h : o ∈ bagS n o rs
  · rw [if_pos h] at ef
    rw [decide_eq_true h] at hkey
    simp [m_all_turnings, runF, f_allt_eq, e, at_mT0 el, ofIx_dt, lk, ed, hv, hg, hkey, enum_roads, ef, szf, lcq, -Option.getD_map, -List.map_map, -List.getD_eq_getElem?_getD]
  · rw [if_neg h] at ef
    rw [decide_eq_false h] at hkey
    simp [m_all_turnings, runF, f_allt_eq, e, at_mT0 el, ofIx_dt, lk, ed, hv, hg, hkey, enum_roads, ef, szf, lcq, -Option.getD_map, -List.map_map, -List.getD_eq_getElem?_getD]
end
end K96
end

section
set_option Elab.async false
set_option linter.all false
set_option maxRecDepth 100000
set_option maxHeartbeats 4000000
namespace K96
open PySem Pl L2
def eS (r : Row) : KR × D := (kR r, .bl true)
def dS (R : List Row) : List (KR × M) := dimg (R.map eS)
def sput (R : List Row) (r : Row) : List Row := if r ∈ R then R else R ++ [r]
theorem dput_S (R : List Row) (r : Row) : dput (R.map eS) (kR r) (.bl true) = (sput R r).map eS := by
  unfold dput sput
  have e : ((R.map eS).any fun p => decide (p.1 = kR r)) = decide (r ∈ R) := by
    rw [Bool.eq_iff_iff, List.any_eq_true, decide_eq_true_iff]
    constructor
    · rintro ⟨p, hp, h⟩
      obtain ⟨x, hx, rfl⟩ := List.mem_map.1 hp
      have := kR_inj.1 (of_decide_eq_true h)
      exact this ▸ hx
    · intro h
      exact ⟨eS r, List.mem_map.2 ⟨r, h, rfl⟩, decide_eq_true rfl⟩
  rw [e]
  by_cases h : r ∈ R
  · rw [if_pos (decide_eq_true h), if_pos h]
    refine List.ext_getElem (by simp) fun i h1 h2 => ?_
    simp only [List.getElem_map, eS]
    exact ite_self _
  · rw [if_neg (fun z => h (of_decide_eq_true z)), if_neg h, List.map_append]
    rfl
theorem put_S {R : List Row} {r : Row} (hl : R.length ≤ 10000) : putC (.own (.dt (dS R))) (.im (iT r)) (.im (.bl true)) = some (.own (.dt (dS (sput R r)))) := by
  have sz : szOk R.length = true := szOk_m (by omega)
  unfold putC
  simp [dS, keyT_iT, sz, dput_S]
theorem sput_mem {R : List Row} {r x : Row} : x ∈ sput R r ↔ x ∈ R ∨ x = r := by
  unfold sput
  by_cases h : r ∈ R
  · rw [if_pos h]
    exact ⟨.inl, fun z => z.elim id fun e => e ▸ h⟩
  · rw [if_neg h, List.mem_append, List.mem_singleton]
theorem sput_nodup {R : List Row} {r : Row} (h : R.Nodup) : (sput R r).Nodup := by
  unfold sput
  by_cases q : r ∈ R
  · rw [if_pos q]; exact h
  · rw [if_neg q]
    exact List.nodup_append.2 ⟨h, List.nodup_cons.2 ⟨List.not_mem_nil, List.nodup_nil⟩, fun x hx y hy e => q (by rw [List.mem_singleton] at hy; rw [← hy, ← e]; exact hx)⟩
theorem sput_len {R : List Row} {r : Row} : (sput R r).length ≤ R.length + 1 := by
  unfold sput
  by_cases q : r ∈ R
  · rw [if_pos q]; omega
  · rw [if_neg q]; simp
noncomputable def bO2 : Fn Unit Out := (fSeq (fPutD 4 (fC (.bl true)) (fCall 3 m_with_one (fCons (fVar 5) (fCons (fVar 2) (fCons (fC (.int 1)) fNil)))))
  (fPutD 4 (fC (.bl true)) (fCall 3 m_with_one (fCons (fVar 5) (fCons (fVar 3) (fCons (fC (.int 1)) fNil))))))
noncomputable def bO1 : Fn Unit Out := (fSeq (fSet 4 fDnT)
  (fSeq (fForD 1 (fun m => some m) keysT (gfN 5) bO2)
  (fSeq (fMv 1 4)
  (fIfS (fTest (fOp oGt (fCal oLen (fCons (fVar 1) fNil)) (fC (.int 8000)))) fNo fNx))))
theorem f_rows_eq : f_outs_rows = (fSeq (fSet 1 (fDsT (fOpW oRepT (fTup (fCons (fC (.int 0)) fNil)) (fIx (fVar 0) (fC (.int 0)))) (fC (.bl true))))
  (fSeq (fFor none (xTup (fIx (fVar 0) (fC (.int 1)))) (gfTup 2 (gfCons (gfN 2) (gfCons (gfN 3) gfNil))) bO1)
  (fRet none (fCal oTuple (fCons (fCal oSortDT (fCons (fVar 1) fNil)) fNil))))) := rfl
theorem keysT_S (R : List Row) : keysT (R.map eS) = R.map iT := by
  unfold keysT
  rw [List.map_map]
  refine List.map_congr_left fun r _ => ?_
  show D.tup ((kR r).map kD) = _
  rw [kD_kR]
  rfl
section
variable {n : Nat} {rs : List (Nat × Nat)}
/-- all rows of outs of some roads -/
structure Rws (n : Nat) (rs : List (Nat × Nat)) (R : List Row) : Prop where
  nd : R.Nodup
  mem : ∀ r, r ∈ R ↔ ∃ t ∈ marks rs.length, ro n rs t = r
theorem Rws.len {R : List Row} (h : Rws n rs R) : R.length ≤ 2 ^ rs.length := by
  have q := List.Nodup.length_le_of_subset h.nd (l₂ := (marks rs.length).map (ro n rs)) fun r hr => by
    obtain ⟨t, ht, e⟩ := (h.mem r).1 hr
    exact List.mem_map.2 ⟨t, ht, e⟩
  rwa [List.length_map, marks_len] at q
theorem Rws.row {R : List Row} (h : Rws n rs R) {r : Row} (hr : r ∈ R) : r.length = n := by
  obtain ⟨t, _, rfl⟩ := (h.mem r).1 hr
  exact ro_len ..
theorem o1_step (hn : n ≤ 1000) (hm : rs.length ≤ 7) {p : Nat × Nat} {R : List Row} (h : Rws n rs R) {c1 : C} (hc1 : c1 = .own (.dt (dS R))) (d : D) {c5 : C} (k5 : Plc c5) (c4 : C) :
    ∃ R' c5', Plc c5' ∧ bO1 [.im d, c1, .im (.int (p.1 : Int)), .im (.int (p.2 : Int)), c4, c5] () = some (.nx [.im d, .own (.dt (dS R')), .im (.int (p.1 : Int)), .im (.int (p.2 : Int)), .no, c5'], ()) ∧ Rws n (rs ++ [p]) R' := by
  subst hc1
  have hR := h.len
  have h7 : 2 ^ rs.length ≤ 2 ^ 7 := Nat.pow_le_pow_right (by decide) hm
  obtain ⟨ρ', e, late, c5', rfl, pl, nd, mem, len⟩ := for_pre (fg := gfN 5) (f := bO2) (s := ()) (ρ := [.im d, .lck 1 (.dt (dS R)), .im (.int (p.1 : Int)), .im (.int (p.2 : Int)), .own (.dt (dS [])), c5]) iT
    (fun pre ρ => ∃ late c5, ρ = [.im d, .lck 1 (.dt (dS R)), .im (.int (p.1 : Int)), .im (.int (p.2 : Int)), .own (.dt (dS late)), c5] ∧ Plc c5 ∧ late.Nodup ∧ (∀ r, r ∈ late ↔ ∃ q ∈ pre, r = bump q p.1 1 ∨ r = bump q p.2 1) ∧ late.length ≤ 2 * pre.length) R
    ⟨[], c5, rfl, k5, List.nodup_nil, fun r => by simp, by simp⟩ (fun pre x suf ρ hx ⟨late, c5, hρ, _, nd, mem, len⟩ => by
      subst hρ
      have hxm : x ∈ R := by rw [hx]; exact List.mem_append_right _ List.mem_cons_self
      have hpl : pre.length ≤ R.length := by
        have := congrArg List.length hx
        rw [List.length_append] at this
        omega
      have w1 := with_spec (row := x) (c := p.1) (k := 1) (by rw [h.row hxm]; exact hn)
      have w2 := with_spec (row := x) (c := p.2) (k := 1) (by rw [h.row hxm]; exact hn)
      have p1 := put_S (R := late) (r := bump x p.1 1) (by omega)
      have l1 := sput_len (R := late) (r := bump x p.1 1)
      have p2 := put_S (R := sput late (bump x p.1 1)) (r := bump x p.2 1) (by omega)
      have l2 := sput_len (R := sput late (bump x p.1 1)) (r := bump x p.2 1)
      refine ⟨_, _, rfl, ?_, sput (sput late (bump x p.1 1)) (bump x p.2 1), .im (iT x), rfl, plc_im _, sput_nodup (sput_nodup nd), fun r => ?_, ?_⟩
      · simp [bO2, w1, w2, p1, p2]
      · rw [sput_mem, sput_mem, mem]
        constructor
        · rintro ((⟨q, hq, z⟩ | z) | z)
          · exact ⟨q, List.mem_append_left _ hq, z⟩
          · exact ⟨x, List.mem_append_right _ List.mem_cons_self, .inl z⟩
          · exact ⟨x, List.mem_append_right _ List.mem_cons_self, .inr z⟩
        · rintro ⟨q, hq, z⟩
          rcases List.mem_append.1 hq with y | y
          · exact .inl (.inl ⟨q, y, z⟩)
          · rw [List.mem_singleton] at y
            subst y
            rcases z with z | z
            · exact .inl (.inr z)
            · exact .inr z
      · rw [List.length_append, List.length_singleton]
        omega)
  refine ⟨late, c5', pl, ?_, nd, fun r => ?_⟩
  · have df : dof (dS R) = some (R.map eS) := dof_dimg _
    have e0 : (C.own (M.dt [])) = .own (.dt (dS [])) := rfl
    have dl : (dS late).length = late.length := by simp [dS, dimg]
    have hg : ¬ (8000 < (late.length : Int)) := by omega
    simp [bO1, df, keysT_S, e0, k5.1, pl.2, e, dl, hg, -List.map_map]
  · rw [mem, List.length_append, List.length_singleton]
    have sn : ∀ t ∈ marks rs.length, ∀ k : Int, ro n (rs ++ [p]) (t ++ [k]) = bump (ro n rs t) (pick p k) 1 := fun t ht k => ro_snoc n p k (marks_mem.1 ht).1.symm
    constructor
    · rintro ⟨q, hq, z⟩
      obtain ⟨t, ht, rfl⟩ := (h.mem q).1 hq
      rcases z with rfl | rfl
      · refine ⟨t ++ [0], ?_, sn t ht 0⟩
        rw [marks_snoc]
        exact List.mem_flatMap.2 ⟨t, ht, List.mem_cons_self⟩
      · refine ⟨t ++ [1], ?_, sn t ht 1⟩
        rw [marks_snoc]
        exact List.mem_flatMap.2 ⟨t, ht, List.mem_cons_of_mem _ List.mem_cons_self⟩
    · rintro ⟨t, ht, rfl⟩
      rw [marks_snoc] at ht
      obtain ⟨u, hu, hy⟩ := List.mem_flatMap.1 ht
      rw [List.mem_cons, List.mem_singleton] at hy
      refine ⟨ro n rs u, (h.mem _).2 ⟨u, hu, rfl⟩, ?_⟩
      rcases hy with rfl | rfl
      · exact .inl (sn u hu 0)
      · exact .inr (sn u hu 1)
theorem rows_spec (F : Fr n rs) : ∃ R, m_outs_rows [.im (frD n rs)] = some (.im (.tup ((srtT R).map iT))) ∧ Rws n rs R := by
  have h4 := F.n4
  have h7 := F.m7
  have h1 := F.n1
  obtain ⟨ρ', e, R, c2, c3, c4, c5, rfl, hR, _⟩ := for_pre (fg := gfTup 2 (gfCons (gfN 2) (gfCons (gfN 3) gfNil))) (f := bO1) (s := ()) (ρ := [.im (frD n rs), .own (.dt (dS [List.replicate n 0])), .no, .no, .no, .no]) rdD
    (fun pre ρ => ∃ R c2 c3 c4 c5, ρ = [.im (frD n rs), .own (.dt (dS R)), c2, c3, c4, c5] ∧ Rws n pre R ∧ Plc c5) rs
    ⟨_, _, _, _, _, rfl, ⟨List.nodup_cons.2 ⟨List.not_mem_nil, List.nodup_nil⟩, fun r => by
      rw [List.mem_singleton]
      constructor
      · rintro rfl
        exact ⟨[], List.mem_cons_self, ro_nil n []⟩
      · rintro ⟨t, _, rfl⟩
        exact ro_nil n t⟩, plc_no⟩
    (fun pre x suf ρ hx ⟨R, c2, c3, c4, c5, hρ, hR, k5⟩ => by
      subst hρ
      have hpl : pre.length ≤ rs.length := by
        have := congrArg List.length hx
        rw [List.length_append] at this
        omega
      obtain ⟨R', c5', pl, e, hR'⟩ := o1_step (n := n) (rs := pre) (by omega) (by omega) (p := x) hR rfl (frD n rs) k5 c4
      exact ⟨_, _, rfl, e, R', _, _, _, c5', rfl, hR', pl⟩)
  refine ⟨R, ?_, hR⟩
  have er := oRepT_one n F.n1 (by omega)
  have ed : C.own (M.dt [(kR (List.replicate n 0), M.im (D.bl true))]) = .own (.dt (dS [List.replicate n 0])) := rfl
  have so : SortOk (keysT (R.map eS)) := by
    rw [keysT_S]
    refine sortOk_iT (fun r hr z => ?_) ?_
    · have := hR.row hr
      rw [z] at this
      simp at this
      omega
    · have := hR.len
      have h2 : 2 ^ rs.length ≤ 2 ^ 7 := Nat.pow_le_pow_right (by decide) h7
      unfold cap
      omega
  have es : oSortDT [.sl 1 (.dt (dS R))] = some (.new (.lst (((srtT R).map iT).map M.im))) := by
    unfold oSortDT o1
    have q : (dtW (.sl 1 (.dt (dS R)))).bind dof = some (R.map eS) := dof_dimg _
    simp only [q, Option.bind_some, if_pos so]
    rw [keysT_S, sortD_iT]
  simp [m_outs_rows, runF, f_rows_eq, er, keyT_iT, ed, e, es, -List.map_map]
end
end K96
end

section
set_option Elab.async false
set_option linter.all false
set_option maxRecDepth 100000
set_option maxHeartbeats 4000000
namespace K96
open PySem Pl L2
/-! at most 58 rows of outs -/
def InR (n : Nat) (rs : List (Nat × Nat)) (r : Row) : Prop := ∃ t ∈ marks rs.length, ro n rs t = r
def Card (n : Nat) (rs : List (Nat × Nat)) (k : Nat) : Prop := ∀ L : List Row, L.Nodup → (∀ r ∈ L, InR n rs r) → L.length ≤ k
section
variable {n : Nat} {rs : List (Nat × Nat)}
theorem inR_len {r : Row} (h : InR n rs r) : r.length = n := by
  obtain ⟨t, _, rfl⟩ := h
  exact ro_len ..
theorem inR_cons {p : Nat × Nat} {r : Row} : InR n (p :: rs) r ↔ ∃ q, InR n rs q ∧ (r = bump q p.1 1 ∨ r = bump q p.2 1) := by
  constructor
  · rintro ⟨t, ht, rfl⟩
    rw [List.length_cons] at ht
    rcases List.mem_append.1 (show t ∈ (marks rs.length).map (fun t => (0 : Int) :: t) ++ (marks rs.length).map fun t => (1 : Int) :: t from ht) with h | h
    · obtain ⟨u, hu, rfl⟩ := List.mem_map.1 h
      exact ⟨_, ⟨u, hu, rfl⟩, .inl (ro_cons n p rs 0 u)⟩
    · obtain ⟨u, hu, rfl⟩ := List.mem_map.1 h
      exact ⟨_, ⟨u, hu, rfl⟩, .inr (ro_cons n p rs 1 u)⟩
  · rintro ⟨q, ⟨u, hu, rfl⟩, h⟩
    rcases h with rfl | rfl
    · refine ⟨0 :: u, ?_, ro_cons n p rs 0 u⟩
      exact List.mem_append_left _ (List.mem_map.2 ⟨u, hu, rfl⟩)
    · refine ⟨1 :: u, ?_, ro_cons n p rs 1 u⟩
      exact List.mem_append_right _ (List.mem_map.2 ⟨u, hu, rfl⟩)
theorem bump_comm (q : Row) (a b : Nat) (k l : Int) : bump (bump q a k) b l = bump (bump q b l) a k := by
  conv => lhs; rw [rowF_of (r := q) rfl, bump_rowF, bump_rowF]
  conv => rhs; rw [rowF_of (r := q) rfl, bump_rowF, bump_rowF]
  refine rowF_ext.2 fun i _ => ?_
  omega
theorem bump_back (q : Row) (a : Nat) : bump (bump q a 1) a (-1) = q := by
  conv => lhs; rw [rowF_of (r := q) rfl, bump_rowF, bump_rowF]
  conv => rhs; rw [rowF_of (r := q) rfl]
  refine rowF_ext.2 fun i _ => ?_
  by_cases h : i = a
  · simp [h]; omega
  · simp [h]
theorem inR_perm {rs' : List (Nat × Nat)} (h : rs.Perm rs') : ∀ r, InR n rs r ↔ InR n rs' r := by
  induction h with
  | nil => exact fun _ => Iff.rfl
  | cons p _ ih =>
    intro r
    rw [inR_cons, inR_cons]
    exact ⟨fun ⟨q, a, b⟩ => ⟨q, (ih q).1 a, b⟩, fun ⟨q, a, b⟩ => ⟨q, (ih q).2 a, b⟩⟩
  | swap p q l =>
    intro r
    have one : ∀ p q : Nat × Nat, InR n (q :: p :: l) r → InR n (p :: q :: l) r := fun p q h => by
      obtain ⟨x, hx, h1⟩ := inR_cons.1 h
      obtain ⟨y, hy, h2⟩ := inR_cons.1 hx
      rcases h1 with rfl | rfl <;> rcases h2 with rfl | rfl
      · exact inR_cons.2 ⟨_, inR_cons.2 ⟨y, hy, .inl rfl⟩, .inl (bump_comm ..)⟩
      · exact inR_cons.2 ⟨_, inR_cons.2 ⟨y, hy, .inl rfl⟩, .inr (bump_comm ..)⟩
      · exact inR_cons.2 ⟨_, inR_cons.2 ⟨y, hy, .inr rfl⟩, .inl (bump_comm ..)⟩
      · exact inR_cons.2 ⟨_, inR_cons.2 ⟨y, hy, .inr rfl⟩, .inr (bump_comm ..)⟩
    exact ⟨one p q, one q p⟩
  | trans _ _ i1 i2 => exact fun r => (i1 r).trans (i2 r)
theorem card_perm {rs' : List (Nat × Nat)} {k : Nat} (h : rs.Perm rs') (c : Card n rs' k) : Card n rs k := fun L nd hL => c L nd fun r hr => (inR_perm h r).1 (hL r hr)
theorem card_mono {k l : Nat} (h : Card n rs k) (hk : k ≤ l) : Card n rs l := fun L nd hL => Nat.le_trans (h L nd hL) hk
theorem nodup_map {α β : Type} {f : α → β} {l : List α} (h : l.Nodup) (hf : ∀ a ∈ l, ∀ b ∈ l, f a = f b → a = b) : (l.map f).Nodup := by
  induction l with
  | nil => exact List.nodup_nil
  | cons x l ih =>
    obtain ⟨h1, h2⟩ := List.nodup_cons.1 h
    rw [List.map_cons]
    refine List.nodup_cons.2 ⟨fun z => ?_, ih h2 fun a ha b hb => hf a (List.mem_cons_of_mem _ ha) b (List.mem_cons_of_mem _ hb)⟩
    obtain ⟨y, hy, e⟩ := List.mem_map.1 z
    have := hf y (List.mem_cons_of_mem _ hy) x List.mem_cons_self e
    exact h1 (this ▸ hy)
theorem card_nil : Card n [] 1 := by
  intro L nd hL
  have : ∀ r ∈ L, r = List.replicate n 0 := fun r hr => by
    obtain ⟨t, ht, rfl⟩ := hL r hr
    exact ro_nil ..
  match L, nd, this with
  | [], _, _ => simp
  | [x], _, _ => simp
  | x :: y :: l, nd, h =>
    exfalso
    have h1 := h x List.mem_cons_self
    have h2 := h y (List.mem_cons_of_mem _ List.mem_cons_self)
    exact (List.nodup_cons.1 nd).1 (by rw [h1, h2]; exact List.mem_cons_self)
theorem card_loop {p : Nat × Nat} {k : Nat} (e : p.1 = p.2) (h : Card n rs k) : Card n (p :: rs) k := by
  intro L nd hL
  have q := h (L.map fun r => bump r p.1 (-1)) (nodup_map nd fun a ha b hb z => bump_inj z (by rw [inR_len (hL a ha), inR_len (hL b hb)])) fun r hr => by
    obtain ⟨x, hx, rfl⟩ := List.mem_map.1 hr
    obtain ⟨q, hq, z⟩ := inR_cons.1 (hL x hx)
    have : x = bump q p.1 1 := z.elim id fun y => by rw [y, e]
    rw [this, bump_back]
    exact hq
  rwa [List.length_map] at q
theorem mark_tg {t : List Int} (ht : t ∈ marks rs.length) : Tg rs t := ⟨(marks_mem.1 ht).1, (marks_mem.1 ht).2⟩
theorem tg_mark {t : List Int} (g : Tg rs t) : t ∈ marks rs.length := marks_mem.2 ⟨g.len, g.bit⟩
/-- no gaps along a direction -/
theorem conv (F : Fr n rs) {q q' : Row} (h : InR n rs q) (h' : InR n rs q') {a b : Nat} (ha : a < n) (hb : b < n) (hab : a ≠ b) (h1 : at0 q' a < at0 q a) (h2 : ∀ c, c < n → c ≠ a → c ≠ b → at0 q' c = at0 q c) : InR n rs (bump (bump q b 1) a (-1)) := by
  obtain ⟨t, ht, rfl⟩ := h
  obtain ⟨t', ht', rfl⟩ := h'
  have g := mark_tg ht
  have g' := mark_tg ht'
  obtain ⟨V, _, hV⟩ := ways_spec F g ha
  by_cases c : b ∈ wk V
  · obtain ⟨p, ep⟩ := wget_some c
    obtain ⟨w1, w2, _⟩ := hV.simple ep
    have g2 := flp_tg g p
    refine ⟨flp t p, tg_mark g2, ?_⟩
    rw [ro_oc g.len, ro_oc g2.len, bump_rowF, bump_rowF]
    refine rowF_ext.2 fun c _ => ?_
    have q := flip_way (c := c) (T' := tl rs (flp t p)) w1 w2 fun r hr => flp_tl g p hr
    by_cases e1 : c = a
    · subst e1
      simp [hab] at q ⊢
      omega
    · by_cases e2 : c = b
      · subst e2
        simp [e1] at q ⊢
        omega
      · simp [e1, e2] at q ⊢
        omega
  · exfalso
    have hl : ∀ c ∈ led V, c < n := fun c hc => hV.ok.lt c (led_mem.1 hc)
    have nd := nodup_pw (led_lt hV)
    have e1 := sum_ro g hl nd
    have e2 := sum_ro g' hl nd
    rw [closed_wi (led_cl hV)] at e1
    have e3 := wi_le (lot := led V) (tg_alike g g')
    have e4 := sumI_lt (l := led V) (f := at0 (ro n rs t')) (g := at0 (ro n rs t)) (fun x hx => by
      by_cases ca : x = a
      · subst ca; omega
      · have := h2 x (hl x hx) ca fun z => c (led_mem.1 (z ▸ hx))
        omega) (led_mem.2 hV.ok.c0) h1
    omega
theorem filter_split {α : Type} (l : List α) (f : α → Bool) : l.length = (l.filter f).length + (l.filter fun x => !f x).length := by
  induction l with
  | nil => rfl
  | cons x l ih =>
    rw [List.filter_cons, List.filter_cons, List.length_cons, ih]
    cases f x <;> simp <;> omega
/-! b laid on a -/
def cn (a b c : Nat) : Nat := if c = b then a else c
def cnR (a b : Nat) (p : Nat × Nat) : Nat × Nat := (cn a b p.1, cn a b p.2)
theorem pick_cn (a b : Nat) (p : Nat × Nat) (k : Int) : pick (cnR a b p) k = cn a b (pick p k) := by
  unfold pick cnR
  by_cases h : k = 0 <;> simp [h]
def phi (n a b : Nat) (r : Row) : Row := rowF n fun i => if i = a then at0 r a + at0 r b else if i = b then 0 else at0 r i
theorem zc_cn {a b : Nat} (hab : a ≠ b) : ∀ (rs : List (Nat × Nat)) (t : List Int) (c : Nat), zc (rs.map (cnR a b)) t c = if c = a then zc rs t a + zc rs t b else if c = b then 0 else zc rs t c
  | [], t, c => by simp [zc]
  | p :: rs, [], c => by simp [zc]
  | p :: rs, k :: t, c => by
    have ih := zc_cn hab rs t c
    rw [List.map_cons, zc_cons, ih, zc_cons, zc_cons, zc_cons, pick_cn]
    generalize pick p k = x
    unfold cn
    by_cases h1 : x = b
    · by_cases h2 : c = a
      · subst h2
        have : ¬ b = c := fun z => hab z.symm
        simp [h1, this]; omega
      · by_cases h3 : c = b
        · subst h3
          simp [h1, h2, hab]
        · have e1 : ¬ a = c := fun z => h2 z.symm
          have e2 : ¬ b = c := fun z => h3 z.symm
          simp [h1, h2, h3, e1, e2]
    · by_cases h2 : c = a
      · subst h2
        simp [h1]; omega
      · by_cases h3 : c = b
        · subst h3
          simp [h1, h2]
        · simp [h1, h2, h3]
theorem inR_phi {a b : Nat} (ha : a < n) (hb : b < n) (hab : a ≠ b) {q : Row} (h : InR n rs q) : InR n (rs.map (cnR a b)) (phi n a b q) := by
  obtain ⟨t, ht, rfl⟩ := h
  refine ⟨t, by rw [List.length_map]; exact ht, ?_⟩
  unfold phi
  rw [show ro n (rs.map (cnR a b)) t = rowF n fun c => (zc (rs.map (cnR a b)) t c : Int) from rfl]
  refine rowF_ext.2 fun c hc => ?_
  have e : ∀ x, x < n → at0 (ro n rs t) x = (zc rs t x : Int) := fun x hx => rowF_getD hx
  rw [zc_cn hab, e a ha, e b hb, e c hc]
  by_cases h1 : c = a
  · simp [h1]
  · by_cases h2 : c = b
    · have : ¬ b = a := fun z => hab z.symm
      simp [h2, this]
    · simp [h1, h2]
theorem at0_bump {r : Row} {c i : Nat} {k : Int} (h : i < r.length) : at0 (bump r c k) i = at0 r i + if i = c then k else 0 := bump_at h
theorem row_ext {a b : Row} (ha : a.length = n) (hb : b.length = n) (h : ∀ c, c < n → at0 a c = at0 b c) : a = b := by
  rw [rowF_of ha, rowF_of hb]
  exact rowF_ext.2 h
theorem card_cons (F : Fr n rs) {p : Nat × Nat} (h1 : p.1 < n) (h2 : p.2 < n) (hp : p.1 ≠ p.2) {k l : Nat} (hk : Card n rs k) (hl : Card n (rs.map (cnR p.1 p.2)) l) : Card n (p :: rs) (k + l) := by
  intro L nd hL
  have hlen : ∀ r ∈ L, r.length = n := fun r hr => inR_len (hL r hr)
  have sp : L.length = (L.filter fun r => @decide (InR n rs (bump r p.1 (-1))) (Classical.propDecidable _)).length + (L.filter fun r => !@decide (InR n rs (bump r p.1 (-1))) (Classical.propDecidable _)).length := by
    exact filter_split _ _
  have c1 : (L.filter fun r => @decide (InR n rs (bump r p.1 (-1))) (Classical.propDecidable _)).length ≤ k := by
    have q := hk ((L.filter fun r => @decide (InR n rs (bump r p.1 (-1))) (Classical.propDecidable _)).map fun r => bump r p.1 (-1)) (nodup_map (nd.filter _) fun a ha b hb z => bump_inj z (by rw [hlen a (List.mem_filter.1 ha).1, hlen b (List.mem_filter.1 hb).1])) fun r hr => by
      obtain ⟨x, hx, rfl⟩ := List.mem_map.1 hr
      exact @of_decide_eq_true _ (Classical.propDecidable _) (List.mem_filter.1 hx).2
    rwa [List.length_map] at q
  have c2 : (L.filter fun r => !@decide (InR n rs (bump r p.1 (-1))) (Classical.propDecidable _)).length ≤ l := by
    have two : ∀ r ∈ L.filter fun r => !@decide (InR n rs (bump r p.1 (-1))) (Classical.propDecidable _), r ∈ L ∧ ¬ InR n rs (bump r p.1 (-1)) ∧ ∃ q, InR n rs q ∧ r = bump q p.2 1 := fun r hr => by
      obtain ⟨m1, m2⟩ := List.mem_filter.1 hr
      have m3 : ¬ InR n rs (bump r p.1 (-1)) := by
        intro z
        rw [@decide_eq_true _ (Classical.propDecidable _) z] at m2
        cases m2
      obtain ⟨q, hq, z⟩ := inR_cons.1 (hL r m1)
      refine ⟨m1, m3, q, hq, z.resolve_left fun y => m3 ?_⟩
      rw [y, bump_back]
      exact hq
    have q := hl ((L.filter fun r => !@decide (InR n rs (bump r p.1 (-1))) (Classical.propDecidable _)).map fun r => phi n p.1 p.2 (bump r p.2 (-1))) (nodup_map (nd.filter _) fun r hr r' hr' z => ?_) fun r hr => by
      obtain ⟨x, hx, rfl⟩ := List.mem_map.1 hr
      obtain ⟨_, _, q, hq, rfl⟩ := two x hx
      rw [bump_back]
      exact inR_phi h1 h2 hp hq
    · rwa [List.length_map] at q
    · obtain ⟨_, n1, q, hq, rfl⟩ := two r hr
      obtain ⟨_, n2, q', hq', rfl⟩ := two r' hr'
      rw [bump_back, bump_back] at z
      have l1 := inR_len hq
      have l2 := inR_len hq'
      have za : at0 q p.1 + at0 q p.2 = at0 q' p.1 + at0 q' p.2 := by
        have := rowF_ext.1 z p.1 h1
        simpa using this
      have zo : ∀ c, c < n → c ≠ p.1 → c ≠ p.2 → at0 q c = at0 q' c := fun c hc e1 e2 => by
        have := rowF_ext.1 z c hc
        simpa [e1, e2] using this
      rcases Int.lt_trichotomy (at0 q p.1) (at0 q' p.1) with y | y | y
      · exact absurd (conv F hq' hq h1 h2 hp y fun c hc e1 e2 => zo c hc e1 e2) n2
      · have : q = q' := row_ext l1 l2 fun c hc => by
          by_cases e1 : c = p.1
          · subst e1; exact y
          · by_cases e2 : c = p.2
            · subst e2; omega
            · exact zo c hc e1 e2
        rw [this]
      · exact absurd (conv F hq hq' h1 h2 hp y fun c hc e1 e2 => (zo c hc e1 e2).symm) n1
  omega
/-- rows at most: v crossings, m roads -/
def Bn : Nat → Nat → Nat
  | _, 0 => 1
  | 0, _ + 1 => 1
  | 1, _ + 1 => 1
  | v + 2, m + 1 => Bn (v + 2) m + Bn (v + 1) m
theorem Bn_mono (v m : Nat) : Bn v m ≤ Bn v (m + 1) := by
  match v, m with
  | 0, 0 => exact Nat.le_refl _
  | 0, m + 1 => exact Nat.le_refl _
  | 1, 0 => exact Nat.le_refl _
  | 1, m + 1 => exact Nat.le_refl _
  | v + 2, m => exact Nat.le_add_right _ _
theorem card_Bn (hn : 1 ≤ n) (hn4 : n ≤ 4) : ∀ (m : Nat) (rs : List (Nat × Nat)) (V : List Nat), rs.length = m → m ≤ 7 → V.Nodup → (∀ c ∈ V, c < n) → (∀ p ∈ rs, p.1 ∈ V ∧ p.2 ∈ V) → Card n rs (Bn V.length m)
  | 0, rs, V, hm, _, _, _, _ => by
    have : rs = [] := List.length_eq_zero_iff.1 hm
    subst this
    have : Bn V.length 0 = 1 := by cases V.length <;> simp [Bn]
    rw [this]
    exact card_nil
  | m + 1, [], V, hm, _, _, _, _ => by cases hm
  | m + 1, p :: rs, V, hm, h7, nd, hV, hp => by
    have hm : rs.length = m := Nat.succ.inj hm
    obtain ⟨p1, p2⟩ := hp p List.mem_cons_self
    have ih := card_Bn hn hn4 m rs V hm (by omega) nd hV fun q hq => hp q (List.mem_cons_of_mem _ hq)
    by_cases e : p.1 = p.2
    · exact card_mono (card_loop e ih) (Bn_mono ..)
    · -- V has two members
      have sp := split_perm nd (p := [p.2]) (List.nodup_cons.2 ⟨List.not_mem_nil, List.nodup_nil⟩) fun r hr => by
        rw [List.mem_singleton] at hr
        rw [hr]; exact p2
      have hlen := sp.length_eq
      rw [List.length_append, List.length_singleton] at hlen
      have h1 : p.1 ∈ V.filter fun r => !decide (r ∈ [p.2]) := List.mem_filter.2 ⟨p1, by simp [e]⟩
      have hpos : 0 < (V.filter fun r => !decide (r ∈ [p.2])).length := List.length_pos_iff.2 fun z => by rw [z] at h1; cases h1
      obtain ⟨v, hv⟩ : ∃ v, (V.filter fun r => !decide (r ∈ [p.2])).length = v + 1 := ⟨(V.filter fun r => !decide (r ∈ [p.2])).length - 1, by omega⟩
      have hVl : V.length = v + 2 := by omega
      have ih2 := card_Bn hn hn4 m (rs.map (cnR p.1 p.2)) (V.filter fun r => !decide (r ∈ [p.2])) (by rw [List.length_map]; exact hm) (by omega) (nd.filter _) (fun c hc => hV c (List.mem_filter.1 hc).1) fun q hq => by
        obtain ⟨x, hx, rfl⟩ := List.mem_map.1 hq
        obtain ⟨x1, x2⟩ := hp x (List.mem_cons_of_mem _ hx)
        have one : ∀ c ∈ V, cn p.1 p.2 c ∈ V.filter fun r => !decide (r ∈ [p.2]) := fun c hc => by
          unfold cn
          by_cases z : c = p.2
          · rw [if_pos z]; exact h1
          · rw [if_neg z]; exact List.mem_filter.2 ⟨hc, by simp [z]⟩
        exact ⟨one _ x1, one _ x2⟩
      rw [hv] at ih2
      rw [hVl] at ih ⊢
      show Card n (p :: rs) (Bn (v + 2) m + Bn (v + 1) m)
      by_cases hr : rs = []
      · subst hr
        have : m = 0 := hm.symm
        subst this
        -- one road
        intro L ndL hL
        have hB : Bn (v + 2) 0 + Bn (v + 1) 0 = 2 := by simp [Bn]
        rw [hB]
        have q := List.Nodup.length_le_of_subset ndL (l₂ := [bump (List.replicate n 0) p.1 1, bump (List.replicate n 0) p.2 1]) fun r hr => by
          obtain ⟨q, ⟨t, _, rfl⟩, z⟩ := inR_cons.1 (hL r hr)
          rw [ro_nil] at z
          rcases z with rfl | rfl
          · exact List.mem_cons_self
          · exact List.mem_cons_of_mem _ List.mem_cons_self
        exact q
      · have F : Fr n rs := ⟨hn, hn4, List.length_pos_iff.2 hr, by omega, fun q hq => ⟨hV _ (hp q (List.mem_cons_of_mem _ hq)).1, hV _ (hp q (List.mem_cons_of_mem _ hq)).2⟩⟩
        exact card_cons F (hV _ p1) (hV _ p2) e ih ih2
end
end K96
end

section
set_option Elab.async false
set_option linter.all false
set_option maxRecDepth 100000
set_option maxHeartbeats 4000000
namespace K96
open PySem Pl L2
theorem twice_of {α β : Type} (g : α → β) : ∀ {l : List α}, ¬ (l.map g).Nodup → ∃ e f rest, l.Perm (e :: f :: rest) ∧ g e = g f
  | [], h => absurd List.nodup_nil h
  | x :: l, h => by
    rw [List.map_cons, List.nodup_cons] at h
    rcases Classical.em (g x ∈ l.map g) with z | z
    · obtain ⟨f, hf, e⟩ := List.mem_map.1 z
      obtain ⟨a, b, rfl⟩ := List.append_of_mem hf
      exact ⟨x, f, a ++ b, List.Perm.cons _ List.perm_middle, e.symm⟩
    · have : ¬ (l.map g).Nodup := fun y => h ⟨z, y⟩
      obtain ⟨e, f, rest, hp, he⟩ := twice_of g this
      refine ⟨e, f, x :: rest, ?_, he⟩
      exact (hp.cons x).trans ((List.Perm.swap e x _).trans (List.Perm.cons e (List.Perm.swap f x _)))
theorem pair_lo (a b : Nat) (ha : a < 4) (hb : b < 4) (h : a ≠ b) : (min a b, max a b) ∈ [(0, 1), (0, 2), (0, 3), (1, 2), (1, 3), (2, 3)] := by
  have : ∀ a : Fin 4, ∀ b : Fin 4, a ≠ b → (min a.1 b.1, max a.1 b.1) ∈ [(0, 1), (0, 2), (0, 3), (1, 2), (1, 3), (2, 3)] := by decide
  exact this ⟨a, ha⟩ ⟨b, hb⟩ fun z => h (Fin.mk.inj z)
theorem Bn_small : ∀ n : Fin 5, ∀ m : Fin 8, (m.1 ≤ 6 ∨ n.1 ≤ 3) → Bn n.1 m.1 ≤ 62 := by decide
section
variable {n : Nat} {rs : List (Nat × Nat)}
theorem card_range (F : Fr n rs) : Card n rs (Bn n rs.length) := by
  have := card_Bn (n := n) F.n1 F.n4 rs.length rs (List.range n) rfl F.m7 List.nodup_range (fun c hc => List.mem_range.1 hc) fun p hp => ⟨List.mem_range.2 (F.ends p hp).1, List.mem_range.2 (F.ends p hp).2⟩
  rwa [List.length_range] at this
theorem card_all (F : Fr n rs) : Card n rs 62 := by
  have h4 := F.n4
  have h7 := F.m7
  by_cases hs : rs.length ≤ 6 ∨ n ≤ 3
  · exact card_mono (card_range F) (Bn_small ⟨n, by omega⟩ ⟨rs.length, by omega⟩ hs)
  · have hn : n = 4 := by omega
    have hm : rs.length = 7 := by omega
    subst hn
    have sub : ∀ {e : Nat × Nat} {rest : List (Nat × Nat)}, rs.Perm (e :: rest) → ∀ q ∈ e :: rest, q.1 < 4 ∧ q.2 < 4 := fun hp q hq => F.ends q (hp.mem_iff.2 hq)
    by_cases hl : ∃ p ∈ rs, p.1 = p.2
    · obtain ⟨p, hp, e⟩ := hl
      obtain ⟨a, b, hab⟩ := List.append_of_mem hp
      have pm : rs.Perm (p :: (a ++ b)) := by rw [hab]; exact List.perm_middle
      have hlen : (a ++ b).length = 6 := by
        have := pm.length_eq
        rw [List.length_cons] at this
        omega
      have F' : Fr 4 (a ++ b) := ⟨by decide, by decide, by omega, by omega, fun q hq => sub pm q (List.mem_cons_of_mem _ hq)⟩
      have c := card_range F'
      rw [hlen] at c
      exact card_perm pm (card_loop e (card_mono c (by decide)))
    · have nn : ¬ (rs.map fun p : Nat × Nat => (min p.1 p.2, max p.1 p.2)).Nodup := fun nd => by
        have := List.Nodup.length_le_of_subset nd (l₂ := [(0, 1), (0, 2), (0, 3), (1, 2), (1, 3), (2, 3)]) fun r hr => by
          obtain ⟨p, hp, rfl⟩ := List.mem_map.1 hr
          exact pair_lo _ _ (F.ends p hp).1 (F.ends p hp).2 fun z => hl ⟨p, hp, z⟩
        rw [List.length_map] at this
        simp at this
        omega
      obtain ⟨e, f, rest, pm, he⟩ := twice_of (fun p : Nat × Nat => (min p.1 p.2, max p.1 p.2)) nn
      have hlen : rest.length = 5 := by
        have := pm.length_eq
        rw [List.length_cons, List.length_cons] at this
        omega
      have E := sub pm
      have e1 := E e List.mem_cons_self
      have f1 := E f (List.mem_cons_of_mem _ List.mem_cons_self)
      have ne : e.1 ≠ e.2 := fun z => hl ⟨e, pm.mem_iff.2 List.mem_cons_self, z⟩
      have F' : Fr 4 (f :: rest) := ⟨by decide, by decide, by simp, by rw [List.length_cons]; omega, fun q hq => E q (List.mem_cons_of_mem _ hq)⟩
      have c1 := card_range F'
      rw [List.length_cons, hlen] at c1
      have hlo : min e.1 e.2 = min f.1 f.2 ∧ max e.1 e.2 = max f.1 f.2 := Prod.mk.inj he
      have hloop : (cnR e.1 e.2 f).1 = (cnR e.1 e.2 f).2 := by
        show cn e.1 e.2 f.1 = cn e.1 e.2 f.2
        unfold cn
        rcases Nat.lt_or_ge f.1 f.2 with z | z <;> rcases Nat.lt_or_ge e.1 e.2 with y | y
        · have a1 : f.1 = e.1 := by omega
          have a2 : f.2 = e.2 := by omega
          rw [if_pos a2, a1, if_neg ne]
        · have a1 : f.1 = e.2 := by omega
          have a2 : f.2 = e.1 := by omega
          rw [if_pos a1, a2, if_neg ne]
        · have a1 : f.1 = e.2 := by omega
          have a2 : f.2 = e.1 := by omega
          rw [if_pos a1, a2, if_neg ne]
        · have a1 : f.1 = e.1 := by omega
          have a2 : f.2 = e.2 := by omega
          rw [if_pos a2, a1, if_neg ne]
      -- what is left when e is laid together
      have nd3 : ((List.range 4).filter fun r => !decide (r ∈ [e.2])).Nodup := List.nodup_range.filter _
      have l3 : ((List.range 4).filter fun r => !decide (r ∈ [e.2])).length = 3 := by
        have q := (split_perm (List.nodup_range (n := 4)) (p := [e.2]) (List.nodup_cons.2 ⟨List.not_mem_nil, List.nodup_nil⟩) fun r hr => by
          rw [List.mem_singleton] at hr
          rw [hr]; exact List.mem_range.2 e1.2).length_eq
        rw [List.length_range, List.length_append, List.length_singleton] at q
        omega
      have one : ∀ c, c < 4 → cn e.1 e.2 c ∈ (List.range 4).filter fun r => !decide (r ∈ [e.2]) := fun c hc => by
        unfold cn
        by_cases z : c = e.2
        · rw [if_pos z]; exact List.mem_filter.2 ⟨List.mem_range.2 e1.1, by simp [ne]⟩
        · rw [if_neg z]; exact List.mem_filter.2 ⟨List.mem_range.2 hc, by simp [z]⟩
      have c2 := card_Bn (n := 4) (by decide) (by decide) 5 (rest.map (cnR e.1 e.2)) ((List.range 4).filter fun r => !decide (r ∈ [e.2])) (by rw [List.length_map]; exact hlen) (by decide) nd3 (fun c hc => List.mem_range.1 (List.mem_filter.1 hc).1) fun q hq => by
        obtain ⟨x, hx, rfl⟩ := List.mem_map.1 hq
        have x1 := E x (List.mem_cons_of_mem _ (List.mem_cons_of_mem _ hx))
        exact ⟨one _ x1.1, one _ x1.2⟩
      rw [l3] at c2
      have c3 : Card 4 ((f :: rest).map (cnR e.1 e.2)) (Bn 3 5) := by
        rw [List.map_cons]
        exact card_loop hloop c2
      exact card_perm pm (card_mono (card_cons F' e1.1 e1.2 ne c1 c3) (by decide))
theorem Rws.few (F : Fr n rs) {R : List Row} (h : Rws n rs R) : R.length ≤ 62 := card_all F R h.nd fun r hr => (h.mem r).1 hr
end
end K96
end

section
set_option Elab.async false
set_option linter.all false
set_option maxRecDepth 100000
set_option maxHeartbeats 4000000
/-! texts shown: short, and of right signs -/
namespace K96
open PySem Pl L2
def okS (x : Str) : Bool := x.cps.all (· < 0x110000)
theorem okS_lay (x : Str) : (PyData.str x).canLay0 = okS x := by rw [PyData.canLay0]; rfl
theorem okS_app {a b : Str} (ha : okS a = true) (hb : okS b = true) : okS (a ++ b) = true := by
  unfold okS at *
  show (a.cps ++ b.cps).all _ = true
  rw [Array.all_append, ha, hb]
  rfl
theorem len_app (a b : Str) : (a ++ b).length = a.length + b.length := Str.length_append a b
theorem text_ok : ∀ (ts : List Str) (k : Nat) (acc : Str), okS acc = true → (∀ t ∈ ts, okS t = true) → okS (textFrom k acc ts) = true ∧ (textFrom k acc ts).length ≤ acc.length + piled ts
  | [], k, acc, h, _ => ⟨h, Nat.le_add_right _ _⟩
  | t :: ts, k, acc, h, ht => by
    have hs : okS ((if k > 0 then ", " else "" : String) : Str) = true ∧ ((if k > 0 then ", " else "" : String) : Str).length ≤ 2 := by
      by_cases c : k > 0
      · rw [if_pos c]; exact ⟨by decide +kernel, by decide +kernel⟩
      · rw [if_neg c]; exact ⟨by decide +kernel, by decide +kernel⟩
    obtain ⟨h1, h2⟩ := text_ok ts (k + 1) (acc ++ (if k > 0 then ", " else "" : String) ++ t) (okS_app (okS_app h hs.1) (ht t List.mem_cons_self)) fun u hu => ht u (List.mem_cons_of_mem _ hu)
    refine ⟨h1, ?_⟩
    rw [len_app, len_app] at h2
    rw [piled_cons]
    have := hs.2
    show (textFrom (k + 1) (acc ++ (if k > 0 then ", " else "" : String) ++ t) ts).length ≤ _
    omega
theorem join_ok : ∀ ts : List Str, (∀ t ∈ ts, okS t = true) → okS (Str.join ", " ts) = true ∧ (Str.join ", " ts).length ≤ piled ts
  | [], _ => ⟨by decide +kernel, Nat.zero_le _⟩
  | [x], h => ⟨h x List.mem_cons_self, by rw [piled_cons]; show x.length ≤ _; omega⟩
  | x :: y :: ts, h => by
    obtain ⟨h1, h2⟩ := join_ok (y :: ts) fun u hu => h u (List.mem_cons_of_mem _ hu)
    have hs : okS ((", " : String) : Str) = true ∧ ((", " : String) : Str).length = 2 := ⟨by decide +kernel, by decide +kernel⟩
    refine ⟨okS_app (okS_app (h x List.mem_cons_self) hs.1) h1, ?_⟩
    show ((x ++ ((", " : String) : Str)) ++ Str.join ", " (y :: ts)).length ≤ _
    rw [len_app, len_app, hs.2, piled_cons]
    omega
structure Sh (d : PyData) (N : Nat) : Prop where
  sh : d.showable = true
  nd : d.hasDict = false
  dp : d.depth ≤ 5
  ok : okS d.shown = true
  len : d.shown.length ≤ N
structure Shs (ds : List PyData) (N : Nat) (k : Nat) : Prop where
  sh : PyData.showableAll ds = true
  nd : PyData.hasDictAll ds = false
  dp : PyData.depthAll ds ≤ k
  ok : ∀ t ∈ PyData.shownAll ds, okS t = true
  len : piled (PyData.shownAll ds) ≤ N * ds.length
theorem shs_of {N k : Nat} (hk : k ≤ 5) : ∀ {ds : List PyData}, (∀ d ∈ ds, Sh d N ∧ d.depth ≤ k) → Shs ds (N + 2) k
  | [], _ => ⟨by simp [PyData.showableAll], by simp [PyData.hasDictAll], by simp [PyData.depthAll], fun _ h => by simp [PyData.shownAll] at h, by simp [PyData.shownAll, piled_nil]⟩
  | d :: ds, h => by
    obtain ⟨hd, hk1⟩ := h d List.mem_cons_self
    obtain ⟨a, b, c, e, f⟩ := shs_of hk (ds := ds) fun x hx => h x (List.mem_cons_of_mem _ hx)
    refine ⟨?_, ?_, ?_, fun t ht => ?_, ?_⟩
    · rw [PyData.showableAll, hd.sh, a]; rfl
    · rw [PyData.hasDictAll, hd.nd, b]; rfl
    · rw [PyData.depthAll]; omega
    · rw [PyData.shownAll] at ht
      rcases List.mem_cons.1 ht with rfl | ht
      · exact hd.ok
      · exact e t ht
    · rw [PyData.shownAll, piled_cons, List.length_cons, Nat.mul_succ]
      have := hd.len
      omega
theorem sh_tup {ds : List PyData} {N k : Nat} (hk : k ≤ 4) (h : Shs ds N k) : Sh (.tuple ds) (N * ds.length + 3) := by
  obtain ⟨a, b, c, e, f⟩ := h
  obtain ⟨j1, j2⟩ := join_ok _ e
  have hq : ∀ x : Bool, okS ((if x then ",)" else ")" : String) : Str) = true ∧ ((if x then ",)" else ")" : String) : Str).length ≤ 2 := fun x => by
    cases x
    · exact ⟨by decide +kernel, by decide +kernel⟩
    · exact ⟨by decide +kernel, by decide +kernel⟩
  have hp : okS (("(" : String) : Str) = true ∧ (("(" : String) : Str).length = 1 := ⟨by decide +kernel, by decide +kernel⟩
  refine ⟨by rw [PyData.showable]; exact a, by rw [PyData.hasDict]; exact b, by rw [PyData.depth]; omega, ?_, ?_⟩
  · rw [PyData.shown]
    exact okS_app (okS_app hp.1 j1) (hq _).1
  · rw [PyData.shown]
    unfold tupleText
    rw [len_app, len_app, hp.2]
    have := (hq ((PyData.shownAll ds).length == 1)).2
    omega
theorem sh_lst {ds : List PyData} {N k : Nat} (hk : k ≤ 4) (h : Shs ds N k) : Sh (.list ds) (N * ds.length + 3) := by
  obtain ⟨a, b, c, e, f⟩ := h
  have hp : okS (("[" : String) : Str) = true ∧ (("[" : String) : Str).length = 1 := ⟨by decide +kernel, by decide +kernel⟩
  have hq : okS (("]" : String) : Str) = true ∧ (("]" : String) : Str).length = 1 := ⟨by decide +kernel, by decide +kernel⟩
  obtain ⟨j1, j2⟩ := text_ok (PyData.shownAll ds) 0 "[" hp.1 e
  refine ⟨by rw [PyData.showable]; exact a, by rw [PyData.hasDict]; exact b, by rw [PyData.depth]; omega, ?_, ?_⟩
  · rw [PyData.shown]
    exact okS_app j1 hq.1
  · rw [PyData.shown]
    unfold listText
    rw [len_app, hq.2]
    rw [hp.2] at j2
    omega
theorem int_text : ∀ i : Fin 201, okS (Str.ofString (toString (i.1 : Int))) = true ∧ (Str.ofString (toString (i.1 : Int))).length ≤ 3 ∧ (PyData.int (i.1 : Int)).showable = true := by decide +kernel
theorem sh_int {i : Int} (h0 : 0 ≤ i) (h1 : i ≤ 200) : Sh (.int i) 3 ∧ (PyData.int i).depth ≤ 0 := by
  have e : i = ((i.toNat : Nat) : Int) := by omega
  obtain ⟨a, b, c⟩ := int_text ⟨i.toNat, by omega⟩
  simp only at a b c
  rw [← e] at a b c
  refine ⟨⟨c, by rw [PyData.hasDict], by rw [PyData.depth]; omega, ?_, ?_⟩, by rw [PyData.depth]; omega⟩
  · rw [PyData.shown]; exact a
  · rw [PyData.shown]; exact b
def smallP (r : List Int) : Prop := r.length ≤ 10 ∧ ∀ k ∈ r, 0 ≤ k ∧ k ≤ 200
theorem sh_ints {r : List Int} (h : smallP r) : Sh (.tuple (r.map .int)) 60 ∧ (PyData.tuple (r.map .int)).depth ≤ 1 := by
  have s := shs_of (N := 3) (k := 0) (by omega) (ds := r.map PyData.int) fun d hd => by
    obtain ⟨k, hk, rfl⟩ := List.mem_map.1 hd
    exact sh_int (h.2 k hk).1 (h.2 k hk).2
  have q := sh_tup (by omega) s
  rw [List.length_map] at q
  have hl := h.1
  refine ⟨⟨q.sh, q.nd, q.dp, q.ok, by have := q.len; omega⟩, ?_⟩
  have := s.dp
  rw [PyData.depth]
  omega
theorem shs_rows {rs : List (List Int)} (h : ∀ r ∈ rs, smallP r) : Shs (rs.map fun r => (iT r).py) 62 1 := by
  refine shs_of (N := 60) (k := 1) (by omega) fun d hd => ?_
  obtain ⟨r, hr, rfl⟩ := List.mem_map.1 hd
  rw [py_iT]
  exact sh_ints (h r hr)
theorem shOk_of {d : PyData} {N : Nat} (h : Sh d N) (hN : N ≤ 1000000) : shOk d = true := by
  unfold shOk
  rw [h.sh, h.nd]
  have h1 := h.dp
  have h2 := h.len
  have e1 : decide (d.depth ≤ 60) = true := decide_eq_true (by omega)
  have e2 : decide (d.shown.length ≤ cap) = true := decide_eq_true (by unfold cap; omega)
  rw [e1, e2]
  rfl
theorem ok_shown {d : PyData} {N : Nat} (h : Sh d N) : okPy (.str d.shown) = true := ok_str _ (by rw [okS_lay]; exact h.ok)
theorem oNe_shown {d : PyData} {N : Nat} (h : Sh d N) : oNe (.im (.str d.shown)) (.im (.str d.shown)) = some (.bl false) := by
  have hl : (PyData.str d.shown).canLay0 = true := by rw [okS_lay]; exact h.ok
  rw [oNe_str _ _ hl hl]
  simp
theorem repr_R {d : D} {r : List Int} (h : IsR d r) (hr : smallP r) : oRepr [.im d] = some (.im (.str (PyData.tuple (r.map .int)).shown)) := by
  have s := (sh_ints hr).1
  show (reprW (.im d)).map W.im = _
  have e : isRefW (.im d) = true := by rcases h with rfl | rfl <;> rfl
  unfold reprW
  rw [if_pos e, h.pyW]
  show (if shOk (.tuple (r.map .int)) = true then _ else _ : Option D).map W.im = _
  rw [if_pos (shOk_of s (by omega))]
  rfl
theorem pys_rows (rs : List (List Int)) : D.pys (rs.map iT) = rs.map fun r => (iT r).py := by
  induction rs with
  | nil => rfl
  | cons r rs ih =>
    show D.py (iT r) :: D.pys (rs.map iT) = _
    rw [ih]
    rfl
theorem repr_rows {rs : List (List Int)} (h : ∀ r ∈ rs, smallP r) (hl : rs.length ≤ 200) : oRepr [.im (.tup (rs.map iT))] = some (.im (.str (PyData.tuple (rs.map fun r => (iT r).py)).shown)) ∧ Sh (PyData.tuple (rs.map fun r => (iT r).py)) 20000 := by
  have s := sh_tup (by omega) (shs_rows h)
  rw [List.length_map] at s
  have s2 : Sh (PyData.tuple (rs.map fun r => (iT r).py)) 20000 := ⟨s.sh, s.nd, s.dp, s.ok, by have := s.len; omega⟩
  refine ⟨?_, s2⟩
  show (reprW (.im (.tup (rs.map iT)))).map W.im = _
  have e : pyW (.im (.tup (rs.map iT))) = some (.tuple (rs.map fun r => (iT r).py)) := by
    show some (PyData.tuple (D.pys (rs.map iT))) = _
    rw [pys_rows]
  unfold reprW
  rw [if_pos (show isRefW (.im (.tup (rs.map iT))) = true from rfl), e]
  show (if shOk _ = true then _ else _ : Option D).map W.im = _
  rw [if_pos (shOk_of s2 (by omega))]
  rfl
/-- repr([number, rows]) -/
theorem sh_pair {c : Int} {rs : List (List Int)} (h0 : 0 ≤ c) (h1 : c ≤ 200) (h : ∀ r ∈ rs, smallP r) (hl : rs.length ≤ 200) : Sh (.list [.int c, .list (rs.map fun r => (iT r).py)]) 50000 := by
  have s := sh_lst (by omega) (shs_rows h)
  rw [List.length_map] at s
  have sd : (PyData.list (rs.map fun r => (iT r).py)).depth ≤ 2 := by
    have := (shs_rows h).dp
    rw [PyData.depth]; omega
  have hi := sh_int h0 h1
  have q := shs_of (N := 13000) (k := 2) (by omega) (ds := [.int c, .list (rs.map fun r => (iT r).py)]) fun d hd => by
    rw [List.mem_cons, List.mem_singleton] at hd
    rcases hd with rfl | rfl
    · exact ⟨⟨hi.1.sh, hi.1.nd, hi.1.dp, hi.1.ok, by have := hi.1.len; omega⟩, by have := hi.2; omega⟩
    · exact ⟨⟨s.sh, s.nd, s.dp, s.ok, by have := s.len; omega⟩, sd⟩
  have z := sh_lst (by omega) q
  exact ⟨z.sh, z.nd, z.dp, z.ok, by have := z.len; simp at this; omega⟩
end K96
end

section
set_option Elab.async false
set_option linter.all false
set_option maxRecDepth 100000
set_option maxHeartbeats 4000000
namespace K96
open PySem Pl L2
theorem catT_one (r : List Int) (k : Int) (hl : r.length ≤ 1000) : oCatT (.im (iT r)) (.im (.tup [.int k])) = some (.im (iT (r ++ [k]))) := by
  have sz : szOk (r.length + 1) = true := szOk_m (by omega)
  unfold oCatT
  rw [tupD_iT, tupD_tup]
  simp only [List.length_map, List.length_singleton, sz, if_true]
  unfold tupKeep
  cases r with
  | nil => rfl
  | cons x r => simp [iT]
theorem catL_rows (a b : List (List Int)) (h : a.length + b.length ≤ 1000) : oCatL (.new (.lst ((a.map iT).map M.im))) (.new (.lst ((b.map iT).map M.im))) = some (.new (.lst (((a ++ b).map iT).map M.im))) := by
  have sz : szOk (a.length + b.length) = true := szOk_m (by omega)
  unfold oCatL
  rw [if_pos ⟨rfl, rfl⟩, seqD_new, seqD_new, allIm_map, allIm_map]
  simp only [List.length_map, sz, if_true, List.map_append]
theorem sortD_new {ds : List D} (h : SortOk ds) : oSortD [.new (.lst (ds.map M.im))] = some (.new (.lst ((sortD ds).map M.im))) := by
  unfold oSortD o1
  simp [h]
noncomputable def bMarks : Fn Unit Out := (fSet 1 (fCal oSortD (fCons (fOpW oCatL (fLc (xList (fVar 1)) (gfN 3) fYes (fOpW oCatT (fVar 3) (fTup (fCons (fC (.int 0)) fNil))) [3]) (fLc (xList (fVar 1)) (gfN 3) fYes (fOpW oCatT (fVar 3) (fTup (fCons (fC (.int 1)) fNil))) [3])) fNil)))
theorem f_marks_eq : f__law_marks = (fSeq (fSet 1 (fLst (fCons (fTup fNil) fNil)))
  (fSeq (fFor none (xRng1 (fCons (fVar 0) fNil)) (gfN 2) bMarks) (fRet (some 1) (fC .non)))) := rfl
theorem marks_lc (k : Int) (L : List (List Int)) (hL : ∀ r ∈ L, r.length ≤ 1000) (c0 c1 c2 : C) : lcL (S := Unit) (gfN 3) fYes (fOpW oCatT (fVar 3) (fTup (fCons (fC (.int k)) fNil))) [c0, c1, c2, .no] (L.map iT) () = some (((L.map fun r => r ++ [k]).map iT).map M.im, ()) := by
  have q := lc_all (S := Unit) (fg := gfN 3) (ft := fYes) (fe := fOpW oCatT (fVar 3) (fTup (fCons (fC (.int k)) fNil))) (ρ := [c0, c1, c2, .no]) (s := ())
    iT (fun _ => true) (fun r => M.im (iT (r ++ [k]))) L (fun r hr => by
      refine ⟨[c0, c1, c2, .im (iT r)], rfl, rfl, fun _ => ⟨.im (iT (r ++ [k])), ?_, rfl⟩⟩
      simp [catT_one r k (hL r hr)])
  rw [filter_true] at q
  rw [q, List.map_map, List.map_map]
  rfl
theorem marks_step (c0 : C) {j : Nat} (hj : j ≤ 7) (i : D) : bMarks [c0, .own (.lst (((marks j).map iT).map M.im)), .im i, .no] () = some (.nx [c0, .own (.lst (((marks (j + 1)).map iT).map M.im)), .im i, .no], ()) := by
  have hlen : (marks j).length ≤ 128 := by
    rw [marks_len]
    exact Nat.pow_le_pow_right (i := j) (j := 7) (by decide) hj
  have hrow : ∀ r ∈ marks j, r.length ≤ 1000 := fun r hr => by rw [(marks_mem.1 hr).1]; omega
  have l0 := marks_lc 0 (marks j) hrow c0 (.own (.lst (((marks j).map iT).map M.im))) (.im i)
  have l1 := marks_lc 1 (marks j) hrow c0 (.own (.lst (((marks j).map iT).map M.im))) (.im i)
  have sz : szOk (marks j).length = true := szOk_m (by omega)
  have ct := catL_rows ((marks j).map fun r => r ++ [0]) ((marks j).map fun r => r ++ [1]) (by rw [List.length_map, List.length_map]; omega)
  have so : SortOk ((((marks j).map fun r => r ++ [(0 : Int)]) ++ (marks j).map fun r => r ++ [1]).map iT) := by
    refine sortOk_iT (fun r hr z => ?_) (by rw [List.length_append, List.length_map, List.length_map]; unfold cap; omega)
    rcases List.mem_append.1 hr with h | h
    · obtain ⟨x, _, rfl⟩ := List.mem_map.1 h
      simp at z
    · obtain ⟨x, _, rfl⟩ := List.mem_map.1 h
      simp at z
  have es := sortD_new so
  rw [sortD_iT, ← srtT_of (marks_perm j) ((marks_pw (j + 1)).imp fun h => h.1)] at es
  simp [bMarks, sz, l0, l1, ct, es, -List.map_map, -List.map_append]
theorem marks_spec {m : Nat} (hm : m ≤ 7) : m__law_marks [.im (.int (m : Int))] = some (.lst (((marks m).map iT).map M.im)) := by
  have sm : smI (m : Int) = true := smI_nat (by omega)
  obtain ⟨ρ', e, c2, rfl⟩ := for_rng (fg := gfN 2) (f := bMarks) (s := ()) (ρ := [.im (.int (m : Int)), .own (.lst (((marks 0).map iT).map M.im)), .no, .no]) m
    (fun j ρ => ∃ c2, ρ = [.im (.int (m : Int)), .own (.lst (((marks j).map iT).map M.im)), c2, .no]) ⟨_, rfl⟩ (fun j ρ hj ⟨c2, hρ⟩ => by
      subst hρ
      exact ⟨_, _, rfl, marks_step _ (by omega) _, _, rfl⟩)
  have e0 : C.own (M.lst [M.im (D.tup [])]) = .own (.lst (((marks 0).map iT).map M.im)) := rfl
  simp [m__law_marks, runF, f_marks_eq, e0, sm, e, -List.map_map]
section
variable {n : Nat} {rs : List (Nat × Nat)} {t : List Int}
theorem lawouts_spec (F : Fr n rs) (g : Tg rs t) : m__law_outs [.im (frD n rs), .im (iT t)] = some (.im (iT (ro n rs t))) := by
  have h4 := F.n4
  have h7 := F.m7
  have hl := g.len
  have sm : smI (t.length : Int) = true := smI_nat (by omega)
  have sz : szOk t.length = true := szOk_m (by omega)
  have sn : smI (n : Int) = true := smI_nat (by omega)
  have szn : szOk n = true := szOk_m (by omega)
  have lc := lc_all (S := Unit) (fg := gfN 3) (ft := fYes) (fe := fIx (fIx (fIx (fVar 0) (fC (.int 1))) (fVar 3)) (fIx (fVar 1) (fVar 3))) (ρ := [.im (frD n rs), .im (iT t), .no, .no, .no, .no]) (s := ())
    natD (fun _ => true) (fun r => intM (tl rs t r : Int)) (List.range t.length) (fun r hr => by
      have hr : r < rs.length := by rw [← hl]; exact List.mem_range.1 hr
      refine ⟨[.im (frD n rs), .im (iT t), .no, .im (.int (r : Int)), .no, .no], rfl, rfl, fun _ => ⟨.im (.int (tl rs t r : Int)), ?_, rfl⟩⟩
      have h1 := atI_map (f := rdD) hr
      have h2 := atI_map (f := D.int) (g.lt hr)
      have h3 := atI_rd rs[r] _ (g.at (g.lt hr))
      simp [h1, h2, h3, tl_eq g hr])
  have e1 : (List.range t.length).map (fun r => intM (tl rs t r : Int)) = natL ((List.range t.length).map (tl rs t)) := by
    unfold natL nI intM; simp
  rw [filter_true, e1] at lc
  have al : seqD (.sl 2 (.lst (natL ((List.range t.length).map (tl rs t))))) = some (((List.range t.length).map (tl rs t)).map natD) := by rw [seqD_sl, natL_D, allIm_map]
  have szt : szOk (((List.range t.length).map (tl rs t)).map natD).length = true := by rw [List.length_map, List.length_map, List.length_range]; exact sz
  have inner : ∀ c : Nat, lcL (S := Unit) (gfN 4) (fTest (fOp oEq (fVar 4) (fVar 5))) (fC (.int 1)) [.im (frD n rs), .im (iT t), .own (.lst (natL ((List.range t.length).map (tl rs t)))), .no, .no, .im (.int (c : Int))] (((List.range t.length).map (tl rs t)).map natD) () = some ((((List.range t.length).map (tl rs t)).filter fun x => decide (x = c)).map fun _ => intM 1, ()) := fun c =>
    lc_all (S := Unit) natD (fun x => decide (x = c)) (fun _ => intM 1) ((List.range t.length).map (tl rs t)) (fun x hx => by
      refine ⟨[.im (frD n rs), .im (iT t), .own (.lst (natL ((List.range t.length).map (tl rs t)))), .no, .im (.int (x : Int)), .im (.int (c : Int))], rfl, ?_, fun _ => ⟨_, rfl, rfl⟩⟩
      have e3 : decide ((x : Int) = (c : Int)) = decide (x = c) := decide_eq_decide.2 (by omega)
      simp [oEq_int, e3])
  have outer := lc_all (S := Unit) (fg := gfN 5) (ft := fYes) (fe := fCal oLen (fCons (fLc (xList (fVar 2)) (gfN 4) (fTest (fOp oEq (fVar 4) (fVar 5))) (fC (.int 1)) [4]) fNil)) (ρ := [.im (frD n rs), .im (iT t), .own (.lst (natL ((List.range t.length).map (tl rs t)))), .no, .no, .no]) (s := ())
    natD (fun _ => true) (fun c => intM (oc rs.length (tl rs t) c : Int)) (List.range n) (fun c hc => by
      refine ⟨[.im (frD n rs), .im (iT t), .own (.lst (natL ((List.range t.length).map (tl rs t)))), .no, .no, .im (.int (c : Int))], rfl, rfl, fun _ => ⟨.im (.int (oc rs.length (tl rs t) c : Int)), ?_, rfl⟩⟩
      have ec : ((((List.range t.length).map (tl rs t)).filter fun x => decide (x = c)).map fun _ => intM 1).length = oc rs.length (tl rs t) c := by
        rw [List.length_map, ← List.countP_eq_length_filter, List.countP_map, hl]
        rfl
      simp [al, szt, inner c, -List.map_map, -seqD_sl, -List.length_map, -List.length_range]
      rw [ec])
  rw [filter_true, map_ints] at outer
  simp at sz szt
  simp [m__law_outs, runF, f__law_outs, sm, rng_nat, sz, lc, sn, szn, outer, -List.map_map]
  rw [ro_oc hl]
  rfl
end
end K96
end

section
set_option Elab.async false
set_option linter.all false
set_option maxRecDepth 100000
set_option maxHeartbeats 4000000
/-! the law's source -/
namespace K96
open PySem Pl L2
@[simp] theorem fSG_ev (i : Nat) (sel : Src → Int) (ρ : Rho) (s : Src) : fSG i sel ρ s = if isSrc ρ i = true then some (.im (.int (sel s)), s) else none := rfl
@[simp] theorem fSLen_ev (i : Nat) (ρ : Rho) (s : Src) : fSLen i ρ s = if isSrc ρ i = true then some (.im (.int (s.cells.length : Nat)), s) else none := rfl
@[simp] theorem fSPop_ev (i : Nat) (ρ : Rho) (s : Src) : fSPop i ρ s = if isSrc ρ i = true then match s.cells.getLast? with
  | some c => some (.im (.int c), { s with cells := s.cells.dropLast })
  | none => none else none := rfl
@[simp] theorem fSPut_ev (i : Nat) (st : Src → Int → Src) (fv : Fn Src W) (ρ : Rho) (s : Src) : fSPut i st fv ρ s = bnd (fv ρ s) fun w s1 => if isSrc ρ i = true then (lft (intW w) s1 (fun v => v)).map (fun p => (Out.nx ρ, st s1 p.1)) else none := rfl
@[simp] theorem isSrc_0 (ρ : Rho) : isSrc (.src :: ρ) 0 = true := rfl
@[simp] theorem isSrc_1 (c : C) (ρ : Rho) : isSrc (c :: .src :: ρ) 1 = true := rfl
@[simp] theorem fCallS_ev (np : Nat) (g : Src → List M → Option (M × Src)) (fs : Fn Src (List W)) (ρ : Rho) (s : Src) : fCallS np g fs ρ s = bnd (fs ρ s) fun ws s1 => match ws with
  | .src :: wr => if wr.length = np then match (args wr).bind (g s1) with
      | some (m, s2) => some (ofM m, s2)
      | none => none
    else none
  | _ => none := rfl
@[simp] theorem oInt_ev (i : Int) : oInt [.im (.int i)] = some (.int i) := rfl
@[simp] theorem oMax2_ev (i j : Int) : oMax2 [.im (.int i), .im (.int j)] = some (.int (if j > i then j else i)) := rfl
theorem oMod_pos {i j : Int} (h : 0 < j) : oMod (.im (.int i)) (.im (.int j)) = some (.int (i % j)) := by
  show (if cPos i j = true then some (D.int (i % j)) else none) = _
  rw [if_pos (show cPos i j = true from decide_eq_true h)]
theorem oDiv_pos {i j : Int} (h : 0 < j) (h2 : j < 1073741824) : oDiv (.im (.int i)) (.im (.int j)) = some (.int (i / j)) := by
  show (if cDiv i j = true then some (D.int (i / j)) else none) = _
  rw [if_pos (by unfold cDiv; simp [h, h2])]
theorem oMul_small {i j : Int} (h : -(2 ^ 64) < j) (h2 : j < 2 ^ 64) : oMul (.im (.int i)) (.im (.int j)) = some (.int (i * j)) := by
  show (if cMul i j = true then some (D.int (i * j)) else none) = _
  rw [if_pos]
  unfold cMul
  rw [Bool.or_eq_true, Bool.and_eq_true, Bool.and_eq_true]
  exact .inr ⟨decide_eq_true h, decide_eq_true h2⟩
structure Good (s : Src) : Prop where
  cells : ∀ c ∈ s.cells, 0 ≤ c
  few : s.cells.length ≤ 63
  left : 0 ≤ s.left
theorem good_src {zs : List Int} (h : zs.length ≤ 63) : Good (srcOf zs) := by
  refine ⟨fun c hc => ?_, ?_, (by decide : (0 : Int) ≤ 1)⟩
  · have hc : c ∈ (zs.map absI).reverse := hc
    obtain ⟨z, _, rfl⟩ := List.mem_map.1 (List.mem_reverse.1 hc)
    unfold absI
    split <;> omega
  · show ((zs.map absI).reverse).length ≤ 63
    rw [List.length_reverse, List.length_map]
    exact h
noncomputable def bPick1 : Fn Src Out := (fSPut 0 stL (fSPop 0))
noncomputable def cPick : Fn Src Bool := (fAnd (fTest (fOp oGt (fVar 1) (fC (.int 1)))) (fAnd (fTest (fOp oLt (fSG 0 Src.left) (fC (.int 2)))) (fTest (fOp oGt (fSLen 0) (fC (.int 0))))))
noncomputable def bPick2 : Fn Src Out := (fSeq (fSet 2 (fSG 0 Src.left))
  (fSeq (fIfS (fOr (fTest (fOp oLt (fVar 1) (fC (.int 2)))) (fTest (fOp oGt (fVar 2) (fC (.int 1))))) (fSeq (fSPut 0 stL (fOp oDiv (fVar 2) (fCal (oD oMax2) (fCons (fC (.int 1)) (fCons (fVar 1) fNil)))))
  (fRet none (fOp oMod (fCal (oD oInt) (fCons (fVar 2) fNil)) (fCal (oD oMax2) (fCons (fC (.int 1)) (fCons (fVar 1) fNil)))))) fNx)
  (fSeq (fSPut 0 stT (fOp oAdd (fSG 0 Src.turn) (fC (.int 1))))
  (fSeq (fSet 3 (fOp oMod (fCal (oD oInt) (fCons (fOp oAdd (fSG 0 Src.mixed) (fOp oMul (fSG 0 Src.turn) (fC (.int 104729)))) fNil)) (fC (.int 998244353))))
  (fSeq (fSet 3 (fOp oMod (fCal (oD oInt) (fCons (fOp oAdd (fOp oMul (fVar 3) (fVar 3)) (fOp oMul (fSG 0 Src.turn) (fC (.int 17)))) fNil)) (fC (.int 2147483647))))
  (fSeq (fSPut 0 stMx (fVar 3))
  (fRet none (fOp oMod (fCal (oD oInt) (fCons (fOp oDiv (fVar 3) (fC (.int 16))) fNil)) (fVar 1)))))))))
theorem f_pick_eq : f__law_pick = fSeq (fWh cPick bPick1 1000) bPick2 := rfl
theorem pick_loop {k : Int} : ∀ (fuel : Nat) (s : Src), s.cells.length < fuel → Good s → ∃ s', fWh cPick bPick1 fuel [.src, .im (.int k), .no, .no] s = some (.nx [.src, .im (.int k), .no, .no], s') ∧ Good s'
  | 0, s, h, _ => absurd h (Nat.not_lt_zero _)
  | fuel + 1, s, h, g => by
    by_cases c : 1 < k ∧ s.left < 2 ∧ 0 < s.cells.length
    · have hc : cPick [.src, .im (.int k), .no, .no] s = some (true, s) := by
        simp [cPick, c.1, c.2.1]
        exact c.2.2
      obtain ⟨x, hx⟩ : ∃ x, s.cells.getLast? = some x := by
        cases e : s.cells.getLast? with
        | none =>
          rw [List.getLast?_eq_none_iff] at e
          have := c.2.2
          rw [e] at this
          simp at this
        | some x => exact ⟨x, rfl⟩
      have hb : bPick1 [.src, .im (.int k), .no, .no] s = some (.nx [.src, .im (.int k), .no, .no], { s with cells := s.cells.dropLast, left := x }) := by
        simp [bPick1, hx, stL]
      have hxm : x ∈ s.cells := List.mem_of_getLast? hx
      have g' : Good { s with cells := s.cells.dropLast, left := x } := ⟨fun y hy => g.cells y (List.dropLast_subset _ hy), by
        show s.cells.dropLast.length ≤ 63
        rw [List.length_dropLast]
        have := g.few
        omega, g.cells x hxm⟩
      obtain ⟨s', e, g''⟩ := pick_loop fuel { s with cells := s.cells.dropLast, left := x } (by
        show s.cells.dropLast.length < fuel
        rw [List.length_dropLast]
        omega) g'
      refine ⟨s', ?_, g''⟩
      rw [fWh, hc]
      simp only [bnd_s, if_true, hb]
      exact e
    · have hc : cPick [.src, .im (.int k), .no, .no] s = some (false, s) := by
        by_cases a : 1 < k
        · by_cases b : s.left < 2
          · have d : ¬ 0 < s.cells.length := fun z => c ⟨a, b, z⟩
            have d' : s.cells = [] := List.length_eq_zero_iff.1 (by omega)
            simp [cPick, a, b, d']
          · simp [cPick, a, b]
        · simp [cPick, a]
      refine ⟨s, ?_, g⟩
      rw [fWh, hc]
      simp
theorem pick_spec {s : Src} (g : Good s) {k : Int} (h1 : 1 ≤ k) (h2 : k ≤ 1000) : ∃ v s', m__law_pick s [.im (.int k)] = some (.im (.int v), s') ∧ 0 ≤ v ∧ v < k ∧ Good s' := by
  obtain ⟨s1, e, g1⟩ := pick_loop (k := k) 1000 s (by have := g.few; omega) g
  have hmax : (if k > 1 then k else (1 : Int)) = k := by split <;> omega
  by_cases c : k < 2 ∨ 1 < s1.left
  · refine ⟨s1.left % k, { s1 with left := s1.left / k }, ?_, Int.emod_nonneg _ (by omega), Int.emod_lt_of_pos _ (by omega), g1.cells, g1.few, Int.ediv_nonneg g1.left (by omega)⟩
    have hd := oDiv_pos (i := s1.left) (j := k) (by omega) (by omega)
    have hm := oMod_pos (i := s1.left) (j := k) (by omega)
    have hor : bPick2 [.src, .im (.int k), .no, .no] s1 = some (.rt (.im (.int (s1.left % k))), { s1 with left := s1.left / k }) := by
      rcases c with c | c
      · have : k = 1 := by omega
        subst this
        simp [bPick2, hd, hm, stL]
      · by_cases c2 : k < 2
        · simp [bPick2, c, c2, hmax, hd, hm, stL]
        · have hmax' : (if 1 < k then k else (1 : Int)) = k := hmax
          simp [bPick2, c, c2, hmax', hd, hm, stL]
    show outS (f__law_pick (.src :: rho0 3 [.im (.int k)]) s) = _
    rw [f_pick_eq]
    have er : (C.src :: rho0 3 [.im (.int k)]) = [.src, .im (.int k), .no, .no] := rfl
    rw [er, fSeq_ev, e]
    simp only [bnd_s, hor]
    rfl
  · have c1 : ¬ k < 2 := fun z => c (.inl z)
    have c2 : ¬ 1 < s1.left := fun z => c (.inr z)
    have m1 := oMul_small (i := s1.turn + 1) (j := 104729) (by decide) (by decide)
    have m2 := oMod_pos (i := s1.mixed + (s1.turn + 1) * 104729) (j := 998244353) (by decide)
    have b1 : 0 ≤ (s1.mixed + (s1.turn + 1) * 104729) % 998244353 := Int.emod_nonneg _ (by decide)
    have b2 : (s1.mixed + (s1.turn + 1) * 104729) % 998244353 < 998244353 := Int.emod_lt_of_pos _ (by decide)
    generalize (s1.mixed + (s1.turn + 1) * 104729) % 998244353 = x at m2 b1 b2
    have m3 := oMul_small (i := x) (j := x) (by omega) (by omega)
    have m4 := oMul_small (i := s1.turn + 1) (j := 17) (by decide) (by decide)
    have m5 := oMod_pos (i := x * x + (s1.turn + 1) * 17) (j := 2147483647) (by decide)
    generalize (x * x + (s1.turn + 1) * 17) % 2147483647 = y at m5
    have m6 := oDiv_pos (i := y) (j := 16) (by decide) (by decide)
    have m7 := oMod_pos (i := y / 16) (j := k) (by omega)
    refine ⟨y / 16 % k, { s1 with turn := s1.turn + 1, mixed := y }, ?_, Int.emod_nonneg _ (by omega), Int.emod_lt_of_pos _ (by omega), g1.cells, g1.few, g1.left⟩
    have hor : bPick2 [.src, .im (.int k), .no, .no] s1 = some (.rt (.im (.int (y / 16 % k))), { s1 with turn := s1.turn + 1, mixed := y }) := by
      simp [bPick2, c1, c2, stT, stMx, m1, m2, m3, m4, m5, m6, m7]
    show outS (f__law_pick (.src :: rho0 3 [.im (.int k)]) s) = _
    rw [f_pick_eq]
    have er : (C.src :: rho0 3 [.im (.int k)]) = [.src, .im (.int k), .no, .no] := rfl
    rw [er, fSeq_ev, e]
    simp only [bnd_s, hor]
    rfl
theorem pick_nat {s : Src} (g : Good s) {k : Nat} (h1 : 1 ≤ k) (h2 : k ≤ 1000) : ∃ (v : Nat) (s' : Src), m__law_pick s [.im (.int (k : Int))] = some (.im (.int (v : Int)), s') ∧ v < k ∧ Good s' := by
  obtain ⟨v, s', e, a, b, g'⟩ := pick_spec g (k := (k : Int)) (by omega) (by omega)
  refine ⟨v.toNat, s', ?_, by omega, g'⟩
  rw [e, Int.toNat_of_nonneg a]
/-- a drawn one of some rows -/
theorem of_spec {s : Src} (g : Good s) {rs : List (List Int)} (h1 : rs ≠ []) (h2 : rs.length ≤ 1000) : ∃ (i : Nat) (hi : i < rs.length) (s' : Src), m__law_of s [.lst ((rs.map iT).map M.im)] = some (.im (iT rs[i]), s') ∧ Good s' := by
  obtain ⟨v, s', e, hv, g'⟩ := pick_nat g (k := rs.length) (List.length_pos_iff.2 h1) h2
  refine ⟨v, hv, s', ?_, g'⟩
  have ea : atI ((rs.map iT).map M.im) (v : Int) = some (M.im (iT rs[v])) := by
    rw [List.map_map, atI_map hv]
    rfl
  show outS (f__law_of (.src :: rho0 1 [.lst ((rs.map iT).map M.im)]) s) = _
  simp [f__law_of, e, ea, -List.map_map]
  rfl
theorem frame_roads {n : Nat} (hn : 1 ≤ n) (hn4 : n ≤ 4) : ∀ (l : List Nat) (s : Src), Good s → ∃ (rs : List (Nat × Nat)) (s' : Src), lcL (gfN 3) fYes (fTup (fCons (fCallS 1 m__law_pick (fCons (fVar 0) (fCons (fVar 2) fNil))) (fCons (fCallS 1 m__law_pick (fCons (fVar 0) (fCons (fVar 2) fNil))) fNil))) [.src, .im (.int 7), .im (.int (n : Int)), .no] (l.map natD) s = some ((rs.map rdD).map M.im, s') ∧ Good s' ∧ rs.length = l.length ∧ ∀ p ∈ rs, p.1 < n ∧ p.2 < n
  | [], s, g => ⟨[], s, rfl, g, rfl, fun _ h => nomatch h⟩
  | i :: l, s, g => by
    obtain ⟨a, s1, e1, ha, g1⟩ := pick_nat g (k := n) hn (by omega)
    obtain ⟨b, s2, e2, hb, g2⟩ := pick_nat g1 (k := n) hn (by omega)
    obtain ⟨rs, s3, e3, g3, hl, hp⟩ := frame_roads hn hn4 l s2 g2
    refine ⟨(a, b) :: rs, s3, ?_, g3, by simp [hl], fun p hp' => ?_⟩
    · rw [List.map_cons, lcL]
      have eg : gfN 3 (natD i) [.src, .im (.int 7), .im (.int (n : Int)), .no] = some [.src, .im (.int 7), .im (.int (n : Int)), .im (natD i)] := rfl
      rw [eg]
      simp [e1, e2, e3, -List.map_map]
      rfl
    · rcases List.mem_cons.1 hp' with rfl | h
      · exact ⟨ha, hb⟩
      · exact hp p h
theorem frame_spec {s : Src} (g : Good s) : ∃ n rs s', m__law_frame s [.im (.int 7)] = some (.im (frD n rs), s') ∧ Fr n rs ∧ Good s' := by
  obtain ⟨a, s1, e1, ha, g1⟩ := pick_nat g (k := 4) (by decide) (by decide)
  obtain ⟨m, s2, e2, hm, g2⟩ := pick_nat g1 (k := 7) (by decide) (by decide)
  obtain ⟨rs, s3, e3, g3, hl, hp⟩ := frame_roads (n := 1 + a) (by omega) (by omega) (List.range (1 + m)) s2 g2
  rw [List.length_range] at hl
  refine ⟨1 + a, rs, s3, ?_, ⟨by omega, by omega, by omega, by omega, hp⟩, g3⟩
  have sm : smI ((1 : Int) + (m : Int)) = true := by unfold smI; simp; omega
  have et : ((1 : Int) + (m : Int)).toNat = 1 + m := by omega
  have sz : szOk (1 + m) = true := szOk_m (by omega)
  have en : ((1 + a : Nat) : Int) = 1 + (a : Int) := by omega
  rw [en] at e3
  have e1 : m__law_pick s [.im (.int 4)] = some (.im (.int (a : Int)), s1) := e1
  have e2 : m__law_pick s1 [.im (.int 7)] = some (.im (.int (m : Int)), s2) := e2
  show outS (f__law_frame (.src :: rho0 3 [.im (.int 7)]) s) = _
  simp [f__law_frame, e1, e2, sm, et, rng_nat, sz, e3, -List.map_map]
  rfl
end K96
end

section
set_option Elab.async false
set_option linter.all false
set_option maxRecDepth 100000
set_option maxHeartbeats 4000000
/-! the law, plain -/
namespace K96
open PySem Pl L2
theorem seq_s {S : Type} {f g : Fn S Out} {ρ ρ1 : Rho} {s s1 : S} {r : Option (Out × S)} (h : f ρ s = some (.nx ρ1, s1)) (k : g ρ1 s1 = r) : fSeq f g ρ s = r := seq_nx h k
theorem ifS_no {S : Type} {fc : Fn S Bool} {f : Fn S Out} {ρ : Rho} {s s1 : S} (h : fc ρ s = some (false, s1)) : fIfS fc f fNx ρ s = some (.nx ρ, s1) := by
  rw [fIfS_ev, h]
  rfl
theorem rowsW_sl (j : Nat) (rs : List (List Int)) : rowsW (.sl j (.lst ((rs.map iT).map M.im))) = some rs := by
  unfold rowsW
  rw [isLst_sl, if_pos rfl, seqD_sl, allIm_map, Option.bind_some, rowsD_rows]
theorem range_filter {α : Type} (L : List α) (p : α → Bool) : ((List.range L.length).filterMap fun i => if (L[i]?.map p).getD false then L[i]? else none) = L.filter p := by
  induction L with
  | nil => rfl
  | cons x L ih =>
    rw [List.length_cons, List.range_succ_eq_map, List.filterMap_cons, List.filterMap_map, List.filter_cons]
    have e : (fun i => if (((x :: L)[i]?.map p).getD false) = true then (x :: L)[i]? else none) ∘ Nat.succ = fun i => if (L[i]?.map p).getD false then L[i]? else none := by
      funext i
      show (if (((x :: L)[i + 1]?.map p).getD false) = true then (x :: L)[i + 1]? else none) = _
      rw [List.getElem?_cons_succ]
    rw [e, ih]
    cases h : p x <;> simp [h]
/-- L's members by their places -/
theorem pick_filter {α β : Type} (L : List α) (d : α) (p : α → Bool) (f : α → β) : ((List.range L.length).filter fun i => p (L.getD i d)).map (fun i => f (L.getD i d)) = (L.filter p).map f := by
  induction L with
  | nil => rfl
  | cons x L ih =>
    rw [List.length_cons, List.range_succ_eq_map, List.filter_cons, List.filter_map, List.filter_cons]
    have e : ((fun i => p ((x :: L).getD i d)) ∘ Nat.succ) = fun i => p (L.getD i d) := by
      funext i; rfl
    rw [e]
    have ih2 : List.map (fun i => f ((x :: L).getD i d)) (List.map Nat.succ (List.filter (fun i => p (L.getD i d)) (List.range L.length))) = (L.filter p).map f := by
      rw [List.map_map]
      exact ih
    have e0 : p ((x :: L).getD 0 d) = p x := rfl
    rw [e0]
    cases h : p x
    · rw [if_neg (by simp), if_neg (by simp)]
      exact ih2
    · rw [if_pos rfl, if_pos rfl, List.map_cons, List.map_cons, ih2]
      rfl
theorem dedI_one (ns : List Int) : (dedI ns).length = 1 ↔ ns ≠ [] ∧ ∀ x ∈ ns, ∀ y ∈ ns, x = y := by
  have mem : ∀ k, k ∈ dedI ns ↔ k ∈ ns := fun k => by
    have q := PyProof.Rows.firstMet_any (fun i => ns.getD i 0) ns.length k
    have e : (List.range ns.length).map (fun i => ns.getD i 0) = ns := by
      refine List.ext_getElem (by simp) fun i h1 h2 => ?_
      simp [List.getD_eq_getElem?_getD, h2]
    rw [e] at q
    rw [Bool.eq_iff_iff, List.any_eq_true, List.any_eq_true] at q
    simp at q
    exact q
  have nd : (dedI ns).Nodup := by
    unfold dedI
    have gen : ∀ j, (PyProof.Rows.firstMet (fun i => ns.getD i 0) j).Nodup := fun j => by
      induction j with
      | zero => exact List.nodup_nil
      | succ j ih =>
        rw [PyProof.Rows.firstMet_succ]
        unfold PyProof.Rows.step_dedup
        split
        · exact ih
        · rename_i h
          refine List.nodup_append.2 ⟨ih, List.nodup_cons.2 ⟨List.not_mem_nil, List.nodup_nil⟩, fun x hx y hy e => h ?_⟩
          rw [List.mem_singleton] at hy
          rw [List.any_eq_true]
          exact ⟨x, hx, by rw [e, hy]; exact beq_self_eq_true _⟩
    exact gen _
  constructor
  · intro h
    obtain ⟨a, ha⟩ := List.length_eq_one_iff.1 h
    refine ⟨fun z => ?_, fun x hx y hy => ?_⟩
    · have : a ∈ ns := (mem a).1 (by rw [ha]; exact List.mem_cons_self)
      rw [z] at this
      cases this
    · have h1 := (mem x).2 hx
      have h2 := (mem y).2 hy
      rw [ha, List.mem_singleton] at h1 h2
      rw [h1, h2]
  · rintro ⟨h1, h2⟩
    cases e : dedI ns with
    | nil =>
      cases ns with
      | nil => exact absurd rfl h1
      | cons x ns =>
        have := (mem x).2 List.mem_cons_self
        rw [e] at this
        cases this
    | cons a l =>
      cases l with
      | nil => rfl
      | cons b l =>
        exfalso
        have ha := (mem a).1 (by rw [e]; exact List.mem_cons_self)
        have hb := (mem b).1 (by rw [e]; exact List.mem_cons_of_mem _ List.mem_cons_self)
        have := h2 a ha b hb
        rw [e, this] at nd
        exact (List.nodup_cons.1 nd).1 List.mem_cons_self
@[simp] theorem fLenSet_ev {S : Type} (fe : Fn S W) (ρ : Rho) (s : S) : fLenSet fe ρ s = bnd (fe ρ s) fun w s1 => if isLst w = true then match seqI w with
  | some ns => if ns.length ≤ 4000 then some (.im (.int ((dedI ns).length : Nat)), s1) else none
  | none => none else none := rfl
@[simp] theorem fReprL_ev {S : Type} (fs : Fn S (List W)) (ρ : Rho) (s : S) : fReprL fs ρ s = bnd (fs ρ s) fun ws s1 => if szOk ws.length = true then match (args ws).bind M.pys with
  | some ds => if shOk (.list ds) = true then some (.im (.str (PyData.list ds).shown), s1) else none
  | none => none else none := rfl
section
variable {n : Nat} {rs : List (Nat × Nat)} {t : List Int}
theorem ro_smallP (F : Fr n rs) (g : Tg rs t) : smallP (ro n rs t) := by
  refine ⟨by rw [ro_len]; have := F.n4; omega, fun k hk => ?_⟩
  rw [ro_oc g.len] at hk
  obtain ⟨c, _, rfl⟩ := List.mem_map.1 hk
  have := oc_le rs.length (tl rs t) c
  have := F.m7
  omega
theorem tg_smallP (F : Fr n rs) (g : Tg rs t) : smallP t := by
  refine ⟨by rw [g.len]; have := F.m7; omega, fun k hk => ?_⟩
  have := g.bit k hk
  omega
/-- all rows of outs, turning by turning -/
def outsL (n : Nat) (rs : List (Nat × Nat)) : List Row := (marks rs.length).map (ro n rs)
theorem setOk_outs (F : Fr n rs) : SetOk (outsL n rs) := by
  refine ⟨⟨n, F.n1, fun r hr => ?_⟩, ?_⟩
  · obtain ⟨t, ht, rfl⟩ := List.mem_map.1 hr
    refine ⟨ro_len .., fun k hk => ?_⟩
    have g := mark_tg ht
    rw [ro_oc g.len] at hk
    obtain ⟨c, _, rfl⟩ := List.mem_map.1 hk
    have := oc_le rs.length (tl rs t) c
    have := F.m7
    omega
  · have q := card_all F (dedT (outsL n rs)) (nodup_dedT _) fun r hr => by
      obtain ⟨t, ht, e⟩ := List.mem_map.1 (mem_dedT.1 hr)
      exact ⟨t, ht, e⟩
    omega
theorem rows_same (F : Fr n rs) {R : List Row} (h : Rws n rs R) : srtT R = srtT (dedT (outsL n rs)) := by
  refine srtT_of ((srtT_perm R).trans ((List.perm_ext_iff_of_nodup h.nd (nodup_dedT _)).2 fun r => ?_)) (srtT_pw R)
  rw [h.mem, mem_dedT]
  exact ⟨fun ⟨t, ht, e⟩ => List.mem_map.2 ⟨t, ht, e⟩, fun hr => by
    obtain ⟨t, ht, e⟩ := List.mem_map.1 hr
    exact ⟨t, ht, e⟩⟩
end
end K96
end

section
set_option Elab.async false
set_option linter.all false
set_option maxRecDepth 100000
set_option maxHeartbeats 4000000
namespace K96
open PySem Pl L2
section
variable {n : Nat} {rs : List (Nat × Nat)} {t u : List Int}
/-- the turnings with the same outs -/
def same (n : Nat) (rs : List (Nat × Nat)) (t : List Int) : List (List Int) := (marks rs.length).filter fun t' => decide (ro n rs t' = ro n rs t)
def mkR (L : List (List Int)) : M := .lst ((L.map iT).map M.im)
theorem at_rows {L : List (List Int)} {i : Nat} (h : i < L.length) : atI ((L.map iT).map M.im) (i : Int) = some (M.im (iT L[i])) := by
  rw [List.map_map, atI_map h]
  rfl
theorem marks_few (F : Fr n rs) : (marks rs.length).length ≤ 128 := by
  rw [marks_len]
  exact Nat.pow_le_pow_right (i := rs.length) (j := 7) (by decide) F.m7
theorem marks_pos (m : Nat) : 1 ≤ (marks m).length := by
  rw [marks_len]
  exact Nat.one_le_two_pow
/-- outs of all turnings -/
theorem s5_lc (F : Fr n rs) (s : Src) (tail : List C) (ht : tail.length = 13) : lcL (S := Src) (gfN 6) fYes (fCall 2 m__law_outs (fCons (fVar 2) (fCons (fVar 6) fNil))) (.no :: .src :: .im (frD n rs) :: .im (.int (rs.length : Int)) :: .own (mkR (marks rs.length)) :: .no :: .no :: tail) ((marks rs.length).map iT) s = some (((outsL n rs).map iT).map M.im, s) := by
  have q := lc_all (S := Src) (fg := gfN 6) (ft := fYes) (fe := fCall 2 m__law_outs (fCons (fVar 2) (fCons (fVar 6) fNil))) (ρ := .no :: .src :: .im (frD n rs) :: .im (.int (rs.length : Int)) :: .own (mkR (marks rs.length)) :: .no :: .no :: tail) (s := s)
    iT (fun _ => true) (fun t => M.im (iT (ro n rs t))) (marks rs.length) (fun t ht => by
      have lo := lawouts_spec F (mark_tg ht)
      refine ⟨.no :: .src :: .im (frD n rs) :: .im (.int (rs.length : Int)) :: .own (mkR (marks rs.length)) :: .no :: .im (iT t) :: tail, ?_, rfl, fun _ => ⟨.im (iT (ro n rs t)), ?_, rfl⟩⟩
      · simp
      · simp [lo])
  rw [filter_true] at q
  rw [q]
  unfold outsL
  rw [List.map_map, List.map_map]
  rfl
theorem outs_at (n : Nat) (rs : List (Nat × Nat)) {i : Nat} (h : i < (marks rs.length).length) : atI (((outsL n rs).map iT).map M.im) (i : Int) = some (M.im (iT (ro n rs (marks rs.length)[i]))) := by
  have h2 : i < (outsL n rs).length := by unfold outsL; rw [List.length_map]; exact h
  rw [at_rows h2]
  simp [outsL]
theorem s9_lc (F : Fr n rs) {k : Nat} (hk : k < (marks rs.length).length) (s : Src) (c0 c1 c2 c3 c6 c8 c9 : C) (tail : List C) : lcL (S := Src) (gfN 10) (fTest (fOp oEq (fIx (fVar 5) (fVar 10)) (fIx (fVar 5) (fVar 7)))) (fIx (fVar 4) (fVar 10)) (c0 :: c1 :: c2 :: c3 :: .own (mkR (marks rs.length)) :: .own (mkR (outsL n rs)) :: c6 :: .im (.int (k : Int)) :: c8 :: c9 :: .no :: tail) ((List.range (marks rs.length).length).map natD) s = some (((same n rs (marks rs.length)[k]).map iT).map M.im, s) := by
  have q := lc_all (S := Src) (fg := gfN 10) (ft := fTest (fOp oEq (fIx (fVar 5) (fVar 10)) (fIx (fVar 5) (fVar 7)))) (fe := fIx (fVar 4) (fVar 10)) (ρ := c0 :: c1 :: c2 :: c3 :: .own (mkR (marks rs.length)) :: .own (mkR (outsL n rs)) :: c6 :: .im (.int (k : Int)) :: c8 :: c9 :: .no :: tail) (s := s)
    natD (fun i => (fun t' => decide (ro n rs t' = ro n rs (marks rs.length)[k])) ((marks rs.length).getD i [])) (fun i => M.im (iT ((marks rs.length).getD i []))) (List.range (marks rs.length).length) (fun i hi => by
      have hi := List.mem_range.1 hi
      have a1 := outs_at n rs hi
      have a2 := outs_at n rs hk
      have a3 := at_rows hi
      have eg : (marks rs.length).getD i [] = (marks rs.length)[i] := by simp [List.getD_eq_getElem?_getD, hi]
      have ee := oEq_R (isR_iT (ro n rs (marks rs.length)[i])) (isR_iT (ro n rs (marks rs.length)[k]))
      rw [eg]
      refine ⟨c0 :: c1 :: c2 :: c3 :: .own (mkR (marks rs.length)) :: .own (mkR (outsL n rs)) :: c6 :: .im (.int (k : Int)) :: c8 :: c9 :: .im (.int (i : Int)) :: tail, ?_, ?_, fun _ => ⟨.im (iT (marks rs.length)[i]), ?_, rfl⟩⟩
      · simp [natD]
      · simp [mkR, a1, a2, ee, -List.map_map]
      · simp [mkR, a3, -List.map_map])
  rw [q, pick_filter (marks rs.length) [] (fun t' => decide (ro n rs t' = ro n rs (marks rs.length)[k])) fun t' => M.im (iT t')]
  unfold same
  rw [List.map_map]
  rfl
theorem same_mem {t' : List Int} : t' ∈ same n rs t ↔ t' ∈ marks rs.length ∧ ro n rs t' = ro n rs t := by
  unfold same
  rw [List.mem_filter, decide_eq_true_iff]
/-- the stiff roads, as the law tells them -/
theorem s12_lc (F : Fr n rs) (g : Tg rs t) {lw : Nat → List Nat} (L : Led n rs t lw) (s : Src) (c0 c1 c2 c3 c4 c5 c7 c8 c10 c11 c12 : C) (tail : List C) : lcL (S := Src) (gfN 13) (fTest (fOp oEq (fLenSet (fLc (xList (fVar 9)) (gfN 6) fYes (fIx (fVar 6) (fVar 13)) [6])) (fC (.int 1)))) (fVar 13) (c0 :: c1 :: c2 :: c3 :: c4 :: c5 :: .no :: c7 :: c8 :: .own (mkR (same n rs t)) :: c10 :: c11 :: c12 :: .no :: tail) ((List.range rs.length).map natD) s = some (natL ((List.range rs.length).filter (stf rs (prts lw n))), s) := by
  have hfew := marks_few F
  have hsl : (same n rs t).length ≤ 128 := Nat.le_trans (List.length_filter_le ..) hfew
  have sz : szOk ((same n rs t).map iT).length = true := szOk_m (by rw [List.length_map]; omega)
  have tin : t ∈ same n rs t := same_mem.2 ⟨tg_mark g, rfl⟩
  have q := lc_all (S := Src) (fg := gfN 13) (ft := fTest (fOp oEq (fLenSet (fLc (xList (fVar 9)) (gfN 6) fYes (fIx (fVar 6) (fVar 13)) [6])) (fC (.int 1)))) (fe := fVar 13) (ρ := c0 :: c1 :: c2 :: c3 :: c4 :: c5 :: .no :: c7 :: c8 :: .own (mkR (same n rs t)) :: c10 :: c11 :: c12 :: .no :: tail) (s := s)
    natD (stf rs (prts lw n)) (fun c => intM (c : Int)) (List.range rs.length) (fun r hr => by
      have hr := List.mem_range.1 hr
      have inner := lc_all (S := Src) (fg := gfN 6) (ft := fYes) (fe := fIx (fVar 6) (fVar 13)) (ρ := c0 :: c1 :: c2 :: c3 :: c4 :: c5 :: .no :: c7 :: c8 :: .own (mkR (same n rs t)) :: c10 :: c11 :: c12 :: .im (.int (r : Int)) :: tail) (s := s)
        iT (fun _ => true) (fun t' => intM (at0 t' r)) (same n rs t) (fun t' ht' => by
          have g' := mark_tg (same_mem.1 ht').1
          refine ⟨c0 :: c1 :: c2 :: c3 :: c4 :: c5 :: .im (iT t') :: c7 :: c8 :: .own (mkR (same n rs t)) :: c10 :: c11 :: c12 :: .im (.int (r : Int)) :: tail, by simp, rfl, fun _ => ⟨.im (.int (at0 t' r)), ?_, rfl⟩⟩
          simp [atI_at0 (show r < t'.length by rw [g'.len]; exact hr)])
      rw [filter_true, map_ints] at inner
      have hone : decide (((dedI ((same n rs t).map fun t' => at0 t' r)).length : Int) = 1) = stf rs (prts lw n) r := by
        rw [Bool.eq_iff_iff, decide_eq_true_iff, stf_all F g L hr]
        have : (((dedI ((same n rs t).map fun t' => at0 t' r)).length : Int) = 1) ↔ (dedI ((same n rs t).map fun t' => at0 t' r)).length = 1 := by omega
        rw [this, dedI_one]
        constructor
        · rintro ⟨_, h⟩ t' g' e
          exact h _ (List.mem_map.2 ⟨t', same_mem.2 ⟨tg_mark g', e⟩, rfl⟩) _ (List.mem_map.2 ⟨t, tin, rfl⟩)
        · intro h
          refine ⟨fun z => ?_, fun x hx y hy => ?_⟩
          · have := List.map_eq_nil_iff.1 z
            rw [this] at tin
            cases tin
          · obtain ⟨a, ha, rfl⟩ := List.mem_map.1 hx
            obtain ⟨b, hb, rfl⟩ := List.mem_map.1 hy
            rw [h a (mark_tg (same_mem.1 ha).1) (same_mem.1 ha).2, h b (mark_tg (same_mem.1 hb).1) (same_mem.1 hb).2]
      refine ⟨c0 :: c1 :: c2 :: c3 :: c4 :: c5 :: .no :: c7 :: c8 :: .own (mkR (same n rs t)) :: c10 :: c11 :: c12 :: .im (.int (r : Int)) :: tail, by simp [natD], ?_, fun _ => ⟨.im (.int (r : Int)), by simp, rfl⟩⟩
      rw [← hone]
      have sl : ((same n rs t).map fun t' => at0 t' r).length ≤ 4000 := by rw [List.length_map]; omega
      simp only [List.length_map] at sz
      simp [mkR, sz, -List.map_map] at inner ⊢
      rw [inner]
      have si := seqI_new ((same n rs t).map fun t' => at0 t' r)
      simp only [List.length_map] at sl
      simp [si, sl, oEq_int, -List.map_map])
  rw [q]
  unfold natL nI intM
  simp
end
end K96
end

section
set_option Elab.async false
set_option linter.all false
set_option maxRecDepth 100000
set_option maxHeartbeats 8000000
namespace K96
open PySem Pl L2
theorem set_told {n : Nat} {o : List Int} (hl : o.length = n) {c : Nat} (hc : c < n) (x : Int) {i : Nat} (hi : i < n) : at0 (o.set c x) i = if i = c then x else at0 o i := by
  rw [at0_at (by rw [List.length_set, hl]; exact hi), List.getElem_set]
  by_cases h : c = i
  · rw [if_pos h, if_pos h.symm]
  · rw [if_neg h, if_neg fun z => h z.symm, at0_at (by rw [hl]; exact hi)]
theorem rings_loop {n : Nat} {rs : List (Nat × Nat)} {t : List Int} (g : Tg rs t) (F : Fr n rs) (fs : List (D × List Nat)) (hf : ∀ p ∈ fs, IsR p.1 (nI p.2)) (s : Src) (hd : List C) (hl : hd.length = 14) (tail : List C) (c15 : C) :
    ∃ c15', forL (gfN 15) (fSet 14 (fCall 2 m_turned_roads (fCons (fVar 14) (fCons (fVar 15) fNil)))) (fs.map (·.1)) (hd ++ .im (iT t) :: c15 :: tail) s = some (.nx (hd ++ .im (iT ((fs.map (·.2)).foldl flp t)) :: c15' :: tail), s) := by
  obtain ⟨ρ', e, c15', rfl⟩ := for_pre (fg := gfN 15) (f := fSet 14 (fCall 2 m_turned_roads (fCons (fVar 14) (fCons (fVar 15) fNil)))) (s := s) (ρ := hd ++ .im (iT t) :: c15 :: tail) (fun p : D × List Nat => p.1)
    (fun pre ρ => ∃ c15, ρ = hd ++ .im (iT ((pre.map (·.2)).foldl flp t)) :: c15 :: tail) fs ⟨c15, rfl⟩ (fun pre x suf ρ hx ⟨c15, hρ⟩ => by
      subst hρ
      have hxm : x ∈ fs := by rw [hx]; exact List.mem_append_right _ List.mem_cons_self
      have hlen : ∀ (Qs : List (List Nat)) (t : List Int), (Qs.foldl flp t).length = t.length := fun Qs => by
        induction Qs with
        | nil => exact fun _ => rfl
        | cons Q Qs ih => exact fun t => by rw [List.foldl_cons, ih, flp_len]
      have et := turned_spec (t := (pre.map (·.2)).foldl flp t) (R := x.2) (d := x.1) (by rw [hlen, g.len]; have := F.m7; omega) (hf x hxm)
      refine ⟨hd ++ .im (iT ((pre.map (·.2)).foldl flp t)) :: .im x.1 :: tail, hd ++ .im (iT (flp ((pre.map (·.2)).foldl flp t) x.2)) :: .im x.1 :: tail, ?_, ?_, .im x.1, ?_⟩
      · have h15 : 15 < 14 + (tail.length + 1 + 1) := by omega
        simp [hl, List.set_append, h15]
      · simp [hl, List.getElem?_append, et, List.set_append]
      · rw [List.map_append, List.foldl_append]
        rfl)
  exact ⟨c15', e⟩
theorem plain_law : ∀ zs : List Int, zs.length ≤ 63 → ∃ s, K96.f_law (Pl.noC 18) (Pl.srcOf zs) = some (.rt (.im (.bl true)), s) := by
  intro zs hz
  obtain ⟨n, rs, s1, e1, F, g1⟩ := frame_spec (good_src hz)
  have h4 := F.n4
  have h7 := F.m7
  have hm1 := F.m1
  have mf := marks_few F
  have mp := marks_pos rs.length
  obtain ⟨k, s2, e2, hk, g2⟩ := pick_nat g1 (k := (marks rs.length).length) mp (by omega)
  have g : Tg rs (marks rs.length)[k] := mark_tg (List.getElem_mem hk)
  have tin : (marks rs.length)[k] ∈ same n rs (marks rs.length)[k] := same_mem.2 ⟨List.getElem_mem hk, rfl⟩
  have hsl : (same n rs (marks rs.length)[k]).length ≤ 128 := Nat.le_trans (List.length_filter_le ..) mf
  obtain ⟨i, hi, s3, e3, g3⟩ := of_spec g2 (rs := same n rs (marks rs.length)[k]) (fun z => by rw [z] at tin; cases tin) (by omega)
  have hu := List.getElem_mem hi
  obtain ⟨hu1, hu2⟩ := same_mem.1 hu
  have gu := mark_tg hu1
  obtain ⟨r, s4, e4, hr, g4⟩ := pick_nat g3 (k := rs.length) hm1 (by omega)
  obtain ⟨c, s5, e5, hc, g5⟩ := pick_nat g4 (k := n) F.n1 (by omega)
  obtain ⟨a, s6, e6, ha, g6⟩ := pick_nat g5 (k := 3) (by decide) (by decide)
  obtain ⟨d, s7, e7, hd, g7⟩ := pick_nat g6 (k := n) F.n1 (by omega)
  obtain ⟨b, s8, e8, hb, g8⟩ := pick_nat g7 (k := 3) (by decide) (by decide)
  -- told outs
  have ol : (ro n rs (marks rs.length)[k]).length = n := ro_len ..
  have oa : ∀ x, x < n → at0 (ro n rs (marks rs.length)[k]) x = (oc rs.length (tl rs (marks rs.length)[k]) x : Int) := fun x hx => ro_at g hx
  -- told outs
  have od := outs_at n rs hk
  obtain ⟨w1, hw1⟩ : ∃ w1, w1 = (ro n rs (marks rs.length)[k]).set c (at0 (ro n rs (marks rs.length)[k]) c + (a : Int) - 1) := ⟨_, rfl⟩
  have l1 : w1.length = n := by rw [hw1, List.length_set, ol]
  obtain ⟨w2, hw2⟩ : ∃ w2, w2 = w1.set d (at0 w1 d + (b : Int) - 1) := ⟨_, rfl⟩
  have l2 : w2.length = n := by rw [hw2, List.length_set, l1]
  have T : Told n w2 := by
    refine ⟨l2, fun x hx => ?_⟩
    have b1 : ∀ x, x < n → -1 ≤ at0 w1 x ∧ at0 w1 x ≤ 8 := fun x hx => by
      rw [hw1, set_told ol hc _ hx]
      have o1 := oc_le rs.length (tl rs (marks rs.length)[k]) x
      have o2 := oc_le rs.length (tl rs (marks rs.length)[k]) c
      rw [oa c hc, oa x hx]
      split <;> omega
    rw [hw2, set_told l1 hd _ hx]
    have q1 := b1 x hx
    have q2 := b1 d hd
    split <;> omega
  have e6 : m__law_pick s5 [.im (.int 3)] = some (.im (.int (a : Int)), s6) := e6
  have e8 : m__law_pick s7 [.im (.int 3)] = some (.im (.int (b : Int)), s8) := e8
  obtain ⟨lw, L⟩ := led_all F g
  -- the program's own answers
  obtain ⟨R, erows, hR⟩ := rows_spec F
  have same_rows := rows_same F hR
  have szm : szOk (marks rs.length).length = true := szOk_m (by omega)
  have smm : smI ((marks rs.length).length : Int) = true := smI_nat (by omega)
  have szr : szOk rs.length = true := szOk_m (by omega)
  have smr : smI (rs.length : Int) = true := smI_nat (by omega)
  obtain ⟨fs, efs, hfs, hperm⟩ := rings_spec F g gu hu2.symm
  have hlate : (fs.map fun p : D × List Nat => p.2).foldl flp (marks rs.length)[k] = (same n rs (marks rs.length)[k])[i] := by
    have nd : ([] ++ (fs.map fun p : D × List Nat => p.2).flatten).Nodup := by
      rw [List.nil_append]
      exact hperm.nodup_iff.2 (dif_nodup ..)
    have q := fold_flp (fs.map fun p : D × List Nat => p.2) [] (marks rs.length)[k] nd
    rw [flp_nil, List.nil_append] at q
    rw [q]
    exact flp_dif g gu hperm
  obtain ⟨ep, epap, ejudge⟩ := stiff_judged F g hr
  obtain ⟨po, epo, hpo⟩ := paper_spec F T
  have ejo := judge_outs_spec F T hpo
  refine ⟨s8, ?_⟩
  show f_law [.no, .src, .no, .no, .no, .no, .no, .no, .no, .no, .no, .no, .no, .no, .no, .no, .no, .no, .no, .no] (srcOf zs) = _
  unfold f_law
  refine seq_s (ρ1 := [.no, .src, .im (frD n rs), .no, .no, .no, .no, .no, .no, .no, .no, .no, .no, .no, .no, .no, .no, .no, .no, .no]) (s1 := s1) (by
    simp [e1]) ?_
  refine seq_s (ρ1 := [.no, .src, .im (frD n rs), .im (.int (rs.length : Int)), .no, .no, .no, .no, .no, .no, .no, .no, .no, .no, .no, .no, .no, .no, .no, .no]) (s1 := s1) (by
    simp) ?_
  refine seq_s (ρ1 := [.no, .src, .im (frD n rs), .im (.int (rs.length : Int)), .own (mkR (marks rs.length)), .no, .no, .no, .no, .no, .no, .no, .no, .no, .no, .no, .no, .no, .no, .no]) (s1 := s1) (by
    have q := marks_spec h7
    simp [q, mkR, -List.map_map]) ?_
  refine seq_s (ρ1 := [.no, .src, .im (frD n rs), .im (.int (rs.length : Int)), .own (mkR (marks rs.length)), .own (mkR (outsL n rs)), .no, .no, .no, .no, .no, .no, .no, .no, .no, .no, .no, .no, .no, .no]) (s1 := s1) (by
    have q := s5_lc F s1 [.no, .no, .no, .no, .no, .no, .no, .no, .no, .no, .no, .no, .no] rfl
    have al : seqD (.sl 4 (mkR (marks rs.length))) = some ((marks rs.length).map iT) := allIm_map _
    have il : isLst (.sl 4 (mkR (marks rs.length))) = true := rfl
    simp [al, il, szm, q, -List.map_map]
    rfl) ?_
  refine seq_s (ρ1 := [.no, .src, .im (frD n rs), .im (.int (rs.length : Int)), .own (mkR (marks rs.length)), .own (mkR (outsL n rs)), .no, .no, .no, .no, .no, .no, .no, .no, .no, .no, .no, .no, .no, .no]) (s1 := s1) (by
    refine ifS_no ?_
    have sok := setOk_outs F
    have rw5 : rowsW (.sl 5 (mkR (outsL n rs))) = some (outsL n rs) := rowsW_sl 5 _
    have hsm : ∀ x ∈ srtT R, smallP x := fun x hx => by
      obtain ⟨t, ht, rfl⟩ := (hR.mem x).1 ((srtT_perm R).mem_iff.1 hx)
      exact ro_smallP F (mark_tg ht)
    have hRl := hR.few F
    obtain ⟨rp, rsh⟩ := repr_rows hsm (by rw [(srtT_perm R).length_eq]; omega)
    have ss : fSortSet (fVar 5) [.no, .src, .im (frD n rs), .im (.int (rs.length : Int)), .own (mkR (marks rs.length)), .own (mkR (outsL n rs)), .no, .no, .no, .no, .no, .no, .no, .no, .no, .no, .no, .no, .no, .no] s1 = some (.new (.lst (((srtT R).map iT).map M.im)), s1) := by
      unfold fSortSet
      simp [rw5, sok, same_rows]
    have ne := oNe_shown rsh
    simp [erows, rp, ss, ne, -List.map_map]) ?_
  refine seq_s (ρ1 := [.no, .src, .im (frD n rs), .im (.int (rs.length : Int)), .own (mkR (marks rs.length)), .own (mkR (outsL n rs)), .no, .im (.int (k : Int)), .no, .no, .no, .no, .no, .no, .no, .no, .no, .no, .no, .no]) (s1 := s2) (by
    have ln : lenW (.sl 4 (mkR (marks rs.length))) = some (marks rs.length).length := by
      show some (((marks rs.length).map iT).map M.im).length = _
      rw [List.length_map, List.length_map]
    simp [ln, e2]) ?_
  refine seq_s (ρ1 := [.no, .src, .im (frD n rs), .im (.int (rs.length : Int)), .own (mkR (marks rs.length)), .own (mkR (outsL n rs)), .no, .im (.int (k : Int)), .im (iT (marks rs.length)[k]), .no, .no, .no, .no, .no, .no, .no, .no, .no, .no, .no]) (s1 := s2) (by
    have q := at_rows (L := marks rs.length) hk
    have il : itemW (.sl 4 (mkR (marks rs.length))) (k : Int) = some (.im (iT (marks rs.length)[k])) := by
      show (atI (((marks rs.length).map iT).map M.im) (k : Int)).map (ofIx (W.sl 4)) = _
      rw [q]; rfl
    simp [il]) ?_
  refine seq_s (ρ1 := [.no, .src, .im (frD n rs), .im (.int (rs.length : Int)), .own (mkR (marks rs.length)), .own (mkR (outsL n rs)), .no, .im (.int (k : Int)), .im (iT (marks rs.length)[k]), .own (mkR (same n rs (marks rs.length)[k])), .no, .no, .no, .no, .no, .no, .no, .no, .no, .no]) (s1 := s2) (by
    have q := s9_lc F hk s2 .no .src (.im (frD n rs)) (.im (.int (rs.length : Int))) .no (.im (iT (marks rs.length)[k])) .no [.no, .no, .no, .no, .no, .no, .no, .no, .no]
    have ln : lenW (.sl 4 (mkR (marks rs.length))) = some (marks rs.length).length := by
      show some (((marks rs.length).map iT).map M.im).length = _
      rw [List.length_map, List.length_map]
    simp [ln, smm, szm, rng_nat, q, -List.map_map]
    rfl) ?_
  refine seq_s (ρ1 := [.no, .src, .im (frD n rs), .im (.int (rs.length : Int)), .own (mkR (marks rs.length)), .own (mkR (outsL n rs)), .no, .im (.int (k : Int)), .im (iT (marks rs.length)[k]), .own (mkR (same n rs (marks rs.length)[k])), .no, .im (iT (same n rs (marks rs.length)[k])[i]), .no, .no, .no, .no, .no, .no, .no, .no]) (s1 := s3) (by
    have e3' : m__law_of s2 [mkR (same n rs (marks rs.length)[k])] = _ := e3
    have ar : args [W.sl 9 (mkR (same n rs (marks rs.length)[k]))] = some [mkR (same n rs (marks rs.length)[k])] := args_sl ..
    simp [ar, e3']) ?_
  refine seq_s (ρ1 := [.no, .src, .im (frD n rs), .im (.int (rs.length : Int)), .own (mkR (marks rs.length)), .own (mkR (outsL n rs)), .no, .im (.int (k : Int)), .im (iT (marks rs.length)[k]), .own (mkR (same n rs (marks rs.length)[k])), .no, .im (iT (same n rs (marks rs.length)[k])[i]), .no, .no, .no, .no, .no, .no, .no, .no]) (s1 := s3) (by
    refine ifS_no ?_
    have eo := outs_spec F g
    have rp := repr_R (isR_iT (ro n rs (marks rs.length)[k])) (ro_smallP F g)
    have sh := (sh_ints (ro_smallP F g)).1
    have ne := oNe_shown sh
    have il : itemW (.sl 5 (mkR (outsL n rs))) (k : Int) = some (.im (iT (ro n rs (marks rs.length)[k]))) := by
      show (atI (((outsL n rs).map iT).map M.im) (k : Int)).map (ofIx (W.sl 5)) = _
      rw [od]; rfl
    simp [eo, rp, il, ne, -List.map_map]) ?_
  refine seq_s (ρ1 := [.no, .src, .im (frD n rs), .im (.int (rs.length : Int)), .own (mkR (marks rs.length)), .own (mkR (outsL n rs)), .no, .im (.int (k : Int)), .im (iT (marks rs.length)[k]), .own (mkR (same n rs (marks rs.length)[k])), .no, .im (iT (same n rs (marks rs.length)[k])[i]), .no, .no, .no, .no, .no, .no, .no, .no]) (s1 := s3) (by
    refine ifS_no ?_
    have il : itemW (.sl 5 (mkR (outsL n rs))) (k : Int) = some (.im (iT (ro n rs (marks rs.length)[k]))) := by
      show (atI (((outsL n rs).map iT).map M.im) (k : Int)).map (ofIx (W.sl 5)) = _
      rw [od]; rfl
    have h0 : ∀ x, x < n → 0 ≤ at0 (ro n rs (marks rs.length)[k]) x := fun x hx => by rw [oa x hx]; omega
    have ec := count_spec F (o := ro n rs (marks rs.length)[k]) ol h0
    have ea := all_spec F (o := ro n rs (marks rs.length)[k]) ol h0
    rw [show ((marks rs.length).filter fun t => decide (ro n rs t = ro n rs (marks rs.length)[k])) = same n rs (marks rs.length)[k] from rfl] at ec ea
    have ps : ∀ c : Int, M.pys [.im (.int c), .lst (((same n rs (marks rs.length)[k]).map iT).map M.im)] = some [.int c, .list ((same n rs (marks rs.length)[k]).map fun r => (iT r).py)] := fun c => by
      have p1 := py_lst ((same n rs (marks rs.length)[k]).map iT)
      rw [show ((same n rs (marks rs.length)[k]).map iT).map D.py = (same n rs (marks rs.length)[k]).map fun r => (iT r).py by rw [List.map_map]; rfl] at p1
      show (match M.py (.im (.int c)), M.pys [.lst (((same n rs (marks rs.length)[k]).map iT).map M.im)] with | some p, some ps => some (p :: ps) | _, _ => none) = _
      show (match some (PyData.int c), (match M.py (.lst (((same n rs (marks rs.length)[k]).map iT).map M.im)), M.pys [] with | some p, some ps => some (p :: ps) | _, _ => none) with | some p, some ps => some (p :: ps) | _, _ => none) = _
      rw [p1]
      rfl
    have sh := sh_pair (c := ((same n rs (marks rs.length)[k]).length : Int)) (rs := same n rs (marks rs.length)[k]) (by omega) (by omega) (fun x hx => tg_smallP F (mark_tg (same_mem.1 hx).1)) (by omega)
    have ok := shOk_of sh (by omega)
    have ne := oNe_shown sh
    have ar : args [W.im (.int ((same n rs (marks rs.length)[k]).length : Int)), W.sl 9 (mkR (same n rs (marks rs.length)[k]))] = some [.im (.int ((same n rs (marks rs.length)[k]).length : Int)), .lst (((same n rs (marks rs.length)[k]).map iT).map M.im)] := by
      rw [args_im, args_sl]; rfl
    have ln : lenW (.sl 9 (mkR (same n rs (marks rs.length)[k]))) = some (same n rs (marks rs.length)[k]).length := by
      show some (((same n rs (marks rs.length)[k]).map iT).map M.im).length = _
      rw [List.length_map, List.length_map]
    simp [il, ec, ea, ps, ok, ne, ar, ln, -List.map_map, -args_sl]) ?_
  refine seq_s (ρ1 := [.no, .src, .im (frD n rs), .im (.int (rs.length : Int)), .own (mkR (marks rs.length)), .own (mkR (outsL n rs)), .no, .im (.int (k : Int)), .im (iT (marks rs.length)[k]), .own (mkR (same n rs (marks rs.length)[k])), .no, .im (iT (same n rs (marks rs.length)[k])[i]), .im (iT (nI ((List.range rs.length).filter (stf rs (prts lw n))))), .no, .no, .no, .no, .no, .no, .no]) (s1 := s3) (by
    have q := s12_lc F g L s3 .no .src (.im (frD n rs)) (.im (.int (rs.length : Int))) (.own (mkR (marks rs.length))) (.own (mkR (outsL n rs))) (.im (.int (k : Int))) (.im (iT (marks rs.length)[k])) .no (.im (iT (same n rs (marks rs.length)[k])[i])) .no [.no, .no, .no, .no, .no, .no]
    have ot : oTuple [.new (.lst (natL ((List.range rs.length).filter (stf rs (prts lw n)))))] = some (.im (iT (nI ((List.range rs.length).filter (stf rs (prts lw n)))))) := by
      rw [oTuple_ev]
      simp [natL, -List.map_map]
      rfl
    simp [smr, szr, rng_nat, q, ot, -List.map_map, -oTuple_ev]) ?_
  refine seq_s (ρ1 := [.no, .src, .im (frD n rs), .im (.int (rs.length : Int)), .own (mkR (marks rs.length)), .own (mkR (outsL n rs)), .no, .im (.int (k : Int)), .im (iT (marks rs.length)[k]), .own (mkR (same n rs (marks rs.length)[k])), .no, .im (iT (same n rs (marks rs.length)[k])[i]), .im (iT (nI ((List.range rs.length).filter (stf rs (prts lw n))))), .no, .no, .no, .no, .no, .no, .no]) (s1 := s3) (by
    refine ifS_no ?_
    have es := stiff_spec F L
    have hp : smallP (nI ((List.range rs.length).filter (stf rs (prts lw n)))) := by
      refine ⟨?_, fun x hx => ?_⟩
      · rw [nI_len]
        have := List.length_filter_le (stf rs (prts lw n)) (List.range rs.length)
        rw [List.length_range] at this
        omega
      · obtain ⟨y, hy, rfl⟩ := List.mem_map.1 hx
        have := List.mem_range.1 (List.mem_filter.1 hy).1
        omega
    have rp := repr_R (isR_iT _) hp
    have ne := oNe_shown (sh_ints hp).1
    simp [es, rp, ne, -List.map_map]) ?_
  refine seq_s (ρ1 := [.no, .src, .im (frD n rs), .im (.int (rs.length : Int)), .own (mkR (marks rs.length)), .own (mkR (outsL n rs)), .no, .im (.int (k : Int)), .im (iT (marks rs.length)[k]), .own (mkR (same n rs (marks rs.length)[k])), .no, .im (iT (same n rs (marks rs.length)[k])[i]), .im (iT (nI ((List.range rs.length).filter (stf rs (prts lw n))))), .im (.int (r : Int)), .no, .no, .no, .no, .no, .no]) (s1 := s4) (by
    simp [e4]) ?_
  refine seq_s (ρ1 := [.no, .src, .im (frD n rs), .im (.int (rs.length : Int)), .own (mkR (marks rs.length)), .own (mkR (outsL n rs)), .no, .im (.int (k : Int)), .im (iT (marks rs.length)[k]), .own (mkR (same n rs (marks rs.length)[k])), .no, .im (iT (same n rs (marks rs.length)[k])[i]), .im (iT (nI ((List.range rs.length).filter (stf rs (prts lw n))))), .im (.int (r : Int)), .no, .no, .no, .no, .no, .no]) (s1 := s4) (by
    refine ifS_no ?_
    simp [epap, ejudge]) ?_
  refine seq_s (ρ1 := [.no, .src, .im (frD n rs), .im (.int (rs.length : Int)), .own (mkR (marks rs.length)), .own (mkR (outsL n rs)), .no, .im (.int (k : Int)), .im (iT (marks rs.length)[k]), .own (mkR (same n rs (marks rs.length)[k])), .no, .im (iT (same n rs (marks rs.length)[k])[i]), .im (iT (nI ((List.range rs.length).filter (stf rs (prts lw n))))), .im (.int (r : Int)), .im (iT (marks rs.length)[k]), .no, .no, .no, .no, .no]) (s1 := s4) (by
    simp) ?_
  obtain ⟨c15, eloop⟩ := rings_loop g F fs hfs s4 [.no, .src, .im (frD n rs), .im (.int (rs.length : Int)), .own (mkR (marks rs.length)), .own (mkR (outsL n rs)), .no, .im (.int (k : Int)), .im (iT (marks rs.length)[k]), .own (mkR (same n rs (marks rs.length)[k])), .no, .im (iT (same n rs (marks rs.length)[k])[i]), .im (iT (nI ((List.range rs.length).filter (stf rs (prts lw n))))), .im (.int (r : Int))] rfl [.no, .no, .no, .no] .no
  rw [hlate] at eloop
  refine seq_s (ρ1 := [.no, .src, .im (frD n rs), .im (.int (rs.length : Int)), .own (mkR (marks rs.length)), .own (mkR (outsL n rs)), .no, .im (.int (k : Int)), .im (iT (marks rs.length)[k]), .own (mkR (same n rs (marks rs.length)[k])), .no, .im (iT (same n rs (marks rs.length)[k])[i]), .im (iT (nI ((List.range rs.length).filter (stf rs (prts lw n))))), .im (.int (r : Int)), .im (iT (same n rs (marks rs.length)[k])[i]), c15, .no, .no, .no, .no]) (s1 := s4) (by
    simp only [List.cons_append, List.nil_append] at eloop
    simp [efs, eloop]) ?_
  refine seq_s (ρ1 := [.no, .src, .im (frD n rs), .im (.int (rs.length : Int)), .own (mkR (marks rs.length)), .own (mkR (outsL n rs)), .no, .im (.int (k : Int)), .im (iT (marks rs.length)[k]), .own (mkR (same n rs (marks rs.length)[k])), .no, .im (iT (same n rs (marks rs.length)[k])[i]), .im (iT (nI ((List.range rs.length).filter (stf rs (prts lw n))))), .im (.int (r : Int)), .im (iT (same n rs (marks rs.length)[k])[i]), c15, .no, .no, .no, .no]) (s1 := s4) (by
    refine ifS_no ?_
    have ne := oNe_R (isR_iT (same n rs (marks rs.length)[k])[i]) (isR_iT (same n rs (marks rs.length)[k])[i])
    simp [ne]) ?_
  refine seq_s (ρ1 := [.no, .src, .im (frD n rs), .im (.int (rs.length : Int)), .own (mkR (marks rs.length)), .own (mkR (outsL n rs)), .no, .im (.int (k : Int)), .im (iT (marks rs.length)[k]), .own (mkR (same n rs (marks rs.length)[k])), .no, .im (iT (same n rs (marks rs.length)[k])[i]), .im (iT (nI ((List.range rs.length).filter (stf rs (prts lw n))))), .im (.int (r : Int)), .im (iT (same n rs (marks rs.length)[k])[i]), c15, .own (.lst (((ro n rs (marks rs.length)[k]).map D.int).map M.im)), .no, .no, .no]) (s1 := s4) (by
    have il : itemW (.sl 5 (mkR (outsL n rs))) (k : Int) = some (.im (iT (ro n rs (marks rs.length)[k]))) := by
      show (atI (((outsL n rs).map iT).map M.im) (k : Int)).map (ofIx (W.sl 5)) = _
      rw [od]; rfl
    simp [il, -List.map_map]) ?_
  refine seq_s (ρ1 := [.no, .src, .im (frD n rs), .im (.int (rs.length : Int)), .own (mkR (marks rs.length)), .own (mkR (outsL n rs)), .no, .im (.int (k : Int)), .im (iT (marks rs.length)[k]), .own (mkR (same n rs (marks rs.length)[k])), .no, .im (iT (same n rs (marks rs.length)[k])[i]), .im (iT (nI ((List.range rs.length).filter (stf rs (prts lw n))))), .im (.int (r : Int)), .im (iT (same n rs (marks rs.length)[k])[i]), c15, .own (.lst (((ro n rs (marks rs.length)[k]).map D.int).map M.im)), .im (.int (c : Int)), .no, .no]) (s1 := s5) (by
    simp [e5]) ?_
  refine seq_s (ρ1 := [.no, .src, .im (frD n rs), .im (.int (rs.length : Int)), .own (mkR (marks rs.length)), .own (mkR (outsL n rs)), .no, .im (.int (k : Int)), .im (iT (marks rs.length)[k]), .own (mkR (same n rs (marks rs.length)[k])), .no, .im (iT (same n rs (marks rs.length)[k])[i]), .im (iT (nI ((List.range rs.length).filter (stf rs (prts lw n))))), .im (.int (r : Int)), .im (iT (same n rs (marks rs.length)[k])[i]), c15, .own (.lst ((w1.map D.int).map M.im)), .im (.int (c : Int)), .no, .no]) (s1 := s6) (by
    have il : itemW (.sl 16 (.lst (((ro n rs (marks rs.length)[k]).map D.int).map M.im))) (c : Int) = some (.im (.int (at0 (ro n rs (marks rs.length)[k]) c))) := by
      rw [itemW_sl, atI_map (by rw [List.length_map, ol]; exact hc), at0_at (by rw [ol]; exact hc)]
      simp [ofIx]
    have ix : ixN n (c : Int) = some c := by
      unfold ixN
      rw [if_pos (by omega), if_pos (by omega)]
      rfl
    simp [il, e6, ol, ix, hw1, -List.map_map, -itemW_sl]) ?_
  refine seq_s (ρ1 := [.no, .src, .im (frD n rs), .im (.int (rs.length : Int)), .own (mkR (marks rs.length)), .own (mkR (outsL n rs)), .no, .im (.int (k : Int)), .im (iT (marks rs.length)[k]), .own (mkR (same n rs (marks rs.length)[k])), .no, .im (iT (same n rs (marks rs.length)[k])[i]), .im (iT (nI ((List.range rs.length).filter (stf rs (prts lw n))))), .im (.int (r : Int)), .im (iT (same n rs (marks rs.length)[k])[i]), c15, .own (.lst ((w1.map D.int).map M.im)), .im (.int (c : Int)), .im (.int (d : Int)), .no]) (s1 := s7) (by
    simp [e7]) ?_
  refine seq_s (ρ1 := [.no, .src, .im (frD n rs), .im (.int (rs.length : Int)), .own (mkR (marks rs.length)), .own (mkR (outsL n rs)), .no, .im (.int (k : Int)), .im (iT (marks rs.length)[k]), .own (mkR (same n rs (marks rs.length)[k])), .no, .im (iT (same n rs (marks rs.length)[k])[i]), .im (iT (nI ((List.range rs.length).filter (stf rs (prts lw n))))), .im (.int (r : Int)), .im (iT (same n rs (marks rs.length)[k])[i]), c15, .own (.lst ((w2.map D.int).map M.im)), .im (.int (c : Int)), .im (.int (d : Int)), .no]) (s1 := s8) (by
    have il : itemW (.sl 16 (.lst ((w1.map D.int).map M.im))) (d : Int) = some (.im (.int (at0 w1 d))) := by
      rw [itemW_sl, atI_map (by rw [List.length_map, l1]; exact hd), at0_at (by rw [l1]; exact hd)]
      simp [ofIx]
    have ix : ixN n (d : Int) = some d := by
      unfold ixN
      rw [if_pos (by omega), if_pos (by omega)]
      rfl
    simp [il, e8, l1, ix, hw2, -List.map_map, -itemW_sl]) ?_
  refine seq_s (ρ1 := [.no, .src, .im (frD n rs), .im (.int (rs.length : Int)), .own (mkR (marks rs.length)), .own (mkR (outsL n rs)), .no, .im (.int (k : Int)), .im (iT (marks rs.length)[k]), .own (mkR (same n rs (marks rs.length)[k])), .no, .im (iT (same n rs (marks rs.length)[k])[i]), .im (iT (nI ((List.range rs.length).filter (stf rs (prts lw n))))), .im (.int (r : Int)), .im (iT (same n rs (marks rs.length)[k])[i]), c15, .im (iT w2), .im (.int (c : Int)), .im (.int (d : Int)), .no]) (s1 := s8) (by
    simp [-List.map_map]
    rfl) ?_
  refine seq_s (ρ1 := [.no, .src, .im (frD n rs), .im (.int (rs.length : Int)), .own (mkR (marks rs.length)), .own (mkR (outsL n rs)), .no, .im (.int (k : Int)), .im (iT (marks rs.length)[k]), .own (mkR (same n rs (marks rs.length)[k])), .no, .im (iT (same n rs (marks rs.length)[k])[i]), .im (iT (nI ((List.range rs.length).filter (stf rs (prts lw n))))), .im (.int (r : Int)), .im (iT (same n rs (marks rs.length)[k])[i]), c15, .im (iT w2), .im (.int (c : Int)), .im (.int (d : Int)), .no]) (s1 := s8) (by
    refine ifS_no ?_
    simp [epo, ejo]) ?_
  rcases turning_with_spec F T with ⟨t2, g2', ro2, et2⟩ | ⟨et2, no2⟩
  · refine seq_s (ρ1 := [.no, .src, .im (frD n rs), .im (.int (rs.length : Int)), .own (mkR (marks rs.length)), .own (mkR (outsL n rs)), .no, .im (.int (k : Int)), .im (iT (marks rs.length)[k]), .own (mkR (same n rs (marks rs.length)[k])), .no, .im (iT (same n rs (marks rs.length)[k])[i]), .im (iT (nI ((List.range rs.length).filter (stf rs (prts lw n))))), .im (.int (r : Int)), .im (iT (same n rs (marks rs.length)[k])[i]), c15, .im (iT w2), .im (.int (c : Int)), .im (.int (d : Int)), .im (iT t2)]) (s1 := s8) (by
      simp [et2]) ?_
    refine seq_s (ρ1 := [.no, .src, .im (frD n rs), .im (.int (rs.length : Int)), .own (mkR (marks rs.length)), .own (mkR (outsL n rs)), .no, .im (.int (k : Int)), .im (iT (marks rs.length)[k]), .own (mkR (same n rs (marks rs.length)[k])), .no, .im (iT (same n rs (marks rs.length)[k])[i]), .im (iT (nI ((List.range rs.length).filter (stf rs (prts lw n))))), .im (.int (r : Int)), .im (iT (same n rs (marks rs.length)[k])[i]), c15, .im (iT w2), .im (.int (c : Int)), .im (.int (d : Int)), .im (iT t2)]) (s1 := s8) (by
      refine ifS_no ?_
      simp) ?_
    have hin := oIn_rows (.sl 4 (mkR (marks rs.length))) (marks rs.length) (.inr ⟨4, rfl⟩) false (isR_iT t2)
    rw [decide_eq_true (tg_mark g2')] at hin
    have lo := lawouts_spec F g2'
    rw [ro2] at lo
    have eq := oEq_R (isR_iT w2) (isR_iT w2)
    simp [hin, lo, eq]
  · refine seq_s (ρ1 := [.no, .src, .im (frD n rs), .im (.int (rs.length : Int)), .own (mkR (marks rs.length)), .own (mkR (outsL n rs)), .no, .im (.int (k : Int)), .im (iT (marks rs.length)[k]), .own (mkR (same n rs (marks rs.length)[k])), .no, .im (iT (same n rs (marks rs.length)[k])[i]), .im (iT (nI ((List.range rs.length).filter (stf rs (prts lw n))))), .im (.int (r : Int)), .im (iT (same n rs (marks rs.length)[k])[i]), c15, .im (iT w2), .im (.int (c : Int)), .im (.int (d : Int)), .im .non]) (s1 := s8) (by
      simp [et2]) ?_
    have hin := oIn_rows (.sl 5 (mkR (outsL n rs))) (outsL n rs) (.inr ⟨5, rfl⟩) true (isR_iT w2)
    have nm : w2 ∉ outsL n rs := fun z => by
      obtain ⟨t, ht, e⟩ := List.mem_map.1 z
      exact no2 t (mark_tg ht) e
    rw [decide_eq_false nm] at hin
    simp [hin]
end K96
end

section
set_option Elab.async false
set_option maxRecDepth 100000
open PySem PySem.W PyProof.Rows
set_option maxHeartbeats 0 in
theorem PySem.Challenge.cw_heightnets_k96_whole_turnings_holds : PySem.Challenge.rw_heightnets_k96_whole_turnings.Holds := by
  w_on; o_law; k_head; (case hw => w_witness2)
  k_fill
  refine Pl.walk_at (l := PySem.Challenge.rw_heightnets_k96_whole_turnings) (n := 63) (x := "script") (sp := fun w => Pl.spLaw _ K96.f_law 18) rfl (by decide) rfl (fun w h Y => PySem.W.kIn_of Y) ?F (fun _ _ a ns hl hS => let ⟨s, e⟩ := K96.plain_law ns hl; ⟨a, ns, s, rfl, hS, hl, e, fun _ => rfl⟩)
  case F =>
    intro w mg fa h KX G hmg
    refine' K96.all_mk KX G hmg ?a0 ?l0 ?e0 ?k0 ?a1 ?l1 ?e1 ?k1 ?a2 ?l2 ?e2 ?k2 ?a3 ?l3 ?e3 ?k3 ?a4 ?l4 ?e4 ?k4 ?a5 ?l5 ?e5 ?k5 ?a6 ?l6 ?e6 ?k6 ?a7 ?l7 ?e7 ?k7 ?a8 ?l8 ?e8 ?k8 ?a9 ?l9 ?e9 ?k9 ?a10 ?l10 ?e10 ?k10 ?a11 ?l11 ?e11 ?k11 ?a12 ?l12 ?e12 ?k12 ?a13 ?l13 ?e13 ?k13 ?a14 ?l14 ?e14 ?k14 ?a15 ?l15 ?e15 ?k15 ?a16 ?l16 ?e16 ?k16 ?a17 ?l17 ?e17 ?k17 ?a18 ?l18 ?e18 ?k18 ?a19 ?l19 ?e19 ?k19 ?a20 ?l20 ?e20 ?k20 ?a21 ?l21 ?e21 ?k21 ?a22 ?l22 ?e22 ?k22 ?a23 ?l23 ?e23 ?k23 ?a24 ?l24 ?e24 ?k24 ?a25 ?l25 ?e25 ?k25 ?a26 ?l26 ?e26 ?k26 ?a27 ?l27 ?e27 ?k27 ?a28 ?l28 ?e28 ?k28 ?a29 ?l29 ?e29 ?k29 ?a30 ?l30 ?e30 ?k30 ?a31 ?l31 ?e31 ?k31 ?a32 ?l32 ?e32 ?k32 ?a33 ?l33 ?e33 ?k33 ?a34 ?l34 ?e34 ?k34 ?a35 ?l35 ?e35 ?k35 ?a36 ?l36 ?e36 ?k36 ?a37 ?l37 ?e37 ?k37 ?n0 ?n1 ?z0 ?z1 ?z2 ?z3 ?z4 ?z5 ?z6 ?z7 ?z8 ?z9 ?z10 ?z11 ?z12 ?z13 ?z14 ?z15 ?z16 ?z17
    (case a0 => k_is); (case l0 => k_is); (case e0 => k_is); (case k0 => k_is)
    (case a1 => k_is); (case l1 => k_is); (case e1 => k_is); (case k1 => k_is)
    (case a2 => k_is); (case l2 => k_is); (case e2 => k_is); (case k2 => k_is)
    (case a3 => k_is); (case l3 => k_is); (case e3 => k_is); (case k3 => k_is)
    (case a4 => k_is); (case l4 => k_is); (case e4 => k_is); (case k4 => k_is)
    (case a5 => k_is); (case l5 => k_is); (case e5 => k_is); (case k5 => k_is)
    (case a6 => k_is); (case l6 => k_is); (case e6 => k_is); (case k6 => k_is)
    (case a7 => k_is); (case l7 => k_is); (case e7 => k_is); (case k7 => k_is)
    (case a8 => k_is); (case l8 => k_is); (case e8 => k_is); (case k8 => k_is)
    (case a9 => k_is); (case l9 => k_is); (case e9 => k_is); (case k9 => k_is)
    (case a10 => k_is); (case l10 => k_is); (case e10 => k_is); (case k10 => k_is)
    (case a11 => k_is); (case l11 => k_is); (case e11 => k_is); (case k11 => k_is)
    (case a12 => k_is); (case l12 => k_is); (case e12 => k_is); (case k12 => k_is)
    (case a13 => k_is); (case l13 => k_is); (case e13 => k_is); (case k13 => k_is)
    (case a14 => k_is); (case l14 => k_is); (case e14 => k_is); (case k14 => k_is)
    (case a15 => k_is); (case l15 => k_is); (case e15 => k_is); (case k15 => k_is)
    (case a16 => k_is); (case l16 => k_is); (case e16 => k_is); (case k16 => k_is)
    (case a17 => k_is); (case l17 => k_is); (case e17 => k_is); (case k17 => k_is)
    (case a18 => k_is); (case l18 => k_is); (case e18 => k_is); (case k18 => k_is)
    (case a19 => k_is); (case l19 => k_is); (case e19 => k_is); (case k19 => k_is)
    (case a20 => k_is); (case l20 => k_is); (case e20 => k_is); (case k20 => k_is)
    (case a21 => k_is); (case l21 => k_is); (case e21 => k_is); (case k21 => k_is)
    (case a22 => k_is); (case l22 => k_is); (case e22 => k_is); (case k22 => k_is)
    (case a23 => k_is); (case l23 => k_is); (case e23 => k_is); (case k23 => k_is)
    (case a24 => k_is); (case l24 => k_is); (case e24 => k_is); (case k24 => k_is)
    (case a25 => k_is); (case l25 => k_is); (case e25 => k_is); (case k25 => k_is)
    (case a26 => k_is); (case l26 => k_is); (case e26 => k_is); (case k26 => k_is)
    (case a27 => k_is); (case l27 => k_is); (case e27 => k_is); (case k27 => k_is)
    (case a28 => k_is); (case l28 => k_is); (case e28 => k_is); (case k28 => k_is)
    (case a29 => k_is); (case l29 => k_is); (case e29 => k_is); (case k29 => k_is)
    (case a30 => k_is); (case l30 => k_is); (case e30 => k_is); (case k30 => k_is)
    (case a31 => k_is); (case l31 => k_is); (case e31 => k_is); (case k31 => k_is)
    (case a32 => k_is); (case l32 => k_is); (case e32 => k_is); (case k32 => k_is)
    (case a33 => k_is); (case l33 => k_is); (case e33 => k_is); (case k33 => k_is)
    (case a34 => k_is); (case l34 => k_is); (case e34 => k_is); (case k34 => k_is)
    (case a35 => k_is); (case l35 => k_is); (case e35 => k_is); (case k35 => k_is)
    (case a36 => k_is); (case l36 => k_is); (case e36 => k_is); (case k36 => k_is)
    (case a37 => k_is); (case l37 => k_is); (case e37 => k_is); (case k37 => k_is)
    (case n0 => k_is); (case n1 => k_is)
    (case z0 => k_is); (case z1 => k_is); (case z2 => k_is); (case z3 => k_is); (case z4 => k_is); (case z5 => k_is); (case z6 => k_is); (case z7 => k_is); (case z8 => k_is); (case z9 => k_is); (case z10 => k_is); (case z11 => k_is); (case z12 => k_is); (case z13 => k_is); (case z14 => k_is); (case z15 => k_is); (case z16 => k_is); (case z17 => k_is)
end
