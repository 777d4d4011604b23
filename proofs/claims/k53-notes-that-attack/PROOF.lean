import PyProof.Rows.All
import HandS.ForMost
import HandS.IsInst
import HandS.TupAny
import HandS.Style
import HandS.Flow
import HandS.WordsDict
import KE.DataEq
import HandS.More
import HandS.SortInts
import HandS.Small
import HandS.SetFor
import HandS.Strs
import PySem.Challenge.RW_loregreat_k53_notes_that_attack
set_option Elab.async false
set_option linter.all false
set_option maxRecDepth 100000
/-! PyI: a small evaluator by value for the model's programs over plain data, and that it is right. Part A: values, states, frames. -/
namespace PyI
open PySem PySem.Spec L2

/-- who may do what with the list or dict in a slot: shared (read, handed on), owned (changed, handed on: then shared), lent (changed), borrowed (read), the script -/
inductive Stt | shr | own | lent | bor | scr
  deriving DecidableEq
abbrev Rho := List (Option (Stt × PyData))
/-- what an expression gives: data that is shared, a new list or dict, or the slot of a name -/
inductive Rs | kept (d : PyData) | fresh (d : PyData) | slot (i : Nat)
abbrev Mo (α : Type) := Rho → Option (α × Rho)

def keyD : Key → PyData
  | .inl i => .int i
  | .inr x => .str x

/-! ### data in the abstract heap -/
def KTup (K : PySem.W.Frag) (a : Addr) (vs : List V) : Prop :=
  ∃ (o : Obj) (its : Array Value) (n : Nat), K.lookup a = some o ∧ o.cls = .type "tuple" ∧ o.data = .seq its n ∧ its.size ≤ sizeLine ∧ Vals vs its.toList
def STup (K : PySem.W.Frag) (S : Addr → Prop) (H : Hp) (a : Addr) (vs : List V) : Prop := (S a ∧ H a = some (.tup vs)) ∨ KTup K a vs
mutual
inductive Rp (K : PySem.W.Frag) (S : Addr → Prop) (H : Hp) : V → PyData → Prop
  | non : Rp K S H .non .none
  | bl (b : Bool) : Rp K S H (.bl b) (.bool b)
  | int (i : Int) : Rp K S H (.int i) (.int i)
  | str (x : Str) : Rp K S H (.str x) (.str x)
  | tup {a : Addr} {vs : List V} {ds : List PyData} : STup K S H a vs → RpL K S H vs ds → Rp K S H (.ref a) (.tuple ds)
  | lst {a : Addr} {vs : List V} {ds : List PyData} : S a → H a = some (.lst vs) → RpL K S H vs ds → Rp K S H (.ref a) (.list ds)
  | dct {a : Addr} {ts : List (Key × V)} {kvs : List (PyData × PyData)} : S a → Rd H a (.dK ts) → kvs.map (·.1) = ts.map (fun p => keyD p.1) → RpL K S H (ts.map (·.2)) (kvs.map (·.2)) → Rp K S H (.ref a) (.dict kvs)
inductive RpL (K : PySem.W.Frag) (S : Addr → Prop) (H : Hp) : List V → List PyData → Prop
  | nil : RpL K S H [] []
  | cons {v : V} {vs : List V} {d : PyData} {ds : List PyData} : Rp K S H v d → RpL K S H vs ds → RpL K S H (v :: vs) (d :: ds)
end
section
variable {K : PySem.W.Frag} {S S' : Addr → Prop} {H H' : Hp}
/-- one heap behind another: what is shared stands -/
structure Uph (S : Addr → Prop) (H : Hp) (S' : Addr → Prop) (H' : Hp) : Prop where
  sh : ∀ a, S a → S' a
  at' : ∀ a o, S a → H a = some o → H' a = some o
theorem Uph.rd {a : Addr} {o : HO} (u : Uph S H S' H') (hs : S a) (h : Rd H a o) : Rd H' a o := by
  rcases h with h | ⟨ob, h⟩
  · exact .inl (u.at' a _ hs h)
  · exact .inr ⟨ob, u.at' a _ hs h⟩
theorem Uph.stup {a : Addr} {vs : List V} (u : Uph S H S' H') (h : STup K S H a vs) : STup K S' H' a vs := by
  rcases h with ⟨h1, h2⟩ | h
  · exact .inl ⟨u.sh a h1, u.at' a _ h1 h2⟩
  · exact .inr h
mutual
theorem Rp.up (u : Uph S H S' H') : ∀ {v : V} {d : PyData}, Rp K S H v d → Rp K S' H' v d
  | _, _, .non => .non
  | _, _, .bl b => .bl b
  | _, _, .int i => .int i
  | _, _, .str x => .str x
  | _, _, .tup h r => .tup (u.stup h) (RpL.up u r)
  | _, _, .lst hs h r => .lst (u.sh _ hs) (u.at' _ _ hs h) (RpL.up u r)
  | _, _, .dct hs h k r => .dct (u.sh _ hs) (u.rd hs h) k (RpL.up u r)
theorem RpL.up (u : Uph S H S' H') : ∀ {vs : List V} {ds : List PyData}, RpL K S H vs ds → RpL K S' H' vs ds
  | _, _, .nil => .nil
  | _, _, .cons h r => .cons (Rp.up u h) (RpL.up u r)
end
theorem Uph.refl : Uph S H S H := ⟨fun _ h => h, fun _ _ _ h => h⟩
theorem Uph.trans {S'' : Addr → Prop} {H'' : Hp} (a : Uph S H S' H') (b : Uph S' H' S'' H'') : Uph S H S'' H'' :=
  ⟨fun x h => b.sh x (a.sh x h), fun x o h e => b.at' x o (a.sh x h) (a.at' x o h e)⟩
theorem RpL.len : ∀ {vs : List V} {ds : List PyData}, RpL K S H vs ds → vs.length = ds.length
  | _, _, .nil => rfl
  | _, _, .cons _ r => by rw [List.length_cons, List.length_cons, r.len]
theorem RpL.get : ∀ {vs : List V} {ds : List PyData} {i : Nat} {d : PyData}, RpL K S H vs ds → ds[i]? = some d → ∃ v, vs[i]? = some v ∧ Rp K S H v d
  | _, _, _, _, .nil, e => by simp at e
  | _, _, 0, _, .cons h _, e => by simp at e; subst e; exact ⟨_, rfl, h⟩
  | _, _, i + 1, d, .cons _ r, e => by
    obtain ⟨v, h1, h2⟩ := RpL.get (i := i) (d := d) r (by simpa using e)
    exact ⟨v, by simpa using h1, h2⟩
theorem RpL.get' : ∀ {vs : List V} {ds : List PyData} {i : Nat} {v : V}, RpL K S H vs ds → vs[i]? = some v → ∃ d, ds[i]? = some d ∧ Rp K S H v d
  | _, _, _, _, .nil, e => by simp at e
  | _, _, 0, _, .cons h _, e => by simp at e; subst e; exact ⟨_, rfl, h⟩
  | _, _, i + 1, v, .cons _ r, e => by
    obtain ⟨d, h1, h2⟩ := RpL.get' (i := i) (v := v) r (by simpa using e)
    exact ⟨d, by simpa using h1, h2⟩
theorem RpL.app : ∀ {vs ws : List V} {ds es : List PyData}, RpL K S H vs ds → RpL K S H ws es → RpL K S H (vs ++ ws) (ds ++ es)
  | _, _, _, _, .nil, s => s
  | _, _, _, _, .cons h r, s => .cons h (RpL.app r s)
theorem RpL.take : ∀ {vs : List V} {ds : List PyData} (n : Nat), RpL K S H vs ds → RpL K S H (vs.take n) (ds.take n)
  | _, _, 0, _ => .nil
  | _, _, _ + 1, .nil => .nil
  | _, _, n + 1, .cons h r => .cons h (RpL.take n r)
theorem RpL.drop : ∀ {vs : List V} {ds : List PyData} (n : Nat), RpL K S H vs ds → RpL K S H (vs.drop n) (ds.drop n)
  | _, _, 0, r => r
  | _, _, _ + 1, .nil => .nil
  | _, _, n + 1, .cons _ r => RpL.drop n r
theorem RpL.set {v : V} {d : PyData} (h : Rp K S H v d) : ∀ {vs : List V} {ds : List PyData} (i : Nat), RpL K S H vs ds → RpL K S H (vs.set i v) (ds.set i d)
  | _, _, _, .nil => .nil
  | _, _, 0, .cons _ r => .cons h r
  | _, _, i + 1, .cons q r => .cons q (RpL.set h i r)
theorem RpL.erase : ∀ {vs : List V} {ds : List PyData} (i : Nat), RpL K S H vs ds → RpL K S H (vs.eraseIdx i) (ds.eraseIdx i)
  | _, _, _, .nil => .nil
  | _, _, 0, .cons _ r => r
  | _, _, i + 1, .cons q r => .cons q (RpL.erase i r)
theorem RpL.rev : ∀ {vs : List V} {ds : List PyData}, RpL K S H vs ds → RpL K S H vs.reverse ds.reverse
  | _, _, .nil => .nil
  | _, _, .cons h r => by
    rw [List.reverse_cons, List.reverse_cons]
    exact (RpL.rev r).app (.cons h .nil)
theorem RpL.ints : ∀ ns : List Int, RpL K S H (ns.map V.int) (ns.map PyData.int)
  | [] => .nil
  | n :: ns => .cons (.int n) (RpL.ints ns)
theorem RpL.strs : ∀ ns : List Str, RpL K S H (ns.map V.str) (ns.map PyData.str)
  | [] => .nil
  | n :: ns => .cons (.str n) (RpL.strs ns)
end

/-! ### what is read at the top of a value, and what may be changed -/
/-- the list or dict at a, as it stands (ex: not under a lock) -/
def TopX (K : PySem.W.Frag) (S : Addr → Prop) (H : Hp) (a : Addr) : PyData → Prop
  | .list ds => ∃ vs, H a = some (.lst vs) ∧ RpL K S H vs ds
  | .dict kvs => ∃ ts, H a = some (.dK ts) ∧ kvs.map (·.1) = ts.map (fun p => keyD p.1) ∧ RpL K S H (ts.map (·.2)) (kvs.map (·.2))
  | _ => False
/-- .. or under a lock -/
def TopR (K : PySem.W.Frag) (S : Addr → Prop) (H : Hp) (a : Addr) : PyData → Prop
  | .list ds => ∃ vs, H a = some (.lst vs) ∧ RpL K S H vs ds
  | .dict kvs => ∃ ts, Rd H a (.dK ts) ∧ kvs.map (·.1) = ts.map (fun p => keyD p.1) ∧ RpL K S H (ts.map (·.2)) (kvs.map (·.2))
  | _ => False
/-- the value v may be read as d -/
def Rdb (K : PySem.W.Frag) (S : Addr → Prop) (H : Hp) (v : V) (d : PyData) : Prop := Rp K S H v d ∨ ∃ a, v = .ref a ∧ TopR K S H a d
section
variable {K : PySem.W.Frag} {S S' : Addr → Prop} {H H' : Hp} {a : Addr} {d : PyData}
theorem TopX.r (h : TopX K S H a d) : TopR K S H a d := by
  cases d with
  | list ds => exact h
  | dict kvs => obtain ⟨ts, h1, h2⟩ := h; exact ⟨ts, .inl h1, h2⟩
  | _ => exact h
theorem TopX.there (h : TopX K S H a d) : H a ≠ none := by
  cases d with
  | list ds => obtain ⟨vs, h1, _⟩ := h; rw [h1]; simp
  | dict kvs => obtain ⟨ts, h1, _⟩ := h; rw [h1]; simp
  | _ => exact h.elim
theorem TopR.there (h : TopR K S H a d) : H a ≠ none := by
  cases d with
  | list ds => obtain ⟨vs, h1, _⟩ := h; rw [h1]; simp
  | dict kvs =>
    obtain ⟨ts, h1, _⟩ := h
    rcases h1 with h1 | ⟨o, h1⟩ <;> rw [h1] <;> simp
  | _ => exact h.elim
theorem TopX.up (u : Uph S H S' H') (e : ∀ o, H a = some o → H' a = some o) (h : TopX K S H a d) : TopX K S' H' a d := by
  cases d with
  | list ds => obtain ⟨vs, h1, h2⟩ := h; exact ⟨vs, e _ h1, h2.up u⟩
  | dict kvs => obtain ⟨ts, h1, h2, h3⟩ := h; exact ⟨ts, e _ h1, h2, h3.up u⟩
  | _ => exact h.elim
theorem TopR.up (u : Uph S H S' H') (e : ∀ o, H a = some o → H' a = some o) (h : TopR K S H a d) : TopR K S' H' a d := by
  cases d with
  | list ds => obtain ⟨vs, h1, h2⟩ := h; exact ⟨vs, e _ h1, h2.up u⟩
  | dict kvs =>
    obtain ⟨ts, h1, h2, h3⟩ := h
    refine ⟨ts, ?_, h2, h3.up u⟩
    rcases h1 with h1 | ⟨o, h1⟩
    · exact .inl (e _ h1)
    · exact .inr ⟨o, e _ h1⟩
  | _ => exact h.elim
/-- given away: it is shared from now on -/
theorem TopX.give (h : TopX K S H a d) : Rp K (fun b => S b ∨ b = a) H (.ref a) d := by
  have u : Uph S H (fun b => S b ∨ b = a) H := ⟨fun _ h => .inl h, fun _ _ _ h => h⟩
  cases d with
  | list ds => obtain ⟨vs, h1, h2⟩ := h; exact .lst (.inr rfl) h1 (h2.up u)
  | dict kvs => obtain ⟨ts, h1, h2, h3⟩ := h; exact .dct (.inr rfl) (.inl h1) h2 (h3.up u)
  | _ => exact h.elim
end

/-! ### the frame's state -/
def Stt.hold : Stt → Bool
  | .own => true | .lent => true | .bor => true | _ => false
def Stt.mut : Stt → Bool
  | .own => true | .lent => true | _ => false
def KLst (K : PySem.W.Frag) (H : Hp) (a : Addr) (ns : List Int) : Prop := SqL K H a (ns.map V.int) ∧ ((∃ o, H a = some (.frz o (.lst (ns.map V.int)))) ∨ ∀ H', SqL K H' a (ns.map V.int))
def SlotRep (K : PySem.W.Frag) (S : Addr → Prop) (H : Hp) (v : V) (d : PyData) : Stt → Prop
  | .shr => Rp K S H v d
  | .own => ∃ a, v = .ref a ∧ ¬ S a ∧ TopX K S H a d
  | .lent => ∃ a, v = .ref a ∧ ¬ S a ∧ TopX K S H a d
  | .bor => ∃ a, v = .ref a ∧ ¬ S a ∧ TopR K S H a d
  | .scr => ∃ a ns, v = .ref a ∧ d = .list (ns.map PyData.int) ∧ KLst K H a ns
/-- the object at a may change: an owned or lent slot holds it -/
def Mu (ρ : Rho) (σ : St) (a : Addr) : Prop := ∃ (i : Nat) (st : Stt) (d : PyData), ρ[i]? = some (some (st, d)) ∧ st.mut = true ∧ σ[i]? = some (some (V.ref a))
structure Gd (K : PySem.W.Frag) (S : Addr → Prop) (ρ : Rho) (σ : St) (H : Hp) : Prop where
  len : ρ.length = σ.length
  sl : ∀ (i : Nat) (st : Stt) (d : PyData), ρ[i]? = some (some (st, d)) → ∃ v, σ[i]? = some (some v) ∧ SlotRep K S H v d st
  ne : ∀ (i j : Nat) (a : Addr) (st : Stt) (d : PyData) (st' : Stt) (d' : PyData), ρ[i]? = some (some (st, d)) → ρ[j]? = some (some (st', d')) → st.hold = true → st'.hold = true → σ[i]? = some (some (V.ref a)) → σ[j]? = some (some (V.ref a)) → i = j
  al : ∀ a, S a → H a ≠ none
/-- how a state stands behind another one, the slots' values the same -/
structure Fm (S : Addr → Prop) (ρ : Rho) (σ : St) (H : Hp) (S' : Addr → Prop) (ρ' : Rho) (H' : Hp) : Prop where
  dom : ∀ a, H a ≠ none → H' a ≠ none
  keep : ∀ a o, H a = some o → ¬ Mu ρ σ a → H' a = some o
  sh : ∀ a, S a → S' a
  new : ∀ a, S' a → S a ∨ Mu ρ σ a ∨ H a = none
  len : ρ'.length = ρ.length
  non : ∀ i : Nat, ρ[i]? = some none → ρ'[i]? = some none
  sts : ∀ (i : Nat) (st : Stt) (d : PyData), ρ[i]? = some (some (st, d)) → ∃ st' d', ρ'[i]? = some (some (st', d')) ∧ (st' = st ∨ (st = .own ∧ st' = .shr)) ∧ (st.mut = false → d' = d)

section
variable {K : PySem.W.Frag} {S S' S'' : Addr → Prop} {ρ ρ' ρ'' : Rho} {σ : St} {H H' H'' : Hp} {a : Addr}
theorem Gd.notMu (g : Gd K S ρ σ H) (h : S a) : ¬ Mu ρ σ a := by
  rintro ⟨i, st, d, h1, h2, h3⟩
  obtain ⟨v, e, r⟩ := g.sl i st d h1
  rw [h3] at e; cases e
  cases st with
  | own => obtain ⟨b, e, n, _⟩ := r; cases e; exact n h
  | lent => obtain ⟨b, e, n, _⟩ := r; cases e; exact n h
  | _ => cases h2
theorem Mu.there (g : Gd K S ρ σ H) (h : Mu ρ σ a) : H a ≠ none := by
  obtain ⟨i, st, d, h1, h2, h3⟩ := h
  obtain ⟨v, e, r⟩ := g.sl i st d h1
  rw [h3] at e; cases e
  cases st with
  | own => obtain ⟨b, e, _, t⟩ := r; cases e; exact TopX.there t
  | lent => obtain ⟨b, e, _, t⟩ := r; cases e; exact TopX.there t
  | _ => cases h2
theorem Fm.up (g : Gd K S ρ σ H) (f : Fm S ρ σ H S' ρ' H') : Uph S H S' H' := ⟨f.sh, fun a o hs e => f.keep a o e (g.notMu hs)⟩
theorem Fm.refl : Fm S ρ σ H S ρ H := ⟨fun _ h => h, fun _ _ h _ => h, fun _ h => h, fun _ h => .inl h, rfl, fun _ h => h, fun i st d h => ⟨st, d, h, .inl rfl, fun _ => rfl⟩⟩
theorem Fm.back (f : Fm S ρ σ H S' ρ' H') {i : Nat} {st' : Stt} {d' : PyData} (h : ρ'[i]? = some (some (st', d'))) : ∃ st d, ρ[i]? = some (some (st, d)) ∧ (st' = st ∨ (st = .own ∧ st' = .shr)) ∧ (st.mut = false → d' = d) := by
  have hl := (List.getElem?_eq_some_iff.mp h).1
  rw [f.len] at hl
  cases e : ρ[i]? with
  | none => rw [List.getElem?_eq_none_iff] at e; omega
  | some x =>
    cases x with
    | none => have := f.non i e; rw [h] at this; cases this
    | some p =>
      obtain ⟨st, d⟩ := p
      obtain ⟨st2, d2, h2, h3, h4⟩ := f.sts i st d e
      rw [h] at h2; cases h2
      exact ⟨st, d, rfl, h3, h4⟩
theorem Fm.mu (f : Fm S ρ σ H S' ρ' H') (h : Mu ρ' σ a) : Mu ρ σ a := by
  obtain ⟨i, st', d', h1, h2, h3⟩ := h
  obtain ⟨st, d, e, q, _⟩ := f.back h1
  refine ⟨i, st, d, e, ?_, h3⟩
  rcases q with q | ⟨_, q⟩
  · rw [← q]; exact h2
  · rw [q] at h2; cases h2
theorem Fm.trans (f : Fm S ρ σ H S' ρ' H') (f' : Fm S' ρ' σ H' S'' ρ'' H'') : Fm S ρ σ H S'' ρ'' H'' where
  dom := fun a h => f'.dom a (f.dom a h)
  keep := fun a o e n => f'.keep a o (f.keep a o e n) fun m => n (f.mu m)
  sh := fun a h => f'.sh a (f.sh a h)
  new := fun a h => by
    rcases f'.new a h with h | h | h
    · exact f.new a h
    · exact .inr (.inl (f.mu h))
    · refine .inr (.inr ?_)
      cases e : H a with
      | none => rfl
      | some o => exact absurd h (f.dom a (by rw [e]; simp))
  len := f'.len.trans f.len
  non := fun i h => f'.non i (f.non i h)
  sts := fun i st d h => by
    obtain ⟨st1, d1, h1, q1, m1⟩ := f.sts i st d h
    obtain ⟨st2, d2, h2, q2, m2⟩ := f'.sts i st1 d1 h1
    refine ⟨st2, d2, h2, ?_, fun m => ?_⟩
    · rcases q1 with rfl | ⟨rfl, rfl⟩
      · exact q2
      · rcases q2 with rfl | ⟨q, _⟩
        · exact .inr ⟨rfl, rfl⟩
        · cases q
    · have hd := m1 m
      rcases q1 with rfl | ⟨rfl, rfl⟩
      · rw [m2 m, hd]
      · cases m
end

/-! ### the heap grows -/
/-- only new objects; some of them are shared -/
structure Gw (S : Addr → Prop) (H : Hp) (S' : Addr → Prop) (H' : Hp) : Prop where
  keep : ∀ a o, H a = some o → H' a = some o
  sh : ∀ a, S a → S' a
  new : ∀ a, S' a → S a ∨ H a = none
  al : ∀ a, S' a → H' a ≠ none
section
variable {K : PySem.W.Frag} {S S' S'' : Addr → Prop} {ρ ρ' ρ'' : Rho} {σ : St} {H H' H'' : Hp} {a : Addr}
theorem Gw.refl (al : ∀ a, S a → H a ≠ none) : Gw S H S H := ⟨fun _ _ h => h, fun _ h => h, fun _ h => .inl h, al⟩
theorem Gw.up (e : Gw S H S' H') : Uph S H S' H' := ⟨e.sh, fun a o _ h => e.keep a o h⟩
theorem Gw.dom (e : Gw S H S' H') (a : Addr) (h : H a ≠ none) : H' a ≠ none := by
  cases q : H a with
  | none => exact absurd q h
  | some o => rw [e.keep a o q]; simp
theorem Gw.trans (e : Gw S H S' H') (e' : Gw S' H' S'' H'') : Gw S H S'' H'' where
  keep := fun a o h => e'.keep a o (e.keep a o h)
  sh := fun a h => e'.sh a (e.sh a h)
  new := fun a h => by
    rcases e'.new a h with h | h
    · exact e.new a h
    · refine .inr ?_
      cases q : H a with
      | none => rfl
      | some o => rw [e.keep a o q] at h; cases h
  al := e'.al
theorem Gw.fr (e : Gw S H S' H') : Fm S ρ σ H S' ρ H' := ⟨e.dom, fun a o h _ => e.keep a o h, e.sh, fun a h => (e.new a h).imp_right .inr, rfl, fun _ h => h, fun i st d h => ⟨st, d, h, .inl rfl, fun _ => rfl⟩⟩
theorem KLst.keep {ns : List Int} (k : ∀ o, H a = some (.frz o (.lst (ns.map V.int))) → H' a = some (.frz o (.lst (ns.map V.int)))) (h : KLst K H a ns) : KLst K H' a ns := by
  obtain ⟨h1, h2 | h2⟩ := h
  · obtain ⟨o, h2⟩ := h2
    exact ⟨.inl (.inr ⟨o, k o h2⟩), .inl ⟨o, k o h2⟩⟩
  · exact ⟨h2 H', .inr h2⟩
theorem SlotRep.ext {v : V} {d : PyData} {st : Stt} (e : Gw S H S' H') (h : SlotRep K S H v d st) : SlotRep K S' H' v d st := by
  have nS : ∀ a, H a ≠ none → ¬ S a → ¬ S' a := fun a hs n h' => (e.new a h').elim n hs
  cases st with
  | shr => exact Rp.up e.up h
  | own => obtain ⟨a, rfl, n, t⟩ := h; exact ⟨a, rfl, nS a (TopX.there t) n, TopX.up e.up (e.keep a) t⟩
  | lent => obtain ⟨a, rfl, n, t⟩ := h; exact ⟨a, rfl, nS a (TopX.there t) n, TopX.up e.up (e.keep a) t⟩
  | bor => obtain ⟨a, rfl, n, t⟩ := h; exact ⟨a, rfl, nS a (TopR.there t) n, TopR.up e.up (e.keep a) t⟩
  | scr => obtain ⟨a, ns, rfl, e1, k⟩ := h; exact ⟨a, ns, rfl, e1, KLst.keep (fun o => e.keep a _) k⟩
theorem Gd.ext (g : Gd K S ρ σ H) (e : Gw S H S' H') : Gd K S' ρ σ H' :=
  ⟨g.len, fun i st d h => let ⟨v, h1, h2⟩ := g.sl i st d h; ⟨v, h1, h2.ext e⟩, g.ne, e.al⟩
/-- an object laid, shared -/
theorem Gw.layS (g : ∀ a, S a → H a ≠ none) {p : Addr} {o : HO} (hp : H p = none) : Gw S H (fun b => S b ∨ b = p) (upd H p o) where
  keep := fun a q h => by rw [upd_ne (ne_of_none h hp)]; exact h
  sh := fun _ h => .inl h
  new := fun a h => h.elim .inl fun e => .inr (by rw [e]; exact hp)
  al := fun a h => by
    rcases h with h | h
    · by_cases e : a = p
      · rw [e, upd_same]; simp
      · rw [upd_ne e]; exact g a h
    · rw [h, upd_same]; simp
/-- an object laid, not shared -/
theorem Gw.lay (g : ∀ a, S a → H a ≠ none) {p : Addr} {o : HO} (hp : H p = none) : Gw S H S (upd H p o) where
  keep := fun a q h => by rw [upd_ne (ne_of_none h hp)]; exact h
  sh := fun _ h => h
  new := fun a h => .inl h
  al := fun a h => by
    by_cases e : a = p
    · rw [e, upd_same]; simp
    · rw [upd_ne e]; exact g a h
end
end PyI

/-! PyI, part B: results, the readings by the evaluator, names, constants, operators. -/
namespace PyI
open PySem PySem.Spec L2

/-! ### the evaluator's small pieces -/
def bindM {α β : Type} (f : Mo α) (g : α → Mo β) : Mo β := fun ρ => match f ρ with
  | some (a, ρ') => g a ρ'
  | none => none
def retM {α : Type} (a : α) : Mo α := fun ρ => some (a, ρ)
def optM {α : Type} (o : Option α) : Mo α := fun ρ => match o with
  | some a => some (a, ρ)
  | none => none
theorem bindM_some {α β : Type} {f : Mo α} {g : α → Mo β} {ρ : Rho} {x : β × Rho} (h : bindM f g ρ = some x) : ∃ a ρ', f ρ = some (a, ρ') ∧ g a ρ' = some x := by
  unfold bindM at h
  cases e : f ρ with
  | none => rw [e] at h; cases h
  | some p => rw [e] at h; exact ⟨p.1, p.2, rfl, h⟩
theorem optM_some {α : Type} {o : Option α} {ρ : Rho} {x : α × Rho} (h : optM o ρ = some x) : o = some x.1 ∧ x.2 = ρ := by
  unfold optM at h
  cases o with
  | none => cases h
  | some a => cases h; exact ⟨rfl, rfl⟩
theorem retM_some {α : Type} {a : α} {ρ : Rho} {x : α × Rho} (h : retM a ρ = some x) : x = (a, ρ) := (Option.some.inj h).symm
/-- the data of a result, now -/
def rdR (r : Rs) : Mo PyData := fun ρ => match r with
  | .kept d => some (d, ρ)
  | .fresh d => some (d, ρ)
  | .slot i => match ρ[i]? with
    | some (some (.scr, _)) => none
    | some (some (_, d)) => some (d, ρ)
    | _ => none
/-- .. handed on: it is shared from now on -/
def keepR (r : Rs) : Mo PyData := fun ρ => match r with
  | .kept d => some (d, ρ)
  | .fresh d => some (d, ρ)
  | .slot i => match ρ[i]? with
    | some (some (.shr, d)) => some (d, ρ)
    | some (some (.own, d)) => some (d, ρ.set i (some (.shr, d)))
    | _ => none
def keepL : List Rs → Mo (List PyData)
  | [] => retM []
  | r :: rs => bindM (keepR r) fun d => bindM (keepL rs) fun ds => retM (d :: ds)
/-- a new value -/
def resN : PyData → Rs
  | .list ds => .fresh (.list ds)
  | .dict ds => .fresh (.dict ds)
  | d => .kept d

/-! ### results -/
/-- v is the result r; a new object was none at H0 -/
def RR (K : PySem.W.Frag) (H0 : Hp) (S : Addr → Prop) (H : Hp) (ρ : Rho) (σ : L2.St) (v : V) : Rs → Prop
  | .kept d => Rp K S H v d
  | .fresh d => ∃ a, v = .ref a ∧ H0 a = none ∧ ¬ S a ∧ TopX K S H a d
  | .slot i => σ[i]? = some (some v) ∧ ∃ p, ρ[i]? = some (some p)
inductive RRL (K : PySem.W.Frag) (H0 : Hp) (S : Addr → Prop) (H : Hp) (ρ : Rho) (σ : L2.St) : List V → List Rs → Prop
  | nil : RRL K H0 S H ρ σ [] []
  | cons {v : V} {vs : List V} {r : Rs} {rs : List Rs} : RR K H0 S H ρ σ v r → RRL K H0 S H ρ σ vs rs → RRL K H0 S H ρ σ (v :: vs) (r :: rs)
/-- from the start (S0, ρ0, H0) to now -/
structure Now (K : PySem.W.Frag) (σ : L2.St) (S0 : Addr → Prop) (ρ0 : Rho) (H0 : Hp) (S : Addr → Prop) (ρ : Rho) (H : Hp) : Prop where
  g0 : Gd K S0 ρ0 σ H0
  f : Fm S0 ρ0 σ H0 S ρ H
  g : Gd K S ρ σ H
section
variable {K : PySem.W.Frag} {S0 S S' S'' : Addr → Prop} {ρ0 ρ ρ' ρ'' : Rho} {σ : L2.St} {H0 H H' H'' : Hp} {a : Addr} {v : V} {r : Rs} {d : PyData}
theorem Now.start (g : Gd K S ρ σ H) : Now K σ S ρ H S ρ H := ⟨g, Fm.refl, g⟩
theorem Now.step (n : Now K σ S0 ρ0 H0 S ρ H) (f : Fm S ρ σ H S' ρ' H') (g : Gd K S' ρ' σ H') : Now K σ S0 ρ0 H0 S' ρ' H' := ⟨n.g0, n.f.trans f, g⟩
theorem Now.grow (n : Now K σ S0 ρ0 H0 S ρ H) (e : Gw S H S' H') : Now K σ S0 ρ0 H0 S' ρ H' := n.step e.fr (n.g.ext e)
theorem Now.mu0 (n : Now K σ S0 ρ0 H0 S ρ H) (m : Mu ρ σ a) : H0 a ≠ none := Mu.there n.g0 (n.f.mu m)
theorem Now.none0 (n : Now K σ S0 ρ0 H0 S ρ H) (h : H a = none) : H0 a = none := by
  cases e : H0 a with
  | none => rfl
  | some o => exact absurd h (n.f.dom a (by rw [e]; simp))
theorem RR.fm (n : Now K σ S0 ρ0 H0 S ρ H) (f : Fm S ρ σ H S' ρ' H') (h : RR K H0 S H ρ σ v r) : RR K H0 S' H' ρ' σ v r := by
  cases r with
  | kept d => exact Rp.up (f.up n.g) h
  | fresh d =>
    obtain ⟨a, rfl, h0, ns, t⟩ := h
    have nm : ¬ Mu ρ σ a := fun m => n.mu0 m h0
    refine ⟨a, rfl, h0, fun s' => ?_, TopX.up (f.up n.g) (fun o e => f.keep a o e nm) t⟩
    rcases f.new a s' with z | z | z
    · exact ns z
    · exact nm z
    · exact TopX.there t z
  | slot i =>
    obtain ⟨h1, ⟨st, d⟩, h2⟩ := h
    obtain ⟨st', d', h3, _⟩ := f.sts i st d h2
    exact ⟨h1, _, h3⟩
theorem RR.pre (n : Now K σ S0 ρ0 H0 S ρ H) (h : RR K H S' H' ρ' σ v r) : RR K H0 S' H' ρ' σ v r := by
  cases r with
  | kept d => exact h
  | fresh d => obtain ⟨a, e, h0, ns, t⟩ := h; exact ⟨a, e, n.none0 h0, ns, t⟩
  | slot i => exact h
theorem RR.grow (e : Gw S H S' H') (h : RR K H0 S H ρ σ v r) : RR K H0 S' H' ρ σ v r := by
  cases r with
  | kept d => exact Rp.up e.up h
  | fresh d => 
    obtain ⟨a, rfl, h0, ns, t⟩ := h
    exact ⟨a, rfl, h0, fun s' => (e.new a s').elim ns (TopX.there t), TopX.up e.up (e.keep a) t⟩
  | slot i => exact h
theorem RRL.fm (n : Now K σ S0 ρ0 H0 S ρ H) (f : Fm S ρ σ H S' ρ' H') : ∀ {vs : List V} {rs : List Rs}, RRL K H0 S H ρ σ vs rs → RRL K H0 S' H' ρ' σ vs rs
  | _, _, .nil => .nil
  | _, _, .cons h t => .cons (h.fm n f) (RRL.fm n f t)
theorem RRL.pre (n : Now K σ S0 ρ0 H0 S ρ H) : ∀ {vs : List V} {rs : List Rs}, RRL K H S' H' ρ' σ vs rs → RRL K H0 S' H' ρ' σ vs rs
  | _, _, .nil => .nil
  | _, _, .cons h t => .cons (h.pre n) (RRL.pre n t)
theorem RRL.len : ∀ {vs : List V} {rs : List Rs}, RRL K H0 S H ρ σ vs rs → vs.length = rs.length
  | _, _, .nil => rfl
  | _, _, .cons _ t => by rw [List.length_cons, List.length_cons, t.len]
/-- a result is read -/
theorem RR.rd (g : Gd K S ρ σ H) (h : RR K H0 S H ρ σ v r) (e : rdR r ρ = some (d, ρ')) : Rdb K S H v d ∧ ρ' = ρ := by
  cases r with
  | kept d' => cases e; exact ⟨.inl h, rfl⟩
  | fresh d' =>
    cases e
    obtain ⟨a, rfl, _, _, t⟩ := h
    exact ⟨.inr ⟨a, rfl, t.r⟩, rfl⟩
  | slot i =>
    obtain ⟨h1, ⟨st, d'⟩, h2⟩ := h
    unfold rdR at e
    simp only [h2] at e
    obtain ⟨v', e', q⟩ := g.sl i st d' h2
    rw [h1] at e'; cases e'
    cases st with
    | shr => cases e; exact ⟨.inl q, rfl⟩
    | own => cases e; obtain ⟨a, e2, _, t⟩ := q; exact ⟨.inr ⟨a, e2, TopX.r t⟩, rfl⟩
    | lent => cases e; obtain ⟨a, e2, _, t⟩ := q; exact ⟨.inr ⟨a, e2, TopX.r t⟩, rfl⟩
    | bor => cases e; obtain ⟨a, e2, _, t⟩ := q; exact ⟨.inr ⟨a, e2, t⟩, rfl⟩
    | scr => cases e
theorem mem_set_slot {i j : Nat} {x y : Option (Stt × PyData)} (h : (ρ.set i x)[j]? = some y) : (j = i ∧ y = x) ∨ (j ≠ i ∧ ρ[j]? = some y) := by
  by_cases e : j = i
  · subst e
    rw [List.getElem?_set] at h
    split at h
    · split at h
      · cases h; exact .inl ⟨rfl, rfl⟩
      · cases h
    · rename_i z; exact absurd rfl z
  · rw [List.getElem?_set_ne (Ne.symm e)] at h
    exact .inr ⟨e, h⟩
/-- more is shared: a set of places that no slot holds -/
theorem Gd.share (g : Gd K S ρ σ H) (n : ∀ (i : Nat) (st : Stt) (d : PyData) (b : Addr), ρ[i]? = some (some (st, d)) → st.hold = true → σ[i]? = some (some (V.ref b)) → S' b → S b) (sh : ∀ b, S b → S' b) (al : ∀ b, S' b → H b ≠ none) : Gd K S' ρ σ H := by
  have u : Uph S H S' H := ⟨sh, fun _ _ _ h => h⟩
  refine ⟨g.len, fun i st d h => ?_, g.ne, al⟩
  obtain ⟨v, h1, h2⟩ := g.sl i st d h
  refine ⟨v, h1, ?_⟩
  cases st with
  | shr => exact Rp.up u h2
  | own => obtain ⟨a, rfl, ns, t⟩ := h2; exact ⟨a, rfl, fun z => ns (n i _ d a h rfl h1 z), TopX.up u (fun _ e => e) t⟩
  | lent => obtain ⟨a, rfl, ns, t⟩ := h2; exact ⟨a, rfl, fun z => ns (n i _ d a h rfl h1 z), TopX.up u (fun _ e => e) t⟩
  | bor => obtain ⟨a, rfl, ns, t⟩ := h2; exact ⟨a, rfl, fun z => ns (n i _ d a h rfl h1 z), TopR.up u (fun _ e => e) t⟩
  | scr => exact h2
theorem Gd.held (g : Gd K S ρ σ H) {i : Nat} {st : Stt} (h : ρ[i]? = some (some (st, d))) (hh : st.hold = true) (hv : σ[i]? = some (some (V.ref a))) : H a ≠ none := by
  obtain ⟨v, h1, h2⟩ := g.sl i st d h
  rw [hv] at h1; cases h1
  cases st with
  | own => obtain ⟨b, e, _, t⟩ := h2; cases e; exact TopX.there t
  | lent => obtain ⟨b, e, _, t⟩ := h2; cases e; exact TopX.there t
  | bor => obtain ⟨b, e, _, t⟩ := h2; cases e; exact TopR.there t
  | _ => cases hh
theorem Fm.held (f : Fm S ρ σ H S' ρ' H') {i : Nat} {st : Stt} (h : ρ'[i]? = some (some (st, d))) (hh : st.hold = true) : ∃ d', ρ[i]? = some (some (st, d')) := by
  obtain ⟨st0, d0, h0, q, _⟩ := f.back h
  rcases q with rfl | ⟨rfl, rfl⟩
  · exact ⟨d0, h0⟩
  · cases hh
/-- the same, where the new object may be shared already -/
def RRw (K : PySem.W.Frag) (H0 : Hp) (S : Addr → Prop) (H : Hp) (ρ : Rho) (σ : L2.St) (v : V) : Rs → Prop
  | .kept d => Rp K S H v d
  | .fresh d => ∃ a, v = .ref a ∧ H0 a = none ∧ TopX K S H a d
  | .slot i => σ[i]? = some (some v) ∧ ∃ p, ρ[i]? = some (some p)
theorem RR.w (h : RR K H0 S H ρ σ v r) : RRw K H0 S H ρ σ v r := by
  cases r with
  | kept d => exact h
  | fresh d => obtain ⟨a, h1, h2, _, h3⟩ := h; exact ⟨a, h1, h2, h3⟩
  | slot i => exact h
/-- handed on -/
theorem RRw.keep (n : Now K σ S0 ρ0 H0 S ρ H) (h : RRw K H0 S H ρ σ v r) (e : keepR r ρ = some (d, ρ')) : ∃ S', Now K σ S0 ρ0 H0 S' ρ' H ∧ Rp K S' H v d ∧ (∀ b, S b → S' b) := by
  cases r with
  | kept d' => cases e; exact ⟨S, n, h, fun _ h => h⟩
  | fresh d' =>
    cases e
    obtain ⟨a, rfl, h0, t⟩ := h
    refine ⟨fun b => S b ∨ b = a, ⟨n.g0, ⟨n.f.dom, n.f.keep, fun b hb => .inl (n.f.sh b hb), fun b hb => ?_, n.f.len, n.f.non, n.f.sts⟩, n.g.share (fun i st d b h1 h2 h3 hb => ?_) (fun _ h => .inl h) fun b hb => ?_⟩, t.give, fun _ h => .inl h⟩
    · rcases hb with hb | rfl
      · exact n.f.new b hb
      · exact .inr (.inr h0)
    · rcases hb with hb | rfl
      · exact hb
      · obtain ⟨d', h1'⟩ := n.f.held h1 h2
        exact absurd h0 (n.g0.held h1' h2 h3)
    · rcases hb with hb | rfl
      · exact n.g.al b hb
      · exact TopX.there t
  | slot i =>
    obtain ⟨h1, ⟨st, d'⟩, h2⟩ := h
    unfold keepR at e
    simp only [h2] at e
    obtain ⟨v', e', q⟩ := n.g.sl i st d' h2
    rw [h1] at e'; cases e'
    cases st with
    | shr => cases e; exact ⟨S, n, q, fun _ h => h⟩
    | own =>
      cases e
      obtain ⟨a, rfl, ns, t⟩ := q
      have hi : i < ρ.length := (List.getElem?_eq_some_iff.mp h2).1
      have u : Uph S H (fun b => S b ∨ b = a) H := ⟨fun _ h => .inl h, fun _ _ _ h => h⟩
      refine ⟨fun b => S b ∨ b = a, ⟨n.g0, ⟨n.f.dom, n.f.keep, fun b hb => .inl (n.f.sh b hb), fun b hb => ?_, by rw [List.length_set]; exact n.f.len, fun j hj => ?_, fun j st d hj => ?_⟩, ⟨by rw [List.length_set]; exact n.g.len, fun j st d hj => ?_, fun j k b st d st' d' hj hk ha hb hvj hvk => ?_, fun b hb => ?_⟩⟩, t.give, fun _ h => .inl h⟩
      · rcases hb with hb | rfl
        · exact n.f.new b hb
        · exact .inr (.inl (n.f.mu ⟨i, .own, _, h2, rfl, h1⟩))
      · have hj' := n.f.non j hj
        have : j ≠ i := by rintro rfl; rw [h2] at hj'; cases hj'
        rw [List.getElem?_set_ne (Ne.symm this)]
        exact hj'
      · obtain ⟨st1, d1, h3, h4, h5⟩ := n.f.sts j st d hj
        by_cases hji : j = i
        · subst hji
          rw [h2] at h3; cases h3
          refine ⟨.shr, _, by rw [List.getElem?_set_self hi], ?_, h5⟩
          rcases h4 with rfl | ⟨rfl, z⟩
          · exact .inr ⟨rfl, rfl⟩
          · cases z
        · exact ⟨st1, d1, by rw [List.getElem?_set_ne (Ne.symm hji)]; exact h3, h4, h5⟩
      · rcases mem_set_slot hj with ⟨rfl, e1⟩ | ⟨hne, hj⟩
        · cases e1
          exact ⟨_, h1, t.give⟩
        · obtain ⟨w, h3, h4⟩ := n.g.sl j st d hj
          refine ⟨w, h3, ?_⟩
          have other : ∀ b, w = .ref b → st.hold = true → b ≠ a := fun b e1 hh e2 => hne (n.g.ne j i a st d .own _ hj h2 hh rfl (by rw [h3, e1, e2]) h1)
          cases st with
          | shr => exact Rp.up u h4
          | own => obtain ⟨b, rfl, ns', t'⟩ := h4; exact ⟨b, rfl, fun z => z.elim ns' (other b rfl rfl), TopX.up u (fun _ e => e) t'⟩
          | lent => obtain ⟨b, rfl, ns', t'⟩ := h4; exact ⟨b, rfl, fun z => z.elim ns' (other b rfl rfl), TopX.up u (fun _ e => e) t'⟩
          | bor => obtain ⟨b, rfl, ns', t'⟩ := h4; exact ⟨b, rfl, fun z => z.elim ns' (other b rfl rfl), TopR.up u (fun _ e => e) t'⟩
          | scr => exact h4
      · rcases mem_set_slot hj with ⟨rfl, e1⟩ | ⟨_, hj⟩
        · cases e1; cases ha
        · rcases mem_set_slot hk with ⟨rfl, e1⟩ | ⟨_, hk⟩
          · cases e1; cases hb
          · exact n.g.ne j k b st d st' _ hj hk ha hb hvj hvk
      · rcases hb with hb | rfl
        · exact n.g.al b hb
        · exact TopX.there t
    | _ => cases e
/-- keepR changes only the status of its slot -/
theorem keepR_fm (e : keepR r ρ = some (d, ρ')) : ρ' = ρ ∨ ∃ i, ρ[i]? = some (some (.own, d)) ∧ ρ' = ρ.set i (some (.shr, d)) := by
  cases r with
  | kept d' => cases e; exact .inl rfl
  | fresh d' => cases e; exact .inl rfl
  | slot i =>
    unfold keepR at e
    dsimp only at e
    split at e
    · cases e; exact .inl rfl
    · rename_i h; cases e; exact .inr ⟨i, h, rfl⟩
    · cases e
theorem RRw.mono {S' : Addr → Prop} (sh : ∀ b, S b → S' b) (hr : ∀ (i : Nat) p, ρ[i]? = some (some p) → ∃ q, ρ'[i]? = some (some q)) (h : RRw K H0 S H ρ σ v r) : RRw K H0 S' H ρ' σ v r := by
  have u : Uph S H S' H := ⟨sh, fun _ _ _ h => h⟩
  cases r with
  | kept d => exact Rp.up u h
  | fresh d => obtain ⟨a, h1, h2, h3⟩ := h; exact ⟨a, h1, h2, TopX.up u (fun _ e => e) h3⟩
  | slot i => obtain ⟨h1, p, h2⟩ := h; exact ⟨h1, hr i p h2⟩
theorem keepR_some (e : keepR r ρ = some (d, ρ')) (i : Nat) (p : Stt × PyData) (h : ρ[i]? = some (some p)) : ∃ q, ρ'[i]? = some (some q) := by
  rcases keepR_fm e with rfl | ⟨j, h1, rfl⟩
  · exact ⟨p, h⟩
  · by_cases hj : j = i
    · subst hj
      exact ⟨_, List.getElem?_set_self (List.getElem?_eq_some_iff.mp h).1⟩
    · exact ⟨p, by rw [List.getElem?_set_ne hj]; exact h⟩
inductive RRLw (K : PySem.W.Frag) (H0 : Hp) (S : Addr → Prop) (H : Hp) (ρ : Rho) (σ : L2.St) : List V → List Rs → Prop
  | nil : RRLw K H0 S H ρ σ [] []
  | cons {v : V} {vs : List V} {r : Rs} {rs : List Rs} : RRw K H0 S H ρ σ v r → RRLw K H0 S H ρ σ vs rs → RRLw K H0 S H ρ σ (v :: vs) (r :: rs)
theorem RRL.w : ∀ {vs : List V} {rs : List Rs}, RRL K H0 S H ρ σ vs rs → RRLw K H0 S H ρ σ vs rs
  | _, _, .nil => .nil
  | _, _, .cons h t => .cons h.w t.w
theorem RRLw.mono {S' : Addr → Prop} (sh : ∀ b, S b → S' b) (hr : ∀ (i : Nat) p, ρ[i]? = some (some p) → ∃ q, ρ'[i]? = some (some q)) : ∀ {vs : List V} {rs : List Rs}, RRLw K H0 S H ρ σ vs rs → RRLw K H0 S' H ρ' σ vs rs
  | _, _, .nil => .nil
  | _, _, .cons h t => .cons (h.mono sh hr) (RRLw.mono sh hr t)
theorem RRLw.keep : ∀ (rs : List Rs) {S : Addr → Prop} {ρ ρ' : Rho} {ds : List PyData} {vs : List V}, Now K σ S0 ρ0 H0 S ρ H → RRLw K H0 S H ρ σ vs rs → keepL rs ρ = some (ds, ρ') → ∃ S', Now K σ S0 ρ0 H0 S' ρ' H ∧ RpL K S' H vs ds ∧ (∀ b, S b → S' b)
  | [], S, ρ, ρ', ds, vs, n, h, e => by
    cases h
    cases retM_some e
    exact ⟨S, n, .nil, fun _ h => h⟩
  | r :: rs, S, ρ, ρ', ds, vs, n, h, e => by
    cases h with
    | cons h t =>
      obtain ⟨d, ρ1, e1, e2⟩ := bindM_some e
      obtain ⟨ds', ρ2, e3, e4⟩ := bindM_some e2
      cases retM_some e4
      obtain ⟨S1, n1, p1, sh1⟩ := h.keep n e1
      obtain ⟨S2, n2, p2, sh2⟩ := RRLw.keep rs n1 (t.mono sh1 (keepR_some e1)) e3
      exact ⟨S2, n2, .cons (Rp.up ⟨sh2, fun _ _ _ h => h⟩ p1) p2, fun b hb => sh2 b (sh1 b hb)⟩
end

/-! ### readings -/
def tD (K : PySem.W.Frag) (f : Mo Rs) : TE := fun σ H Q => ∃ S ρ r ρ', Gd K S ρ σ H ∧ f ρ = some (r, ρ') ∧ ∀ v S' H', Fm S ρ σ H S' ρ' H' → Gd K S' ρ' σ H' → RR K H S' H' ρ' σ v r → Q v H'
def tT (K : PySem.W.Frag) (f : Mo Bool) : TT := fun σ H Q => ∃ S ρ b ρ', Gd K S ρ σ H ∧ f ρ = some (b, ρ') ∧ ∀ S' H', Fm S ρ σ H S' ρ' H' → Gd K S' ρ' σ H' → Q b H'
def tA (K : PySem.W.Frag) (f : Mo (List Rs)) : TA := fun σ H Q => ∃ S ρ rs ρ', Gd K S ρ σ H ∧ f ρ = some (rs, ρ') ∧ ∀ vs S' H', Fm S ρ σ H S' ρ' H' → Gd K S' ρ' σ H' → RRL K H S' H' ρ' σ vs rs → Q vs H'
abbrev PD (X : Cx) (e : Expr) (f : Mo Rs) : Prop := PE X e (tD X.K f)
abbrev TD (X : Cx) (e : Expr) (f : Mo Bool) : Prop := PT X e (tT X.K f)
abbrev WD (X : Cx) (e : Expr) (f : Mo Bool) : Prop := PW X e (tT X.K f)
abbrev AD (X : Cx) (es : List Expr) (f : Mo (List Rs)) : Prop := PA X es (tA X.K f)
theorem PE.to {X : Cx} {e : Expr} {t t' : TE} (h : PE X e t) (i : ∀ σ H Q, t' σ H Q → t σ H Q) : PE X e t' := ⟨fun pins s σ H Q I q => h.run pins s σ H Q I (i σ H Q q)⟩
theorem PT.to {X : Cx} {e : Expr} {t t' : TT} (h : PT X e t) (i : ∀ σ H Q, t' σ H Q → t σ H Q) : PT X e t' := ⟨fun pins s σ H Q I q => h.run pins s σ H Q I (i σ H Q q)⟩
theorem PW.to {X : Cx} {e : Expr} {t t' : TT} (h : PW X e t) (i : ∀ σ H Q, t' σ H Q → t σ H Q) : PW X e t' := ⟨fun wh pins s σ H Q I q => h.run wh pins s σ H Q I (i σ H Q q)⟩
theorem PA.to {X : Cx} {e : List Expr} {t t' : TA} (h : PA X e t) (i : ∀ σ H Q, t' σ H Q → t σ H Q) : PA X e t' := ⟨fun pos pins s σ H Q I q => h.run pos pins s σ H Q I (i σ H Q q)⟩
theorem PS.to {X : Cx} {e : Stmt} {t t' : TS} (h : PS X e t) (i : ∀ D σ H, t' D σ H → t D σ H) : PS X e t' := ⟨fun pins s σ H D I q => h.run pins s σ H D I (i D σ H q)⟩
theorem PSs.to {X : Cx} {e : List Stmt} {t t' : TS} (h : PSs X e t) (i : ∀ D σ H, t' D σ H → t D σ H) : PSs X e t' := ⟨fun pins s σ H D I q => h.run pins s σ H D I (i D σ H q)⟩

/-! ### names and constants -/
def xV (i : Nat) : Mo Rs := fun ρ => match ρ[i]? with
  | some (some _) => some (.slot i, ρ)
  | _ => none
def xC (d : PyData) : Mo Rs := retM (.kept d)
section
variable {X : Cx} {pos : Pos}
theorem pd_v (i : Nat) {x : Str} (hN : X.N[i]? = some x := by rfl) (hv : Vis X.env.scope x := by first | exact Or.inl rfl | exact Or.inr (Or.inl rfl) | exact Or.inr (Or.inr rfl)) (hd : (x == ("__debug__" : Str)) = false := by decide)
    (hcd : (x == ("__classdict__" : Str)) = false := by decide) : PD X (.Name x pos) (xV i) := PE.to (pe_var hN hv hd hcd) fun σ H Q h => by
  obtain ⟨S, ρ, r, ρ', g, e, q⟩ := h
  unfold xV at e
  split at e
  · rename_i p hp
    cases e
    obtain ⟨st, d⟩ := p
    obtain ⟨v, h1, _⟩ := g.sl i st d hp
    exact ⟨v, h1, q v S H Fm.refl g ⟨h1, _, hp⟩⟩
  · cases e
theorem pd_of_tC {e : Expr} {v : V} {d : PyData} (h : PE X e (tC v)) (r : ∀ S H, Rp X.K S H v d) : PD X e (xC d) := PE.to h fun σ H Q h => by
  obtain ⟨S, ρ, r', ρ', g, e, q⟩ := h
  cases retM_some e
  exact q v S H Fm.refl g (r S H)
theorem pd_int {i j} : PD X (.Constant (.int i) j pos) (xC (.int i)) := pd_of_tC pe_int fun _ _ => .int i
theorem pd_bl {i j} : PD X (.Constant (.bool i) j pos) (xC (.bool i)) := pd_of_tC pe_bl fun _ _ => .bl i
theorem pd_non {j} : PD X (.Constant .none j pos) (xC .none) := pd_of_tC pe_non fun _ _ => .non
theorem pd_str {x j} : PD X (.Constant (.str x) j pos) (xC (.str x)) := pd_of_tC pe_str fun _ _ => .str x
end

/-! ### arguments -/
def aN : Mo (List Rs) := retM []
def aC (f : Mo Rs) (g : Mo (List Rs)) : Mo (List Rs) := bindM f fun r => bindM g fun rs => retM (r :: rs)
section
variable {X : Cx} {e : Expr} {es : List Expr} {f : Mo Rs} {g : Mo (List Rs)}
theorem ad_nil : AD X [] aN := PA.to pa_nil fun σ H Q h => by
  obtain ⟨S, ρ, r, ρ', g, e, q⟩ := h
  cases retM_some e
  exact q [] S H Fm.refl g .nil
theorem ad_cons (ha : PD X e f) (hr : AD X es g) (hs : starEach (e :: es) X.env = (false, eval e X.env) :: starEach es X.env := by rfl) : AD X (e :: es) (aC f g) := PA.to (pa_cons ha hr hs) fun σ H Q h => by
  obtain ⟨S, ρ, rs, ρ', G, e, q⟩ := h
  obtain ⟨r1, ρ1, e1, e2⟩ := bindM_some e
  obtain ⟨r2, ρ2, e3, e4⟩ := bindM_some e2
  cases retM_some e4
  refine ⟨S, ρ, r1, ρ1, G, e1, fun v S1 H1 F1 G1 R1 => ⟨S1, ρ1, r2, _, G1, e3, fun vs S2 H2 F2 G2 R2 => ?_⟩⟩
  have n1 : Now X.K σ S ρ H S1 ρ1 H1 := ⟨G, F1, G1⟩
  exact q (v :: vs) S2 H2 (F1.trans F2) G2 (.cons (R1.fm n1 F2) (R2.pre n1))
end

/-! ### operators -/
/-- a new value of data, from two values that are read -/
def rD (K : PySem.W.Frag) (op : PyData → PyData → Option PyData) : R2 := fun x y H Q => ∃ S d1 d2 d, (∀ a, S a → H a ≠ none) ∧ Rdb K S H x d1 ∧ Rdb K S H y d2 ∧ op d1 d2 = some d ∧
  ∀ v S' H', Gw S H S' H' → RR K H S' H' [] [] v (resN d) → Q v H'
/-- .. one that is within them (an item) -/
def rDi (K : PySem.W.Frag) (op : PyData → PyData → Option PyData) : R2 := fun x y H Q => ∃ S d1 d2 d, (∀ a, S a → H a ≠ none) ∧ Rdb K S H x d1 ∧ Rdb K S H y d2 ∧ op d1 d2 = some d ∧
  ∀ v S' H', Gw S H S' H' → Rp K S' H' v d → Q v H'
def x2 (f g : Mo Rs) (op : PyData → PyData → Option PyData) : Mo Rs := bindM f fun r1 => bindM g fun r2 => bindM (rdR r1) fun d1 => bindM (rdR r2) fun d2 => bindM (optM (op d1 d2)) fun d => retM (resN d)
def x2i (f g : Mo Rs) (op : PyData → PyData → Option PyData) : Mo Rs := bindM f fun r1 => bindM g fun r2 => bindM (rdR r1) fun d1 => bindM (rdR r2) fun d2 => bindM (optM (op d1 d2)) fun d => retM (.kept d)
theorem RR.new {K : PySem.W.Frag} {H0 H : Hp} {S : Addr → Prop} {ρ ρ' : Rho} {σ σ' : L2.St} {v : V} {d : PyData} (h : RR K H0 S H ρ σ v (resN d)) : RR K H0 S H ρ' σ' v (resN d) := by
  cases d <;> exact h
theorem rdR_same {r : Rs} {ρ ρ' : Rho} {d : PyData} (e : rdR r ρ = some (d, ρ')) : ρ' = ρ := by
  cases r with
  | kept d' => cases e; rfl
  | fresh d' => cases e; rfl
  | slot i =>
    unfold rdR at e
    dsimp only at e
    split at e
    · cases e
    · cases e; rfl
    · cases e
theorem x2_inv {f g : Mo Rs} {op : PyData → PyData → Option PyData} {k : PyData → Rs} {ρ ρ' : Rho} {r : Rs} (e : (bindM f fun r1 => bindM g fun r2 => bindM (rdR r1) fun d1 => bindM (rdR r2) fun d2 => bindM (optM (op d1 d2)) fun d => retM (k d)) ρ = some (r, ρ')) :
    ∃ r1 ρ1 r2 d1 d2 d, f ρ = some (r1, ρ1) ∧ g ρ1 = some (r2, ρ') ∧ rdR r1 ρ' = some (d1, ρ') ∧ rdR r2 ρ' = some (d2, ρ') ∧ op d1 d2 = some d ∧ r = k d := by
  obtain ⟨r1, ρ1, e1, a1⟩ := bindM_some e
  obtain ⟨r2, ρ2, e2, a2⟩ := bindM_some a1
  obtain ⟨d1, ρ3, e3, a3⟩ := bindM_some a2
  obtain ⟨d2, ρ4, e4, a4⟩ := bindM_some a3
  obtain ⟨d, ρ5, e5, a5⟩ := bindM_some a4
  obtain ⟨b1, b2⟩ := optM_some e5
  have c3 := rdR_same e3
  have c4 := rdR_same e4
  simp only at b1 b2
  subst c3
  subst c4
  subst b2
  cases retM_some a5
  exact ⟨r1, ρ1, r2, d1, d2, d, e1, e2, e3, e4, b1, rfl⟩
section
variable {K : PySem.W.Frag} {f g : Mo Rs} {op : PyData → PyData → Option PyData} {σ : L2.St} {H : Hp} {Q : VK}
theorem x2_ok (h : tD K (x2 f g op) σ H Q) : tOp (rD K op) (tD K f) (tD K g) σ H Q := by
  obtain ⟨S, ρ, r, ρ', G, e, q⟩ := h
  obtain ⟨r1, ρ1, r2, d1, d2, d, e1, e2, e3, e4, e5, rfl⟩ := x2_inv e
  refine ⟨S, ρ, r1, ρ1, G, e1, fun x S1 H1 F1 G1 R1 => ⟨S1, ρ1, r2, ρ', G1, e2, fun y S2 H2 F2 G2 R2 => ?_⟩⟩
  have n1 : Now K σ S ρ H S1 ρ1 H1 := ⟨G, F1, G1⟩
  have n2 : Now K σ S ρ H S2 ρ' H2 := n1.step F2 G2
  refine ⟨S2, d1, d2, d, G2.al, ((R1.fm n1 F2).rd G2 e3).1, (R2.rd G2 e4).1, e5, fun v S3 H3 E R => ?_⟩
  exact q v S3 H3 (n2.grow E).f (n2.grow E).g ((RR.new R : RR K H2 S3 H3 ρ' σ v (resN d)).pre n2)
theorem x2i_ok (h : tD K (x2i f g op) σ H Q) : tOp (rDi K op) (tD K f) (tD K g) σ H Q := by
  obtain ⟨S, ρ, r, ρ', G, e, q⟩ := h
  obtain ⟨r1, ρ1, r2, d1, d2, d, e1, e2, e3, e4, e5, rfl⟩ := x2_inv e
  refine ⟨S, ρ, r1, ρ1, G, e1, fun x S1 H1 F1 G1 R1 => ⟨S1, ρ1, r2, ρ', G1, e2, fun y S2 H2 F2 G2 R2 => ?_⟩⟩
  have n1 : Now K σ S ρ H S1 ρ1 H1 := ⟨G, F1, G1⟩
  have n2 : Now K σ S ρ H S2 ρ' H2 := n1.step F2 G2
  refine ⟨S2, d1, d2, d, G2.al, ((R1.fm n1 F2).rd G2 e3).1, (R2.rd G2 e4).1, e5, fun v S3 H3 E R => ?_⟩
  exact q v S3 H3 (n2.grow E).f (n2.grow E).g R
end
section
variable {X : Cx} {a b c : Expr} {f g k : Mo Rs} {op : PyData → PyData → Option PyData} {pos : Pos}
/-- a op b -/
theorem pd_bin {o : Operator} (ho : OpR X (binaryOp o) (rD X.K op)) (ha : PD X a f) (hb : PD X b g) : PD X (.BinOp a o b pos) (x2 f g op) := PE.to (pe_op ho ha hb) fun _ _ _ h => x2_ok h
/-- a comparison -/
theorem pd_cmp {o : CmpOp} (ho : OpR X (compareOp o) (rD X.K op)) (ha : PD X a f) (hb : PD X b g) (hm : behindInMarks o b = false := by first | exact nomark _ | with_unfolding_all rfl) : PD X (.Compare a [o] [b] pos) (x2 f g op) := PE.to (pe_cmpR ho ha hb hm) fun _ _ _ h => x2_ok h
/-- a[b] -/
theorem pd_ix (hr : IxR X (rDi X.K op)) (ha : PD X a f) (hb : PD X b g) (hs : PlainIx b := by exact fun _ _ => rfl) : PD X (.Subscript a b pos) (x2i f g op) := PE.to (pe_ix hr ha hb hs) fun _ _ _ h => x2i_ok h

/-! ### tests -/
def boolD : PyData → Option Bool
  | .bool b => some b
  | _ => none
/-- a value that is a bool, as a test -/
def tV (f : Mo Rs) : Mo Bool := bindM f fun r => bindM (rdR r) fun d => optM (boolD d)
def tNotM (f : Mo Bool) : Mo Bool := bindM f fun b => retM (!b)
def tAndM (f g : Mo Bool) : Mo Bool := bindM f fun b => if b = true then g else retM false
def tOrM (f g : Mo Bool) : Mo Bool := bindM f fun b => if b = true then retM true else g
theorem tV_inv {f : Mo Rs} {ρ ρ' : Rho} {b : Bool} (e : tV f ρ = some (b, ρ')) : ∃ r, f ρ = some (r, ρ') ∧ rdR r ρ' = some (.bool b, ρ') := by
  obtain ⟨r1, ρ1, e1, a1⟩ := bindM_some e
  obtain ⟨d, ρ2, e2, a2⟩ := bindM_some a1
  have c := rdR_same e2
  subst c
  obtain ⟨b1, b2⟩ := optM_some a2
  simp only at b1 b2
  subst b2
  cases d <;> first | (cases b1; done) | skip
  cases b1
  exact ⟨r1, e1, e2⟩
theorem Rdb.bl {K : PySem.W.Frag} {S : Addr → Prop} {H : Hp} {v : V} {b : Bool} (h : Rdb K S H v (.bool b)) : v = .bl b := by
  rcases h with h | ⟨a, _, h⟩
  · cases h; rfl
  · exact h.elim
theorem tV_ok {K : PySem.W.Frag} {f : Mo Rs} {σ : L2.St} {H : Hp} {Q : Bool → Hp → Prop} (h : tT K (tV f) σ H Q) : tD K f σ H (fun x H1 => ∃ c, x = .bl c ∧ Q c H1) := by
  obtain ⟨S, ρ, b, ρ', G, e, q⟩ := h
  obtain ⟨r, e1, e2⟩ := tV_inv e
  exact ⟨S, ρ, r, ρ', G, e1, fun v S1 H1 F1 G1 R1 => ⟨b, ((R1.rd G1 e2).1).bl, q S1 H1 F1 G1⟩⟩
/-- a comparison as a test -/
theorem td_cmp {o : CmpOp} (ho : OpR X (compareOp o) (rD X.K op)) (ha : PD X a f) (hb : PD X b g) (hm : behindInMarks o b = false := by first | exact nomark _ | with_unfolding_all rfl) : TD X (.Compare a [o] [b] pos) (tV (x2 f g op)) := PT.to (pt_cmpR ho ha hb hm) fun _ _ _ h => x2_ok (tV_ok h)
/-- an expression that gives a bool, as a test -/
theorem td_val {e : Expr} (h : PD X e f) (he : ∀ whole, isTrue e X.env whole = (do let v ← whole; standAt e.pos; holding [v] (truthy v)) := by intro _; rfl) : TD X e (tV f) := PT.to (pt_val h he) fun _ _ _ h => tV_ok h
theorem td_not {ft : Mo Bool} (h : TD X a ft) : TD X (.UnaryOp .Not a pos) (tNotM ft) := PT.to (pt_not h) fun σ H Q h => by
  obtain ⟨S, ρ, b, ρ', G, e, q⟩ := h
  obtain ⟨b1, ρ1, e1, e2⟩ := bindM_some e
  cases retM_some e2
  exact ⟨S, ρ, b1, _, G, e1, fun S1 H1 F1 G1 => q S1 H1 F1 G1⟩
theorem wd_and1 {ft : Mo Bool} (h : TD X a ft) : WD X (.BoolOp .And [a] pos) ft := pw_and1 h
theorem wd_or1 {ft : Mo Bool} (h : TD X a ft) : WD X (.BoolOp .Or [a] pos) ft := pw_or1 h
theorem wd_and {ft gt : Mo Bool} {rest : List Expr} (h : TD X a ft) (h2 : WD X (.BoolOp .And (b :: rest) pos) gt) : WD X (.BoolOp .And (a :: b :: rest) pos) (tAndM ft gt) := PW.to (pw_and h h2) fun σ H Q h => by
  obtain ⟨S, ρ, b, ρ', G, e, q⟩ := h
  obtain ⟨b1, ρ1, e1, e2⟩ := bindM_some e
  refine ⟨S, ρ, b1, ρ1, G, e1, fun S1 H1 F1 G1 => ?_⟩
  cases b1 with
  | true => exact ⟨S1, ρ1, b, ρ', G1, e2, fun S2 H2 F2 G2 => q S2 H2 (F1.trans F2) G2⟩
  | false => cases retM_some e2; exact q S1 H1 F1 G1
theorem wd_or {ft gt : Mo Bool} {rest : List Expr} (h : TD X a ft) (h2 : WD X (.BoolOp .Or (b :: rest) pos) gt) : WD X (.BoolOp .Or (a :: b :: rest) pos) (tOrM ft gt) := PW.to (pw_or h h2) fun σ H Q h => by
  obtain ⟨S, ρ, b, ρ', G, e, q⟩ := h
  obtain ⟨b1, ρ1, e1, e2⟩ := bindM_some e
  refine ⟨S, ρ, b1, ρ1, G, e1, fun S1 H1 F1 G1 => ?_⟩
  cases b1 with
  | false => exact ⟨S1, ρ1, b, ρ', G1, e2, fun S2 H2 F2 G2 => q S2 H2 (F1.trans F2) G2⟩
  | true => cases retM_some e2; exact q S1 H1 F1 G1
theorem td_w {e : Expr} {ft : Mo Bool} (h : WD X e ft) : TD X e ft := h.pt

/-! ### and, or, not, if as values -/
def xAnd (f : Mo Rs) (g : Mo Rs) : Mo Rs := bindM (tV f) fun b => if b = true then g else retM (.kept (.bool false))
def xOr (f : Mo Rs) (g : Mo Rs) : Mo Rs := bindM (tV f) fun b => if b = true then retM (.kept (.bool true)) else g
def xNot (f : Mo Rs) : Mo Rs := bindM (tV f) fun b => retM (.kept (.bool (!b)))
def xIf (t : Mo Bool) (f g : Mo Rs) : Mo Rs := bindM t fun b => if b = true then f else g
theorem pd_one {o} (h : PD X a f) : PD X (.BoolOp o [a] pos) f := pe_one h
theorem pd_and {rest : List Expr} (ha : PD X a f) (hb : PD X (.BoolOp .And (b :: rest) pos) g) : PD X (.BoolOp .And (a :: b :: rest) pos) (xAnd f g) := PE.to (pe_and ha hb) fun σ H Q h => by
  obtain ⟨S, ρ, r, ρ', G, e, q⟩ := h
  obtain ⟨b1, ρ1, e1, e2⟩ := bindM_some e
  obtain ⟨r1, e3, e4⟩ := tV_inv e1
  refine ⟨S, ρ, r1, ρ1, G, e3, fun v S1 H1 F1 G1 R1 => ⟨b1, ((R1.rd G1 e4).1).bl, ?_⟩⟩
  cases b1 with
  | true => exact ⟨S1, ρ1, r, ρ', G1, e2, fun v S2 H2 F2 G2 R2 => q v S2 H2 (F1.trans F2) G2 (R2.pre ⟨G, F1, G1⟩)⟩
  | false => cases retM_some e2; exact q _ S1 H1 F1 G1 (.bl false)
theorem pd_or {rest : List Expr} (ha : PD X a f) (hb : PD X (.BoolOp .Or (b :: rest) pos) g) : PD X (.BoolOp .Or (a :: b :: rest) pos) (xOr f g) := PE.to (pe_or ha hb) fun σ H Q h => by
  obtain ⟨S, ρ, r, ρ', G, e, q⟩ := h
  obtain ⟨b1, ρ1, e1, e2⟩ := bindM_some e
  obtain ⟨r1, e3, e4⟩ := tV_inv e1
  refine ⟨S, ρ, r1, ρ1, G, e3, fun v S1 H1 F1 G1 R1 => ⟨b1, ((R1.rd G1 e4).1).bl, ?_⟩⟩
  cases b1 with
  | false => exact ⟨S1, ρ1, r, ρ', G1, e2, fun v S2 H2 F2 G2 R2 => q v S2 H2 (F1.trans F2) G2 (R2.pre ⟨G, F1, G1⟩)⟩
  | true => cases retM_some e2; exact q _ S1 H1 F1 G1 (.bl true)
theorem pd_not (ha : PD X a f) : PD X (.UnaryOp .Not a pos) (xNot f) := PE.to (pe_not ha) fun σ H Q h => by
  obtain ⟨S, ρ, r, ρ', G, e, q⟩ := h
  obtain ⟨b1, ρ1, e1, e2⟩ := bindM_some e
  obtain ⟨r1, e3, e4⟩ := tV_inv e1
  cases retM_some e2
  exact ⟨S, ρ, r1, _, G, e3, fun v S1 H1 F1 G1 R1 => ⟨b1, ((R1.rd G1 e4).1).bl, q _ S1 H1 F1 G1 (.bl _)⟩⟩
theorem pd_if {ft : Mo Bool} (hc : TD X c ft) (ha : PD X a f) (hb : PD X b g) : PD X (.IfExp c a b pos) (xIf ft f g) := PE.to (pe_ifExp hc ha hb) fun σ H Q h => by
  obtain ⟨S, ρ, r, ρ', G, e, q⟩ := h
  obtain ⟨b1, ρ1, e1, e2⟩ := bindM_some e
  refine ⟨S, ρ, b1, ρ1, G, e1, fun S1 H1 F1 G1 => ?_⟩
  cases b1 with
  | true => exact ⟨S1, ρ1, r, ρ', G1, e2, fun v S2 H2 F2 G2 R2 => q v S2 H2 (F1.trans F2) G2 (R2.pre ⟨G, F1, G1⟩)⟩
  | false => exact ⟨S1, ρ1, r, ρ', G1, e2, fun v S2 H2 F2 G2 R2 => q v S2 H2 (F1.trans F2) G2 (R2.pre ⟨G, F1, G1⟩)⟩
end
end PyI

/-! PyI, part C: statements: stores, blocks, loops. -/
namespace PyI
open PySem PySem.Spec L2

inductive Fl | nx | bk | ct | ret (r : Rs)
/-- how a state stands behind statements -/
structure Fs (S : Addr → Prop) (ρ : Rho) (σ : L2.St) (H : Hp) (S' : Addr → Prop) (ρ' : Rho) (σ' : L2.St) (H' : Hp) : Prop where
  dom : ∀ a, H a ≠ none → H' a ≠ none
  keep : ∀ a o, H a = some o → ¬ Mu ρ σ a → H' a = some o
  sh : ∀ a, S a → S' a
  new : ∀ a, S' a → S a ∨ Mu ρ σ a ∨ H a = none
  own : ∀ (i : Nat) (d : PyData) (a : Addr), ρ'[i]? = some (some (.own, d)) → σ'[i]? = some (some (V.ref a)) → H a = none ∨ ∃ (j : Nat) (d' : PyData), ρ[j]? = some (some (.own, d')) ∧ σ[j]? = some (some (V.ref a))
  lent : ∀ (i : Nat) (d : PyData), ρ'[i]? = some (some (.lent, d)) → ∃ d', ρ[i]? = some (some (.lent, d')) ∧ σ'[i]? = σ[i]?
  len : ρ'.length = ρ.length
section
variable {K : PySem.W.Frag} {S0 S S' S'' : Addr → Prop} {ρ0 ρ ρ' ρ'' : Rho} {σ σ' σ'' : L2.St} {H0 H H' H'' : Hp} {a : Addr} {v : V} {r : Rs} {d d' : PyData}
theorem Fs.refl : Fs S ρ σ H S ρ σ H := ⟨fun _ h => h, fun _ _ h _ => h, fun _ h => h, fun _ h => .inl h, fun i d a h1 h2 => .inr ⟨i, d, h1, h2⟩, fun i d h => ⟨d, h, rfl⟩, rfl⟩
theorem Fm.fs (f : Fm S ρ σ H S' ρ' H') : Fs S ρ σ H S' ρ' σ H' where
  dom := f.dom
  keep := f.keep
  sh := f.sh
  new := f.new
  own := fun i d a h1 h2 => by
    obtain ⟨d', h⟩ := f.held h1 rfl
    exact .inr ⟨i, d', h, h2⟩
  lent := fun i d h1 => by
    obtain ⟨d', h⟩ := f.held h1 rfl
    exact ⟨d', h, rfl⟩
  len := f.len
theorem Fs.mu (f : Fs S ρ σ H S' ρ' σ' H') (h : Mu ρ' σ' a) : Mu ρ σ a ∨ H a = none := by
  obtain ⟨i, st, d, h1, h2, h3⟩ := h
  cases st with
  | own =>
    rcases f.own i d a h1 h3 with z | ⟨j, d', z1, z2⟩
    · exact .inr z
    · exact .inl ⟨j, _, d', z1, rfl, z2⟩
  | lent =>
    obtain ⟨d', z1, z2⟩ := f.lent i d h1
    exact .inl ⟨i, _, d', z1, rfl, by rw [← z2]; exact h3⟩
  | _ => cases h2
theorem Fs.trans (f : Fs S ρ σ H S' ρ' σ' H') (f' : Fs S' ρ' σ' H' S'' ρ'' σ'' H'') : Fs S ρ σ H S'' ρ'' σ'' H'' where
  dom := fun a h => f'.dom a (f.dom a h)
  keep := fun a o e n => f'.keep a o (f.keep a o e n) fun m => (f.mu m).elim n fun z => by rw [z] at e; cases e
  sh := fun a h => f'.sh a (f.sh a h)
  new := fun a h => by
    have back : H' a = none → H a = none := fun z => by
      cases e : H a with
      | none => rfl
      | some o => exact absurd z (f.dom a (by rw [e]; simp))
    rcases f'.new a h with h | h | h
    · exact f.new a h
    · rcases f.mu h with z | z
      · exact .inr (.inl z)
      · exact .inr (.inr z)
    · exact .inr (.inr (back h))
  own := fun i d a h1 h2 => by
    rcases f'.own i d a h1 h2 with z | ⟨j, d', z1, z2⟩
    · refine .inl ?_
      cases e : H a with
      | none => rfl
      | some o => exact absurd z (f.dom a (by rw [e]; simp))
    · exact f.own j d' a z1 z2
  lent := fun i d h => by
    obtain ⟨d', h1, h2⟩ := f'.lent i d h
    obtain ⟨d'', h3, h4⟩ := f.lent i d' h1
    exact ⟨d'', h3, h2.trans h4⟩
  len := f'.len.trans f.len

/-- the object of an owned or lent slot is changed -/
theorem Now.mutate {i : Nat} {st : Stt} {o' : HO} (n : Now K σ S0 ρ0 H0 S ρ H) (h : ρ[i]? = some (some (st, d))) (hm : st.mut = true) (hv : σ[i]? = some (some (V.ref a))) (t : TopX K S H a d → TopX K S (upd H a o') a d') :
    Now K σ S0 ρ0 H0 S (ρ.set i (some (st, d'))) (upd H a o') := by
  have hi : i < ρ.length := (List.getElem?_eq_some_iff.mp h).1
  have hold : st.hold = true := by cases st <;> first | rfl | cases hm
  have mu : Mu ρ σ a := ⟨i, st, d, h, hm, hv⟩
  have ns : ¬ S a := fun z => n.g.notMu z mu
  have tx : TopX K S H a d := by
    obtain ⟨v, h1, h2⟩ := n.g.sl i st d h
    rw [hv] at h1; cases h1
    cases st with
    | own => obtain ⟨b, e, _, t⟩ := h2; cases e; exact t
    | lent => obtain ⟨b, e, _, t⟩ := h2; cases e; exact t
    | _ => cases hm
  have t' := t tx
  have u : Uph S H S (upd H a o') := ⟨fun _ h => h, fun b o hb e => by rw [upd_ne (show b ≠ a from fun z => ns (z ▸ hb))]; exact e⟩
  refine ⟨n.g0, ⟨fun b hb => ?_, fun b o e nm => ?_, n.f.sh, n.f.new, by rw [List.length_set]; exact n.f.len, fun j hj => ?_, fun j st1 d1 hj => ?_⟩, ⟨by rw [List.length_set]; exact n.g.len, fun j st1 d1 hj => ?_, fun j k b st1 d1 st2 d2 hj hk ha hb hvj hvk => ?_, fun b hb => ?_⟩⟩
  · by_cases z : b = a
    · rw [z, upd_same]; simp
    · rw [upd_ne z]; exact n.f.dom b hb
  · rw [upd_ne (show b ≠ a from fun z => nm (z ▸ n.f.mu mu))]
    exact n.f.keep b o e nm
  · have hj' := n.f.non j hj
    have : j ≠ i := by rintro rfl; rw [h] at hj'; cases hj'
    rw [List.getElem?_set_ne (Ne.symm this)]
    exact hj'
  · obtain ⟨st2, d2, h3, h4, h5⟩ := n.f.sts j st1 d1 hj
    by_cases hji : j = i
    · subst hji
      rw [h] at h3; cases h3
      refine ⟨st, d', by rw [List.getElem?_set_self hi], h4, fun z => ?_⟩
      rcases h4 with rfl | ⟨rfl, _⟩
      · rw [hm] at z; cases z
      · cases z
    · exact ⟨st2, d2, by rw [List.getElem?_set_ne (Ne.symm hji)]; exact h3, h4, h5⟩
  · rcases mem_set_slot hj with ⟨rfl, e1⟩ | ⟨hne, hj⟩
    · cases e1
      refine ⟨_, hv, ?_⟩
      cases st with
      | own => exact ⟨a, rfl, ns, t'⟩
      | lent => exact ⟨a, rfl, ns, t'⟩
      | _ => cases hm
    · obtain ⟨w, h3, h4⟩ := n.g.sl j st1 d1 hj
      refine ⟨w, h3, ?_⟩
      have other : ∀ b, w = .ref b → st1.hold = true → b ≠ a := fun b e1 hh e2 => hne (n.g.ne j i a st1 d1 st d hj h hh hold (by rw [h3, e1, e2]) hv)
      cases st1 with
      | shr => exact Rp.up u h4
      | own => obtain ⟨b, rfl, ns', t1⟩ := h4; exact ⟨b, rfl, ns', TopX.up u (fun o e => by rw [upd_ne (other b rfl rfl)]; exact e) t1⟩
      | lent => obtain ⟨b, rfl, ns', t1⟩ := h4; exact ⟨b, rfl, ns', TopX.up u (fun o e => by rw [upd_ne (other b rfl rfl)]; exact e) t1⟩
      | bor => obtain ⟨b, rfl, ns', t1⟩ := h4; exact ⟨b, rfl, ns', TopR.up u (fun o e => by rw [upd_ne (other b rfl rfl)]; exact e) t1⟩
      | scr =>
        obtain ⟨b, ns1, rfl, e1, k⟩ := h4
        refine ⟨b, ns1, rfl, e1, KLst.keep (fun o e => ?_) k⟩
        by_cases z : b = a
        · subst z
          exfalso
          cases d with
          | list ds => obtain ⟨vs, q, _⟩ := tx; rw [q] at e; cases e
          | dict kvs => obtain ⟨ts, q, _⟩ := tx; rw [q] at e; cases e
          | _ => exact tx.elim
        · rw [upd_ne z]; exact e
  · have f1 : ∀ {j : Nat} {st1 : Stt} {d1 : PyData}, (ρ.set i (some (st, d')))[j]? = some (some (st1, d1)) → ∃ d2, ρ[j]? = some (some (st1, d2)) := fun {j st1 d1} hj => by
      rcases mem_set_slot hj with ⟨rfl, e1⟩ | ⟨_, hj⟩
      · cases e1; exact ⟨d, h⟩
      · exact ⟨d1, hj⟩
    obtain ⟨x1, y1⟩ := f1 hj
    obtain ⟨x2, y2⟩ := f1 hk
    exact n.g.ne j k b st1 x1 st2 x2 y1 y2 ha hb hvj hvk
  · by_cases z : b = a
    · rw [z, upd_same]; simp
    · rw [upd_ne z]; exact n.g.al b hb

/-! ### a name is stored -/
def storeR (i : Nat) (r : Rs) : Mo Unit := fun ρ => match r with
  | .kept d => if i < ρ.length then some ((), ρ.set i (some (.shr, d))) else none
  | .fresh d => if i < ρ.length then some ((), ρ.set i (some (.own, d))) else none
  | .slot j => match keepR (.slot j) ρ with
    | some (d, ρ') => if i < ρ'.length then some ((), ρ'.set i (some (.shr, d))) else none
    | none => none
theorem Gd.put {i : Nat} {st : Stt} (g : Gd K S ρ σ H) (hi : i < ρ.length) (rep : SlotRep K S H v d st) (hne : ∀ b, v = .ref b → st.hold = true → ∀ (j : Nat) (st' : Stt) (d' : PyData), j ≠ i → ρ[j]? = some (some (st', d')) → st'.hold = true → σ[j]? ≠ some (some (V.ref b))) :
    Gd K S (ρ.set i (some (st, d))) (σ.set i (some v)) H := by
  have hi2 : i < σ.length := by rw [← g.len]; exact hi
  refine ⟨by rw [List.length_set, List.length_set]; exact g.len, fun j st1 d1 hj => ?_, fun j k b st1 d1 st2 d2 hj hk ha hb hvj hvk => ?_, g.al⟩
  · rcases mem_set_slot hj with ⟨rfl, e1⟩ | ⟨hne, hj⟩
    · cases e1
      exact ⟨v, by rw [List.getElem?_set_self hi2], rep⟩
    · obtain ⟨w, h3, h4⟩ := g.sl j st1 d1 hj
      exact ⟨w, by rw [List.getElem?_set_ne (Ne.symm hne)]; exact h3, h4⟩
  · rcases mem_set_slot hj with ⟨ej, e1⟩ | ⟨hj1, hj'⟩
    · cases e1
      rcases mem_set_slot hk with ⟨ek, _⟩ | ⟨hk1, hk'⟩
      · rw [ej, ek]
      · rw [ej, List.getElem?_set_self hi2] at hvj
        cases hvj
        rw [List.getElem?_set_ne (Ne.symm hk1)] at hvk
        exact absurd hvk (hne b rfl ha k st2 d2 hk1 hk' hb)
    · rw [List.getElem?_set_ne (Ne.symm hj1)] at hvj
      rcases mem_set_slot hk with ⟨ek, e1⟩ | ⟨hk1, hk'⟩
      · cases e1
        rw [ek, List.getElem?_set_self hi2] at hvk
        cases hvk
        exact absurd hvj (hne b rfl hb j st1 d1 hj1 hj' ha)
      · rw [List.getElem?_set_ne (Ne.symm hk1)] at hvk
        exact g.ne j k b st1 d1 st2 d2 hj' hk' ha hb hvj hvk
theorem Fs.put {i : Nat} {st : Stt} (f : Fs S0 ρ0 σ H0 S ρ σ' H) (hi : i < σ'.length) (hst : st = .shr ∨ (st = .own ∧ ∃ a, v = .ref a ∧ H0 a = none)) : Fs S0 ρ0 σ H0 S (ρ.set i (some (st, d))) (σ'.set i (some v)) H where
  dom := f.dom
  keep := f.keep
  sh := f.sh
  new := f.new
  own := fun j d1 b h1 h2 => by
    rcases mem_set_slot h1 with ⟨rfl, e1⟩ | ⟨hne, h1⟩
    · cases e1
      rcases hst with z | ⟨_, a, rfl, h0⟩
      · cases z
      · rw [List.getElem?_set_self hi] at h2
        cases h2
        exact .inl h0
    · rw [List.getElem?_set_ne (Ne.symm hne)] at h2
      exact f.own j d1 b h1 h2
  lent := fun j d1 h1 => by
    rcases mem_set_slot h1 with ⟨rfl, e1⟩ | ⟨hne, h1⟩
    · cases e1
      rcases hst with z | ⟨z, _⟩ <;> cases z
    · obtain ⟨d', h3, h4⟩ := f.lent j d1 h1
      exact ⟨d', h3, by rw [List.getElem?_set_ne (Ne.symm hne)]; exact h4⟩
  len := by rw [List.length_set]; exact f.len
/-- storing a result -/
theorem RR.store {i : Nat} (n : Now K σ S0 ρ0 H0 S ρ H) (h : RR K H0 S H ρ σ v r) (e : storeR i r ρ = some ((), ρ')) : ∃ S', Gd K S' ρ' (σ.set i (some v)) H ∧ Fs S0 ρ0 σ H0 S' ρ' (σ.set i (some v)) H := by
  cases r with
  | kept d =>
    unfold storeR at e
    dsimp only at e
    split at e
    · rename_i hi
      cases e
      exact ⟨S, n.g.put (st := .shr) hi h fun b _ z => (by cases z), n.f.fs.put (by rw [← n.g.len]; exact hi) (.inl rfl)⟩
    · cases e
  | fresh d =>
    unfold storeR at e
    dsimp only at e
    split at e
    · rename_i hi
      cases e
      obtain ⟨a, rfl, h0, ns, t⟩ := h
      refine ⟨S, n.g.put hi ⟨a, rfl, ns, t⟩ fun b hb _ j st' d' _ hj hh hv => ?_, n.f.fs.put (by rw [← n.g.len]; exact hi) (.inr ⟨rfl, a, rfl, h0⟩)⟩
      cases hb
      obtain ⟨d2, hj2⟩ := n.f.held hj hh
      exact n.g0.held hj2 hh hv h0
    · cases e
  | slot j =>
    unfold storeR at e
    dsimp only at e
    split at e
    · rename_i d ρ1 e1
      split at e
      · rename_i hi
        cases e
        obtain ⟨S1, n1, p1, _⟩ := h.w.keep n e1
        exact ⟨S1, n1.g.put (st := .shr) hi p1 fun b _ z => (by cases z), n1.f.fs.put (by rw [← n1.g.len]; exact hi) (.inl rfl)⟩
      · cases e
    · cases e
end

/-! ### readings of statements -/
def endOf (K : PySem.W.Frag) (D : Ends) (H0 : Hp) (S : Addr → Prop) (ρ : Rho) (σ : L2.St) (H : Hp) : Fl → Prop
  | .nx => D.nx σ H
  | .bk => D.bk σ H
  | .ct => D.ct σ H
  | .ret r => ∀ v, RR K H0 S H ρ σ v r → D.rt v H
def tS (K : PySem.W.Frag) (f : Mo Fl) : TS := fun D σ H => ∃ S ρ fl ρ', Gd K S ρ σ H ∧ f ρ = some (fl, ρ') ∧ ∀ σ' S' H', Fs S ρ σ H S' ρ' σ' H' → Gd K S' ρ' σ' H' → endOf K D H S' ρ' σ' H' fl
abbrev SD (X : Cx) (st : Stmt) (f : Mo Fl) : Prop := PS X st (tS X.K f)
abbrev BD (X : Cx) (st : List Stmt) (f : Mo Fl) : Prop := PSs X st (tS X.K f)
theorem endOf.pre {K : PySem.W.Frag} {D : Ends} {H0 H1 : Hp} {S : Addr → Prop} {ρ : Rho} {σ : L2.St} {H : Hp} {fl : Fl} (dom : ∀ a, H0 a ≠ none → H1 a ≠ none) (h : endOf K D H0 S ρ σ H fl) : endOf K D H1 S ρ σ H fl := by
  cases fl with
  | ret r =>
    intro v hr
    refine h v ?_
    cases r with
    | kept d => exact hr
    | fresh d =>
      obtain ⟨a, e, h0, q⟩ := hr
      refine ⟨a, e, ?_, q⟩
      cases z : H0 a with
      | none => rfl
      | some o => exact absurd h0 (dom a (by rw [z]; simp))
    | slot i => exact hr
  | _ => exact h
def sSeq (f g : Mo Fl) : Mo Fl := fun ρ => match f ρ with
  | some (.nx, ρ') => g ρ'
  | x => x
def sPass : Mo Fl := retM .nx
def sBreak : Mo Fl := retM .bk
def sCont : Mo Fl := retM .ct
def sDrop (f : Mo Rs) : Mo Fl := bindM f fun _ => retM .nx
def sRet (f : Mo Rs) : Mo Fl := bindM f fun r => retM (.ret r)
def sSet (i : Nat) (f : Mo Rs) : Mo Fl := bindM f fun r => bindM (storeR i r) fun _ => retM .nx
def sIf (t : Mo Bool) (f g : Mo Fl) : Mo Fl := bindM t fun b => if b = true then f else g
theorem sSeq_some {f g : Mo Fl} {ρ ρ' : Rho} {fl : Fl} (h : sSeq f g ρ = some (fl, ρ')) : (∃ ρ1, f ρ = some (.nx, ρ1) ∧ g ρ1 = some (fl, ρ')) ∨ (fl ≠ .nx ∧ f ρ = some (fl, ρ')) := by
  unfold sSeq at h
  split at h
  · rename_i ρ1 e; exact .inl ⟨ρ1, e, h⟩
  · rename_i x hx
    exact .inr ⟨by rintro rfl; exact hx ρ' h, h⟩
section
variable {X : Cx} {st : Stmt} {rest : List Stmt} {e c : Expr} {f g : Mo Fl} {fe : Mo Rs} {ft : Mo Bool} {pos : Pos}
theorem bd_nil : BD X [] sPass := PSs.to pss_nil fun D σ H h => by
  obtain ⟨S, ρ, r, ρ', g, e, q⟩ := h
  cases retM_some e
  exact q σ S H Fs.refl g
theorem bd_cons (h1 : SD X st f) (h2 : BD X rest g) : BD X (st :: rest) (sSeq f g) := PSs.to (pss_cons h1 h2) fun D σ H h => by
  obtain ⟨S, ρ, fl, ρ', G, e, q⟩ := h
  rcases sSeq_some e with ⟨ρ1, e1, e2⟩ | ⟨hn, e1⟩
  · exact ⟨S, ρ, .nx, ρ1, G, e1, fun σ1 S1 H1 F1 G1 => ⟨S1, ρ1, fl, ρ', G1, e2, fun σ2 S2 H2 F2 G2 => (q σ2 S2 H2 (F1.trans F2) G2).pre F1.dom⟩⟩
  · refine ⟨S, ρ, fl, ρ', G, e1, fun σ1 S1 H1 F1 G1 => ?_⟩
    have := q σ1 S1 H1 F1 G1
    cases fl with
    | nx => exact absurd rfl hn
    | _ => exact this
theorem bd_one (h1 : SD X st f) : BD X [st] f := pss_one h1
theorem sd_pass : SD X (.Pass pos) sPass := PS.to ps_pass fun D σ H h => by
  obtain ⟨S, ρ, r, ρ', g, e, q⟩ := h
  cases retM_some e
  exact q σ S H Fs.refl g
theorem sd_break : SD X (.Break pos) sBreak := PS.to ps_break fun D σ H h => by
  obtain ⟨S, ρ, r, ρ', g, e, q⟩ := h
  cases retM_some e
  exact q σ S H Fs.refl g
theorem sd_cont : SD X (.Continue pos) sCont := PS.to ps_continue fun D σ H h => by
  obtain ⟨S, ρ, r, ρ', g, e, q⟩ := h
  cases retM_some e
  exact q σ S H Fs.refl g
theorem sd_expr (he : PD X e fe) (hs : swapsWith e none pos.line X.env = pure false := by rfl) : SD X (.Expr e pos) (sDrop fe) := PS.to (ps_expr he hs) fun D σ H h => by
  obtain ⟨S, ρ, r, ρ', G, e, q⟩ := h
  obtain ⟨r1, ρ1, e1, e2⟩ := bindM_some e
  cases retM_some e2
  exact ⟨S, ρ, r1, _, G, e1, fun v S1 H1 F1 G1 R1 => q σ S1 H1 F1.fs G1⟩
theorem sd_ret (he : PD X e fe) : SD X (.Return (some e) pos) (sRet fe) := PS.to (ps_ret he) fun D σ H h => by
  obtain ⟨S, ρ, r, ρ', G, e, q⟩ := h
  obtain ⟨r1, ρ1, e1, e2⟩ := bindM_some e
  cases retM_some e2
  exact ⟨S, ρ, r1, _, G, e1, fun v S1 H1 F1 G1 R1 => q σ S1 H1 F1.fs G1 v R1⟩
theorem sd_retN : SD X (.Return none pos) (sRet (xC .none)) := PS.to ps_retN fun D σ H h => by
  obtain ⟨S, ρ, r, ρ', G, e, q⟩ := h
  obtain ⟨r1, ρ1, e1, e2⟩ := bindM_some e
  cases retM_some e2
  cases retM_some e1
  exact q σ S H Fs.refl G .non .non
theorem sd_set (i : Nat) {x : Str} {pos' : Pos} (hN : X.N.Nodup) (he : PD X e fe) (hi : X.N[i]? = some x := by rfl) (hx : Loc X.env.scope x := by first | exact Or.inl rfl | exact Or.inr rfl) (hs : swapsWith e (some (.Name x pos')) pos.line X.env = pure false := by rfl)
    (hf : X.fn x = true ∨ X.env.scope.names.lookup x = some .local := by first | exact .inl rfl | exact .inr rfl | assumption) : SD X (.Assign [.Name x pos'] e pos) (sSet i fe) := PS.to (ps_set hN hi hx he hs hf) fun D σ H h => by
  obtain ⟨S, ρ, r, ρ', G, e, q⟩ := h
  obtain ⟨r1, ρ1, e1, e2⟩ := bindM_some e
  obtain ⟨u, ρ2, e3, e4⟩ := bindM_some e2
  cases retM_some e4
  refine ⟨S, ρ, r1, ρ1, G, e1, fun v S1 H1 F1 G1 R1 => ?_⟩
  obtain ⟨S2, G2, F2⟩ := R1.store ⟨G, F1, G1⟩ e3
  exact q _ S2 H1 F2 G2
theorem sd_if {a b : List Stmt} (hc : TD X c ft) (ha : BD X a f) (hb : BD X b g) : SD X (.If c a b pos) (sIf ft f g) := PS.to (ps_if hc ha hb) fun D σ H h => by
  obtain ⟨S, ρ, fl, ρ', G, e, q⟩ := h
  obtain ⟨b1, ρ1, e1, e2⟩ := bindM_some e
  refine ⟨S, ρ, b1, ρ1, G, e1, fun S1 H1 F1 G1 => ?_⟩
  cases b1 with
  | true => exact ⟨S1, ρ1, fl, ρ', G1, e2, fun σ2 S2 H2 F2 G2 => (q σ2 S2 H2 (F1.fs.trans F2) G2).pre F1.dom⟩
  | false => exact ⟨S1, ρ1, fl, ρ', G1, e2, fun σ2 S2 H2 F2 G2 => (q σ2 S2 H2 (F1.fs.trans F2) G2).pre F1.dom⟩

/-! ### while -/
def whileM : Nat → Mo Bool → Mo Fl → Mo Fl
  | 0, _, _ => fun _ => none
  | m + 1, t, b => fun ρ => match t ρ with
    | some (true, ρ1) => match b ρ1 with
      | some (.nx, ρ2) => whileM m t b ρ2
      | some (.ct, ρ2) => whileM m t b ρ2
      | some (.bk, ρ2) => some (.nx, ρ2)
      | some (.ret r, ρ2) => some (.ret r, ρ2)
      | none => none
    | some (false, ρ1) => some (.nx, ρ1)
    | none => none
theorem sd_while {body : List Stmt} (m : Nat) (hc : TD X c ft) (hb : BD X body f) (hp : PassesOwn (model X.prog X.w) X.A X.env X.xe := by exact PassesOwn.never) : SD X (.While c body [] pos) (whileM m ft f) := PS.to (ps_while hp hc hb) fun D σ H h => by
  obtain ⟨S, ρ, fl, ρ', G, e, q⟩ := h
  refine ⟨fun k σ1 H1 => ∃ S1 ρ1, Gd X.K S1 ρ1 σ1 H1 ∧ Fs S ρ σ H S1 ρ1 σ1 H1 ∧ whileM k ft f ρ1 = some (fl, ρ'), ⟨m, S, ρ, G, Fs.refl, e⟩, ?_⟩
  rintro k σ1 H1 ⟨S1, ρ1, G1, F1, e1⟩
  cases k with
  | zero => cases e1
  | succ k =>
    unfold whileM at e1
    cases et : ft ρ1 with
    | none => rw [et] at e1; cases e1
    | some p =>
      obtain ⟨b, ρ2⟩ := p
      rw [et] at e1
      refine ⟨S1, ρ1, b, ρ2, G1, et, fun S2 H2 F2 G2 => ?_⟩
      have F12 := F1.trans F2.fs
      cases b with
      | false => cases e1; exact q σ1 S2 H2 F12 G2
      | true =>
        dsimp only at e1
        cases eb : f ρ2 with
        | none => rw [eb] at e1; cases e1
        | some p =>
          obtain ⟨fl2, ρ3⟩ := p
          rw [eb] at e1
          refine ⟨fun σ' H' => ∃ S' ρ', Gd X.K S' ρ' σ' H' ∧ Fs S ρ σ H S' ρ' σ' H' ∧ fl2 ≠ .bk ∧ whileM k ft f ρ' = some (fl, _), fun σ' H' ⟨S', ρ', g', f', _, e'⟩ => ⟨k, Nat.lt_succ_self k, S', ρ', g', f', e'⟩, S2, ρ2, fl2, ρ3, G2, eb, fun σ3 S3 H3 F3 G3 => ?_⟩
          have F13 := F12.trans F3
          cases fl2 with
          | nx => exact ⟨S3, ρ3, G3, F13, by simp, e1⟩
          | ct => exact ⟨S3, ρ3, G3, F13, by simp, e1⟩
          | bk => cases e1; exact q σ3 S3 H3 F13 G3
          | ret r => 
            cases e1
            exact (q σ3 S3 H3 F13 G3).pre (fun a ha => F12.dom a ha)
end
end PyI

/-! PyI, part D: targets, what a for walks, for. -/
namespace PyI
open PySem PySem.Spec L2

/-! ### targets, for data that is shared -/
/-- how a target stores; the slots that it stores -/
structure G1 where
  run : PyData → Mo Unit
  vs : List Nat
structure G2 where
  run : List PyData → Mo Unit
  vs : List Nat
/-- the slots vs alone are stored, with what is shared -/
structure Sto (vs : List Nat) (ρ : Rho) (σ : L2.St) (ρ' : Rho) (σ' : L2.St) : Prop where
  len : σ'.length = σ.length
  off : ∀ i : Nat, i ∉ vs → ρ'[i]? = ρ[i]? ∧ σ'[i]? = σ[i]?
  on : ∀ (i : Nat) (st : Stt) (d : PyData), i ∈ vs → ρ'[i]? = some (some (st, d)) → st = .shr ∨ ρ[i]? = some (some (st, d))
theorem Sto.refl {vs : List Nat} {ρ : Rho} {σ : L2.St} : Sto vs ρ σ ρ σ := ⟨rfl, fun _ _ => ⟨rfl, rfl⟩, fun _ _ _ _ h => .inr h⟩
theorem Sto.trans {vs ws : List Nat} {ρ ρ' ρ'' : Rho} {σ σ' σ'' : L2.St} (a : Sto vs ρ σ ρ' σ') (b : Sto ws ρ' σ' ρ'' σ'') : Sto (vs ++ ws) ρ σ ρ'' σ'' := by
  refine ⟨b.len.trans a.len, fun i hi => ?_, fun i st d hi h => ?_⟩
  · rw [List.mem_append, not_or] at hi
    exact ⟨(b.off i hi.2).1.trans (a.off i hi.1).1, (b.off i hi.2).2.trans (a.off i hi.1).2⟩
  · have h1 : st = .shr ∨ ρ'[i]? = some (some (st, d)) := by
      by_cases hw : i ∈ ws
      · exact b.on i st d hw h
      · rw [(b.off i hw).1] at h; exact .inr h
    rcases h1 with h1 | h1
    · exact .inl h1
    · by_cases hv : i ∈ vs
      · exact a.on i st d hv h1
      · rw [(a.off i hv).1] at h1; exact .inr h1
def tG (K : PySem.W.Frag) (g : G1) : TG := fun v σ H Q => ∃ S ρ d ρ', Gd K S ρ σ H ∧ Rp K S H v d ∧ g.run d ρ = some ((), ρ') ∧ ∀ σ', Gd K S ρ' σ' H → Fs S ρ σ H S ρ' σ' H → Sto g.vs ρ σ ρ' σ' → Q σ' H
def tGs (K : PySem.W.Frag) (g : G2) : TGs := fun vs σ H Q => ∃ S ρ ds ρ', Gd K S ρ σ H ∧ RpL K S H vs ds ∧ g.run ds ρ = some ((), ρ') ∧ ∀ σ', Gd K S ρ' σ' H → Fs S ρ σ H S ρ' σ' H → Sto g.vs ρ σ ρ' σ' → Q σ' H
abbrev GD (X : Cx) (target : Expr) (g : G1) : Prop := PG X target (tG X.K g)
abbrev GsD (X : Cx) (ts : List Expr) (g : G2) : Prop := PGs X ts (tGs X.K g)
theorem PG.to {X : Cx} {e : Expr} {t t' : TG} (h : PG X e t) (i : ∀ v σ H Q, t' v σ H Q → t v σ H Q) : PG X e t' := ⟨fun pins s σ H v u Q I r q => h.run pins s σ H v u Q I r (i v σ H Q q)⟩
theorem PGs.to {X : Cx} {e : List Expr} {t t' : TGs} (h : PGs X e t) (i : ∀ v σ H Q, t' v σ H Q → t v σ H Q) : PGs X e t' := ⟨fun pins s σ H v u Q I r q => h.run pins s σ H v u Q I r (i v σ H Q q)⟩
/-- a name -/
def gN (i : Nat) : G1 := ⟨fun d => storeR i (.kept d), [i]⟩
def gsNrun : List PyData → Mo Unit
  | [] => retM ()
  | _ => fun _ => none
def gsN : G2 := ⟨gsNrun, []⟩
def gsCrun (g : G1) (gs : G2) : List PyData → Mo Unit
  | d :: ds => bindM (g.run d) fun _ => gs.run ds
  | [] => fun _ => none
def gsC (g : G1) (gs : G2) : G2 := ⟨gsCrun g gs, g.vs ++ gs.vs⟩
/-- a tuple of targets; a list unpacked -/
def gTrun (g : G2) : PyData → Mo Unit
  | .tuple ds => g.run ds
  | _ => fun _ => none
def gT (g : G2) : G1 := ⟨gTrun g, g.vs⟩
def gLrun (g : G2) : PyData → Mo Unit
  | .list ds => g.run ds
  | _ => fun _ => none
def gL (g : G2) : G1 := ⟨gLrun g, g.vs⟩
theorem storeK {K : PySem.W.Frag} {S : Addr → Prop} {ρ ρ' : Rho} {σ : L2.St} {H : Hp} {v : V} {d : PyData} {i : Nat} (g : Gd K S ρ σ H) (r : Rp K S H v d) (e : storeR i (.kept d) ρ = some ((), ρ')) :
    Gd K S ρ' (σ.set i (some v)) H ∧ Fs S ρ σ H S ρ' (σ.set i (some v)) H ∧ Sto [i] ρ σ ρ' (σ.set i (some v)) := by
  unfold storeR at e
  dsimp only at e
  split at e
  · rename_i hi
    cases e
    refine ⟨g.put (st := .shr) hi r fun b _ z => (by cases z), Fs.refl.put (by rw [← g.len]; exact hi) (.inl rfl), by rw [List.length_set], fun j hj => ?_, fun j st d' hj h => ?_⟩
    · have hne : i ≠ j := fun z => hj (by simp [z])
      exact ⟨List.getElem?_set_ne hne, List.getElem?_set_ne hne⟩
    · have hji : j = i := by simpa using hj
      subst hji
      rw [List.getElem?_set_self hi] at h
      cases h
      exact .inl rfl
  · cases e
theorem Rdb.seqT {K : PySem.W.Frag} {S : Addr → Prop} {H : Hp} {v : V} {ds : List PyData} (h : Rdb K S H v (.tuple ds)) : ∃ a vs, v = .ref a ∧ STup K S H a vs ∧ RpL K S H vs ds := by
  rcases h with h | ⟨a, _, h⟩
  · cases h with
    | tup h1 h2 => exact ⟨_, _, rfl, h1, h2⟩
  · exact h.elim
theorem STup.sqT {K : PySem.W.Frag} {S : Addr → Prop} {H : Hp} {a : Addr} {vs : List V} (h : STup K S H a vs) : SqT K H a vs := by
  rcases h with ⟨_, h⟩ | h
  · exact SqT.of h
  · exact .inr h
theorem Rdb.seqL {K : PySem.W.Frag} {S : Addr → Prop} {H : Hp} {v : V} {ds : List PyData} (h : Rdb K S H v (.list ds)) : ∃ a vs, v = .ref a ∧ H a = some (.lst vs) ∧ RpL K S H vs ds := by
  rcases h with h | ⟨a, e, vs, h1, h2⟩
  · cases h with
    | lst h1 h2 h3 => exact ⟨_, _, rfl, h2, h3⟩
  · exact ⟨a, vs, e, h1, h2⟩
section
variable {X : Cx} {pos : Pos} {e : Expr} {es : List Expr} {g : G1} {gs : G2}
theorem gd_name (i : Nat) {x : Str} (hN : X.N.Nodup) (hi : X.N[i]? = some x := by rfl) (hx : Loc X.env.scope x := by first | exact Or.inl rfl | exact Or.inr rfl)
    (hf : X.fn x = true ∨ X.env.scope.names.lookup x = some .local := by first | exact .inl rfl | exact .inr rfl | assumption) : GD X (.Name x pos) (gN i) := PG.to (pg_name hN hi hx hf) fun v σ H Q h => by
  obtain ⟨S, ρ, d, ρ', G, r, e, q⟩ := h
  obtain ⟨G1, F1, O1⟩ := storeK G r e
  exact q _ G1 F1 O1
theorem gds_nil : GsD X [] gsN := PGs.to pgs_nil fun vs σ H Q h => by
  obtain ⟨S, ρ, ds, ρ', G, r, e, q⟩ := h
  cases ds with
  | nil =>
    cases r
    cases retM_some e
    exact ⟨rfl, q σ G Fs.refl Sto.refl⟩
  | cons d ds => cases e
theorem gds_cons (h1 : GD X e g) (h2 : GsD X es gs) (hs : (assignEach (e :: es) X.env).map (·.2) = assign e X.env :: (assignEach es X.env).map (·.2) := by rfl) : GsD X (e :: es) (gsC g gs) := PGs.to (pgs_cons h1 h2 hs) fun vs σ H Q h => by
  obtain ⟨S, ρ, ds, ρ', G, r, e, q⟩ := h
  cases ds with
  | nil => cases e
  | cons d ds =>
    cases r with
    | cons r rr =>
      obtain ⟨u, ρ1, e1, e2⟩ := bindM_some e
      refine ⟨_, _, rfl, S, ρ, d, ρ1, G, r, e1, fun σ1 G1 F1 O1 => ⟨S, ρ1, ds, ρ', G1, rr, e2, fun σ2 G2 F2 O2 => q σ2 G2 (F1.trans F2) (O1.trans O2)⟩⟩
theorem gd_tup {k : Nat} (n : Nat) (hc : X.calm = true) (h : GsD X es gs) (hl : ∀ ds ρ x, gs.run ds ρ = some x → ds.length = n) (hn : (assignEach es X.env).length = n := by rfl) (hst : (assignEach es X.env).findIdx? (·.1) = none := by rfl) : GD X (.Tuple es k pos) (gT gs) := PG.to (pg_tup hc h hn hst) fun v σ H Q h => by
  obtain ⟨S, ρ, d, ρ', G, r, e, q⟩ := h
  cases d with
  | tuple ds =>
    obtain ⟨a, vs, rfl, st, rl⟩ := Rdb.seqT (.inl r)
    exact ⟨a, vs, rfl, st.sqT, by rw [rl.len]; exact hl ds ρ _ e, S, ρ, ds, ρ', G, rl, e, q⟩
  | _ => cases e
theorem gsN_len (ds : List PyData) (ρ : Rho) (x : Unit × Rho) (h : gsN.run ds ρ = some x) : ds.length = 0 := by
  cases ds with
  | nil => rfl
  | cons d ds => cases h
theorem gsC_len {n : Nat} (hl : ∀ ds ρ x, gs.run ds ρ = some x → ds.length = n) (ds : List PyData) (ρ : Rho) (x : Unit × Rho) (h : (gsC g gs).run ds ρ = some x) : ds.length = n + 1 := by
  cases ds with
  | nil => cases h
  | cons d ds =>
    obtain ⟨u, ρ1, e1, e2⟩ := bindM_some h
    rw [List.length_cons, hl ds ρ1 x e2]
end

/-! ### what is walked -/
/-- the iterator J yields the data ds, in any state in which what was shared, and the objects of T, stand -/
def Walk (K : PySem.W.Frag) (J : It) (ds : List PyData) (T : Addr → Prop) (S0 : Addr → Prop) (H0 : Hp) : Prop :=
  ∀ (S : Addr → Prop) (H : Hp) (i : Nat), Uph S0 H0 S H → (∀ a o, T a → H0 a = some o → H a = some o) → (∀ a, S a → H a ≠ none) →
    (i < ds.length → J.go i H ∧ ∀ x H', J.yld i H x H' → ∃ S' d, Gw S H S' H' ∧ ds[i]? = some d ∧ Rp K S' H' x d) ∧ (ds.length ≤ i → J.stop i H)
def tI (K : PySem.W.Frag) (f : Mo (List PyData)) : TI := fun σ H R => ∃ S ρ ds ρ', Gd K S ρ σ H ∧ f ρ = some (ds, ρ') ∧ ∀ J S' H' T, Fm S ρ σ H S' ρ' H' → Gd K S' ρ' σ H' → (∀ a, T a → H' a ≠ none ∧ ¬ Mu ρ' σ a) → Walk K J ds T S' H' → R J H'
abbrev ID (X : Cx) (tg iter : Expr) (f : Mo (List PyData)) : Prop := PI X tg iter (tI X.K f)
theorem PI.to {X : Cx} {tg e : Expr} {t t' : TI} (h : PI X tg e t) (i : ∀ σ H R, t' σ H R → t σ H R) : PI X tg e t' := ⟨fun pins s σ H R I q => h.run pins s σ H R I (i σ H R q)⟩
/-- a list or a tuple -/
def iSeq (K : PySem.W.Frag) (tl : TE) : TI := fun σ H R => tl σ H fun x H1 => ∃ a, x = .ref a ∧ ((∃ xs, SqL K H1 a xs ∧ R (Itl K a) H1) ∨ ∃ xs, SqT K H1 a xs ∧ R (Itt K a) H1)
theorem pi_seq {X : Cx} {tg : Expr} {l : Expr} {tl : TE} (hl : PE X l tl) : PI X tg l (iSeq X.K tl) := by
  refine ⟨fun pins s σ H R I h => ?_⟩
  refine thn (hl.run pins s σ H _ I h) fun v s1 ⟨x, H1, I1, r1, q1⟩ => ?_
  obtain ⟨a, e, q⟩ := q1
  subst e
  cases r1
  have hf : ∀ b ∈ [s1.heap.objs.size], FpOk X pins H1 b := fun b hb => by
    have e : b = s1.heap.objs.size := by simpa using hb
    subst e
    exact I1.fpOk (Nat.le_refl _) (I1.hok.fresh (Nat.le_refl _))
  rcases q with ⟨xs, hq, q⟩ | ⟨xs, hq, q⟩
  · obtain ⟨its, rv, p, hz⟩ := I1.list hq
    exact wpAny_pyIter_list p.isList ⟨s1.heap.objs.size, [s1.heap.objs.size], _, _, H1, rfl, I1.kept (t' := s1.toks) fun b o e => Heap.get?_push_of_some _ e, turn_list a _, ⟨_, Heap.get?_push_size _ rfl, rfl, rfl⟩, hf, q⟩
  · obtain ⟨its, rv, p, hz⟩ := I1.tuple hq
    exact wpAny_pyIter_tuple (show s1.heap.IsTuple a its.toArray from p) ⟨s1.heap.objs.size, [s1.heap.objs.size], _, _, H1, rfl, I1.kept (t' := s1.toks) fun b o e => Heap.get?_push_of_some _ e, turn_tuple a _, ⟨_, Heap.get?_push_size _ rfl, rfl, rfl⟩, hf, q⟩
/-- what is walked may be borrowed -/
def iterR (r : Rs) : Mo PyData := fun ρ => match r with
  | .slot i => match ρ[i]? with
    | some (some (.bor, d)) => some (d, ρ)
    | _ => keepR r ρ
  | _ => keepR r ρ
def seqOf : PyData → Option (List PyData)
  | .list ds => some ds
  | .tuple ds => some ds
  | _ => none
def iS (f : Mo Rs) : Mo (List PyData) := bindM f fun r => bindM (iterR r) fun d => optM (seqOf d)
theorem walk_list {K : PySem.W.Frag} {T S0 : Addr → Prop} {H0 : Hp} {a : Addr} {vs : List V} {ds : List PyData} (h : H0 a = some (.lst vs)) (r : RpL K S0 H0 vs ds) (ht : S0 a ∨ T a) : Walk K (Itl K a) ds T S0 H0 := by
  intro S H i u t al
  have hH : H a = some (.lst vs) := ht.elim (fun z => u.at' a _ z h) fun z => t a _ z h
  have r' := RpL.up u r
  refine ⟨fun hi => ⟨?_, fun x H' y => ?_⟩, fun hi => ⟨vs, SqL.of hH, by rw [r'.len]; exact hi⟩⟩
  · obtain ⟨v, hv, _⟩ := r'.get (List.getElem?_eq_getElem hi)
    exact ⟨vs, v, SqL.of hH, hv⟩
  · obtain ⟨rfl, y⟩ := y
    obtain ⟨d, hd, rd⟩ := r'.get' (y vs (SqL.of hH))
    exact ⟨S, d, Gw.refl al, hd, rd⟩
theorem walk_tup {K : PySem.W.Frag} {T S0 : Addr → Prop} {H0 : Hp} {a : Addr} {vs : List V} {ds : List PyData} (h : STup K S0 H0 a vs) (r : RpL K S0 H0 vs ds) : Walk K (Itt K a) ds T S0 H0 := by
  intro S H i u t al
  have hH : SqT K H a vs := (u.stup h).sqT
  have r' := RpL.up u r
  refine ⟨fun hi => ⟨?_, fun x H' y => ?_⟩, fun hi => ⟨vs, hH, by rw [r'.len]; exact hi⟩⟩
  · obtain ⟨v, hv, _⟩ := r'.get (List.getElem?_eq_getElem hi)
    exact ⟨vs, v, hH, hv⟩
  · obtain ⟨rfl, y⟩ := y
    obtain ⟨d, hd, rd⟩ := r'.get' (y vs hH)
    exact ⟨S, d, Gw.refl al, hd, rd⟩
/-- what is walked, read -/
theorem RR.iter {K : PySem.W.Frag} {S0 S : Addr → Prop} {ρ0 ρ ρ' : Rho} {σ : L2.St} {H0 H : Hp} {v : V} {r : Rs} {d : PyData} (n : Now K σ S0 ρ0 H0 S ρ H) (h : RR K H0 S H ρ σ v r) (e : iterR r ρ = some (d, ρ')) :
    ∃ S', Now K σ S0 ρ0 H0 S' ρ' H ∧ (Rp K S' H v d ∨ ∃ a, v = .ref a ∧ H a ≠ none ∧ ¬ Mu ρ' σ a ∧ TopR K S' H a d) := by
  have old : keepR r ρ = some (d, ρ') → ∃ S', Now K σ S0 ρ0 H0 S' ρ' H ∧ (Rp K S' H v d ∨ ∃ a, v = .ref a ∧ H a ≠ none ∧ ¬ Mu ρ' σ a ∧ TopR K S' H a d) := fun e => by
    obtain ⟨S', n', p, _⟩ := h.w.keep n e
    exact ⟨S', n', .inl p⟩
  unfold iterR at e
  cases r with
  | kept d' => exact old e
  | fresh d' => exact old e
  | slot i =>
    dsimp only at e
    split at e
    · rename_i d' hb
      cases e
      obtain ⟨h1, _⟩ := h
      obtain ⟨w, h2, a, h3, h4, h5⟩ := n.g.sl i _ _ hb
      rw [h1] at h2; cases h2
      subst h3
      refine ⟨S, n, .inr ⟨a, rfl, TopR.there h5, ?_, h5⟩⟩
      rintro ⟨j, st, d2, z1, z2, z3⟩
      have hold : st.hold = true := by cases st <;> first | rfl | cases z2
      have := n.g.ne j i a st d2 .bor _ z1 hb hold rfl z3 h1
      subst this
      rw [hb] at z1
      cases z1
      cases z2
    · exact old e
section
variable {X : Cx} {tg l : Expr} {f : Mo Rs} {pos : Pos}
theorem id_seq (hl : PD X l f) : ID X tg l (iS f) := PI.to (pi_seq hl) fun σ H R h => by
  obtain ⟨S, ρ, ds, ρ', G, e, q⟩ := h
  obtain ⟨r, ρ1, e1, e2⟩ := bindM_some e
  obtain ⟨d, ρ2, e3, e4⟩ := bindM_some e2
  obtain ⟨e5, e6⟩ := optM_some e4
  simp only at e5 e6
  subst e6
  refine ⟨S, ρ, r, ρ1, G, e1, fun v S1 H1 F1 G1 R1 => ?_⟩
  obtain ⟨S2, n2, p⟩ := R1.iter ⟨G, F1, G1⟩ e3
  cases d with
  | list xs =>
    cases e5
    rcases p with p | ⟨a, rfl, ha, nm, vs, h1, h2⟩
    · cases p with
      | lst hs h1 h2 => exact ⟨_, rfl, .inl ⟨_, SqL.of h1, q _ S2 H1 (fun _ => False) n2.f n2.g (fun _ h => h.elim) (walk_list h1 h2 (.inl hs))⟩⟩
    · exact ⟨a, rfl, .inl ⟨_, SqL.of h1, q _ S2 H1 (fun b => b = a) n2.f n2.g (fun b h => by subst h; exact ⟨ha, nm⟩) (walk_list h1 h2 (.inr rfl))⟩⟩
  | tuple xs =>
    cases e5
    rcases p with p | ⟨a, rfl, ha, nm, z⟩
    · cases p with
      | tup h1 h2 => exact ⟨_, rfl, .inr ⟨_, h1.sqT, q _ S2 H1 (fun _ => False) n2.f n2.g (fun _ h => h.elim) (walk_tup h1 h2)⟩⟩
    · exact z.elim
  | _ => cases e5

/-! ### for -/
def forM : List PyData → G1 → Mo Fl → Mo Fl
  | [], _, _ => retM .nx
  | d :: ds, g, b => fun ρ => match g.run d ρ with
    | some (_, ρ1) => match b ρ1 with
      | some (.nx, ρ2) => forM ds g b ρ2
      | some (.ct, ρ2) => forM ds g b ρ2
      | some (.bk, ρ2) => some (.nx, ρ2)
      | some (.ret r, ρ2) => some (.ret r, ρ2)
      | none => none
    | none => none
def sFor (f : Mo (List PyData)) (g : G1) (b : Mo Fl) : Mo Fl := bindM f fun ds => forM ds g b
theorem for_ok {K : PySem.W.Frag} {f : Mo (List PyData)} {g : G1} {b : Mo Fl} {D : Ends} {σ : L2.St} {H : Hp} (h : tS K (sFor f g b) D σ H) : tFor (tI K f) (tG K g) (tS K b) D σ H := by
  obtain ⟨S, ρ, fl, ρ', G, e, q⟩ := h
  obtain ⟨ds, ρ1, e1, e2⟩ := bindM_some e
  refine ⟨S, ρ, ds, ρ1, G, e1, fun J S1 H1 T F1 G1 hT W => ?_⟩
  refine ⟨fun i m σ2 H2 => ∃ S2 ρ2, Gd K S2 ρ2 σ2 H2 ∧ Fs S1 ρ1 σ H1 S2 ρ2 σ2 H2 ∧ i ≤ ds.length ∧ m = ds.length - i ∧ forM (ds.drop i) g b ρ2 = some (fl, ρ'), ⟨ds.length, S1, ρ1, G1, Fs.refl, Nat.zero_le _, rfl, e2⟩, ?_⟩
  rintro i m σ2 H2 ⟨S2, ρ2, G2, F2, hi, rfl, e3⟩
  have F02 := F1.fs.trans F2
  have u : Uph S1 H1 S2 H2 := ⟨F2.sh, fun a o hs ha => F2.keep a o ha (G1.notMu hs)⟩
  have t : ∀ a o, T a → H1 a = some o → H2 a = some o := fun a o ha h => F2.keep a o h (hT a ha).2
  obtain ⟨w1, w2⟩ := W S2 H2 i u t G2.al
  by_cases hlt : i < ds.length
  · obtain ⟨go, yl⟩ := w1 hlt
    refine .inr ⟨go, fun σ' H' => ∃ S' ρ2', Gd K S' ρ2' σ' H' ∧ Fs S1 ρ1 σ H1 S' ρ2' σ' H' ∧ forM (ds.drop (i + 1)) g b ρ2' = some (fl, ρ'), fun σ' H' ⟨S', ρ2', g', f', e'⟩ => ⟨ds.length - (i + 1), by omega, S', ρ2', g', f', hlt, rfl, e'⟩, fun x H3 y => ?_⟩
    obtain ⟨S3, d, E3, hd, rp⟩ := yl x H3 y
    have hdrop : ds.drop i = d :: ds.drop (i + 1) := by
      rw [List.drop_eq_getElem_cons hlt]
      rw [List.getElem?_eq_getElem hlt] at hd
      cases hd
      rfl
    rw [hdrop] at e3
    unfold forM at e3
    cases eg : g.run d ρ2 with
    | none => rw [eg] at e3; cases e3
    | some p =>
      obtain ⟨_, ρ3⟩ := p
      rw [eg] at e3
      dsimp only at e3
      have G3 := G2.ext E3
      have F03 := F2.trans (E3.fr (ρ := ρ2) (σ := σ2)).fs
      refine ⟨S3, ρ2, d, ρ3, G3, rp, eg, fun σ4 G4 F4 _ => ?_⟩
      have F04 := F03.trans F4
      cases eb : b ρ3 with
      | none => rw [eb] at e3; cases e3
      | some p =>
        obtain ⟨fl2, ρ5⟩ := p
        rw [eb] at e3
        refine ⟨S3, ρ3, fl2, ρ5, G4, eb, fun σ5 S5 H5 F5 G5 => ?_⟩
        have F05 := F04.trans F5
        cases fl2 with
        | nx => exact ⟨S5, ρ5, G5, F05, e3⟩
        | ct => exact ⟨S5, ρ5, G5, F05, e3⟩
        | bk => cases e3; exact q σ5 S5 H5 (F1.fs.trans F05) G5
        | ret r =>
          cases e3
          exact (q σ5 S5 H5 (F1.fs.trans F05) G5).pre (fun a ha => F04.dom a (F1.dom a ha))
  · have hie : ds.drop i = [] := List.drop_eq_nil_of_le (by omega)
    rw [hie] at e3
    cases retM_some e3
    exact .inl ⟨w2 (by omega), q σ2 S2 H2 F02 G2⟩
theorem sd_for {iter : Expr} {body : List Stmt} {fi : Mo (List PyData)} {g : G1} {b : Mo Fl} (hc : X.calm = true) (hi : ID X tg iter fi) (hg : GD X tg g) (hb : BD X body b) (hp : PassesOwn (model X.prog X.w) X.A X.env X.xe := by exact PassesOwn.never)
    (hs : ∀ x, foldedSetIterable iter X.env x = pure x := by intro _; rfl) : SD X (.For tg iter body [] pos) (sFor fi g b) := PS.to (ps_for hp hc hi hg hb hs) fun D σ H h => for_ok h
/-- a, b = e -/
def sUnp (f : Mo Rs) (g : G1) : Mo Fl := bindM f fun r => bindM (keepR r) fun d => bindM (g.run d) fun _ => retM .nx
theorem sd_unp {e : Expr} {g : G1} (he : PD X e f) (hg : GD X tg g) (hs : swapsWithSole [tg] e pos.line X.env = pure false := by rfl) (hw : swappedStores [tg] e X.env = pure none := by rfl)
    (h1 : (assignEach [tg] X.env).map (·.2) = [assign tg X.env] := by rfl) : SD X (.Assign [tg] e pos) (sUnp f g) := PS.to (ps_asg he hg hs hw h1) fun D σ H h => by
  obtain ⟨S, ρ, fl, ρ', G, e, q⟩ := h
  obtain ⟨r, ρ1, e1, e2⟩ := bindM_some e
  obtain ⟨d, ρ2, e3, e4⟩ := bindM_some e2
  obtain ⟨u, ρ3, e5, e6⟩ := bindM_some e4
  cases retM_some e6
  refine ⟨S, ρ, r, ρ1, G, e1, fun v S1 H1 F1 G1 R1 => ?_⟩
  obtain ⟨S2, n2, p, _⟩ := R1.w.keep ⟨G, F1, G1⟩ e3
  exact ⟨S2, ρ2, d, _, n2.g, p, e5, fun σ' G' F' _ => q σ' S2 H1 (n2.f.fs.trans F') G'⟩
/-- a, b = x, y with plain names -/
def sPar (i j : Nat) (g : Mo (List Rs)) : Mo Fl := bindM g fun rs => bindM (keepL rs) fun ds => match ds with
  | [d1, d2] => bindM (storeR i (.kept d1)) fun _ => bindM (storeR j (.kept d2)) fun _ => retM .nx
  | _ => fun _ => none
theorem sd_par (i j : Nat) {x y : Str} {a b : Expr} {g : Mo (List Rs)} {px py pt : Pos} {kt k2 pt2} (hc : X.calm = true) (hN : X.N.Nodup) (ha : AD X [a, b] g)
    (hw : swappedStores [.Tuple [.Name x px, .Name y py] kt pt] (.Tuple [a, b] k2 pt2) X.env = pure (some [x, y]) := by rfl) (hi : X.N[i]? = some x := by rfl) (hj : X.N[j]? = some y := by rfl) (hij : i ≠ j := by decide)
    (hx : X.env.scope.names.lookup x = some .local := by rfl) (hy : X.env.scope.names.lookup y = some .local := by rfl)
    (hs : swapsWithSole [.Tuple [.Name x px, .Name y py] kt pt] (.Tuple [a, b] k2 pt2) pos.line X.env = pure false := by rfl) :
    SD X (.Assign [.Tuple [.Name x px, .Name y py] kt pt] (.Tuple [a, b] k2 pt2) pos) (sPar i j g) := PS.to (ps_par hc hN hi hj hij hx hy ha hw hs) fun D σ H h => by
  obtain ⟨S, ρ, fl, ρ', G, e, q⟩ := h
  obtain ⟨rs, ρ1, e1, e2⟩ := bindM_some e
  obtain ⟨ds, ρ2, e3, e4⟩ := bindM_some e2
  refine ⟨S, ρ, rs, ρ1, G, e1, fun vs S1 H1 F1 G1 R1 => ?_⟩
  obtain ⟨S2, n2, p, _⟩ := RRLw.keep rs ⟨G, F1, G1⟩ R1.w e3
  cases p with
  | nil => cases e4
  | cons p1 pr =>
    cases pr with
    | nil => cases e4
    | cons p2 pr =>
      cases pr with
      | nil =>
        obtain ⟨u, ρ3, e5, e6⟩ := bindM_some e4
        obtain ⟨u2, ρ4, e7, e8⟩ := bindM_some e6
        cases retM_some e8
        obtain ⟨G3, F3, _⟩ := storeK n2.g p1 e5
        obtain ⟨G4, F4, _⟩ := storeK G3 p2 e7
        exact ⟨_, _, rfl, q _ S2 H1 (n2.f.fs.trans (F3.trans F4)) G4⟩
      | cons _ _ => cases e4
end
end PyI

/-! PyI, part E: comprehensions of one clause. -/
namespace PyI
open PySem PySem.Spec L2

def LIM : Nat := 1000000
theorem lim_line {n : Nat} (h : n ≤ LIM) : n ≤ sizeLine := Nat.le_trans h (by rw [sizeLine_eq]; decide)
theorem lim_lt {n : Nat} (h : n < LIM) : n < sizeLine := Nat.lt_of_lt_of_le h (by rw [sizeLine_eq]; decide)
/-- the slots forgotten -/
def wipeE (ρ : Rho) : List Nat → Rho
  | [] => ρ
  | v :: vs => (wipeE ρ vs).set v none
/-- the slots as they were -/
def restE (ρ0 ρ : Rho) : List Nat → Rho
  | [] => ρ
  | v :: vs => match ρ0[v]? with
    | some x => (restE ρ0 ρ vs).set v x
    | none => restE ρ0 ρ vs
section
variable {ρ ρ0 : Rho}
theorem wipeE_len (ρ : Rho) : ∀ vs, (wipeE ρ vs).length = ρ.length
  | [] => rfl
  | v :: vs => by unfold wipeE; rw [List.length_set, wipeE_len ρ vs]
theorem wipeE_off {vs : List Nat} {i : Nat} (h : i ∉ vs) : (wipeE ρ vs)[i]? = ρ[i]? := by
  induction vs with
  | nil => rfl
  | cons v vs ih =>
    unfold wipeE
    rw [List.getElem?_set_ne (fun z => h (by simp [z]))]
    exact ih fun z => h (List.mem_cons_of_mem _ z)
theorem wipeE_on {vs : List Nat} {i : Nat} {x : Option (Stt × PyData)} (h : i ∈ vs) (e : (wipeE ρ vs)[i]? = some x) : x = none := by
  induction vs with
  | nil => simp at h
  | cons v vs ih =>
    unfold wipeE at e
    rcases mem_set_slot e with ⟨_, e1⟩ | ⟨hne, e1⟩
    · exact e1
    · rcases List.mem_cons.mp h with z | z
      · exact absurd z hne
      · exact ih z e1
theorem restE_len (ρ0 ρ : Rho) : ∀ vs, (restE ρ0 ρ vs).length = ρ.length
  | [] => rfl
  | v :: vs => by
    unfold restE
    split
    · rw [List.length_set, restE_len ρ0 ρ vs]
    · exact restE_len ρ0 ρ vs
theorem restE_off {vs : List Nat} {i : Nat} (h : i ∉ vs) : (restE ρ0 ρ vs)[i]? = ρ[i]? := by
  induction vs with
  | nil => rfl
  | cons v vs ih =>
    unfold restE
    have ih' := ih fun z => h (List.mem_cons_of_mem _ z)
    split
    · rw [List.getElem?_set_ne (fun z => h (by simp [z]))]
      exact ih'
    · exact ih'
theorem restE_on {vs : List Nat} {i : Nat} (hl : ρ.length = ρ0.length) (h : i ∈ vs) : (restE ρ0 ρ vs)[i]? = ρ0[i]? := by
  induction vs with
  | nil => simp at h
  | cons v vs ih =>
    unfold restE
    by_cases hv : i = v
    · subst hv
      cases e : ρ0[i]? with
      | some x =>
        dsimp only
        rw [List.getElem?_set_self]
        rw [restE_len, hl]
        exact (List.getElem?_eq_some_iff.mp e).1
      | none =>
        dsimp only
        rw [List.getElem?_eq_none_iff, restE_len, hl]
        exact List.getElem?_eq_none_iff.mp e
    · have hm : i ∈ vs := (List.mem_cons.mp h).resolve_left hv
      split
      · rw [List.getElem?_set_ne (Ne.symm hv)]
        exact ih hm
      · exact ih hm
end

/-! ### the frame's state without some slots, and back -/
section
variable {K : PySem.W.Frag} {S S' S2 S4 : Addr → Prop} {ρ ρ' ρc ρ2 ρ4 : Rho} {σ σ2 σw : L2.St} {H H' H2 H4 : Hp} {vs : List Nat} {a : Addr}
theorem wipe_off (σ : L2.St) {vs : List Nat} {i : Nat} (h : i ∉ vs) : (wipe σ vs)[i]? = σ[i]? := by
  induction vs with
  | nil => rfl
  | cons v vs ih =>
    unfold wipe
    rw [List.getElem?_set_ne (fun z => h (by simp [z]))]
    exact ih fun z => h (List.mem_cons_of_mem _ z)
theorem Gd.wiped (g : Gd K S ρ σ H) : Gd K S (wipeE ρ vs) (wipe σ vs) H := by
  have off : ∀ {i : Nat} {p : Stt × PyData}, (wipeE ρ vs)[i]? = some (some p) → i ∉ vs ∧ ρ[i]? = some (some p) := fun {i p} h => by
    by_cases hi : i ∈ vs
    · exact absurd (wipeE_on hi h) (by simp)
    · exact ⟨hi, by rw [← wipeE_off hi]; exact h⟩
  refine ⟨by rw [wipeE_len, wipe_length]; exact g.len, fun i st d h => ?_, fun i j b st d st' d' h1 h2 h3 h4 h5 h6 => ?_, g.al⟩
  · obtain ⟨hi, h⟩ := off h
    rw [wipe_off σ hi]
    exact g.sl i st d h
  · obtain ⟨hi, h1⟩ := off h1
    obtain ⟨hj, h2⟩ := off h2
    rw [wipe_off σ hi] at h5
    rw [wipe_off σ hj] at h6
    exact g.ne i j b st d st' d' h1 h2 h3 h4 h5 h6
theorem Mu.wiped (h : Mu (wipeE ρ vs) (wipe σ vs) a) : Mu ρ σ a := by
  obtain ⟨i, st, d, h1, h2, h3⟩ := h
  by_cases hi : i ∈ vs
  · exact absurd (wipeE_on hi h1) (by simp)
  · rw [wipeE_off hi] at h1
    rw [wipe_off σ hi] at h3
    exact ⟨i, st, d, h1, h2, h3⟩
/-- a turn of a block: from ρc (wiped) by a store at vs to ρ2, on to ρ4, wiped again -/
theorem turn_back (hc : ∀ (i : Nat) (x : Option (Stt × PyData)), i ∈ vs → ρc[i]? = some x → x = none) (o : Sto vs ρc σw ρ2 σ2) (hw : σw.length = ρc.length) (g4 : Gd K S4 ρ4 σ2 H4) (f : Fm S2 ρ2 σ2 H2 S4 ρ4 H4) (gc : Gd K S2 ρc σw H2) (hl : ρ2.length = ρc.length) (hwipe : wipe σ2 vs = σw) :
    Gd K S4 (wipeE ρ4 vs) σw H4 ∧ Fm S2 ρc σw H2 S4 (wipeE ρ4 vs) H4 := by
  have muIff : ∀ b, Mu ρ2 σ2 b → Mu ρc σw b := by
    rintro b ⟨i, st, d, h1, h2, h3⟩
    by_cases hi : i ∈ vs
    · rcases o.on i st d hi h1 with z | z
      · subst z; cases h2
      · have := hc i _ hi z; cases this
    · refine ⟨i, st, d, by rw [← (o.off i hi).1]; exact h1, h2, by rw [← (o.off i hi).2]; exact h3⟩
  refine ⟨?_, ⟨f.dom, fun b ob e nm => f.keep b ob e fun z => nm (muIff b z), f.sh, fun b h => ?_, by rw [wipeE_len, f.len, hl], fun i h => ?_, fun i st d h => ?_⟩⟩
  · have := g4.wiped (vs := vs)
    rw [hwipe] at this
    exact this
  · rcases f.new b h with z | z | z
    · exact .inl z
    · exact .inr (.inl (muIff b z))
    · exact .inr (.inr z)
  · by_cases hi : i ∈ vs
    · have hlt : i < (wipeE ρ4 vs).length := by
        rw [wipeE_len, f.len, hl]
        exact (List.getElem?_eq_some_iff.mp h).1
      rw [List.getElem?_eq_getElem hlt]
      rw [wipeE_on hi (List.getElem?_eq_getElem hlt)]
    · rw [wipeE_off hi]
      refine f.non i ?_
      rw [(o.off i hi).1]
      exact h
  · by_cases hi : i ∈ vs
    · have := hc i _ hi h; cases this
    · obtain ⟨st', d', h1, h2, h3⟩ := f.sts i st d (by rw [(o.off i hi).1]; exact h)
      exact ⟨st', d', by rw [wipeE_off hi]; exact h1, h2, h3⟩
/-- behind the block: the slots as they were -/
theorem block_back (g : Gd K S ρ σ H) (gw : Gd K S' ρ' (wipe σ vs) H') (f : Fm S (wipeE ρ vs) (wipe σ vs) H S' ρ' H') : Gd K S' (restE ρ ρ' vs) σ H' ∧ Fm S ρ σ H S' (restE ρ ρ' vs) H' := by
  have hl : ρ'.length = ρ.length := by rw [f.len, wipeE_len]
  have u : Uph S H S' H' := ⟨f.sh, fun b o hs e => f.keep b o e fun m => g.notMu hs m.wiped⟩
  have stay : ∀ (i : Nat) (st : Stt) (d : PyData) (b : Addr), i ∈ vs → ρ[i]? = some (some (st, d)) → st.hold = true → σ[i]? = some (some (V.ref b)) → ¬ S b → ¬ Mu (wipeE ρ vs) (wipe σ vs) b ∧ ¬ S' b := fun i st d b hi h1 hh h2 ns => by
    have nm : ¬ Mu (wipeE ρ vs) (wipe σ vs) b := by
      rintro ⟨j, st', d', z1, z2, z3⟩
      by_cases hj : j ∈ vs
      · exact absurd (wipeE_on hj z1) (by simp)
      · rw [wipeE_off hj] at z1
        rw [wipe_off σ hj] at z3
        have hold : st'.hold = true := by cases st' <;> first | rfl | cases z2
        have := g.ne i j b st d st' d' h1 z1 hh hold h2 z3
        exact hj (this ▸ hi)
    refine ⟨nm, fun s' => ?_⟩
    rcases f.new b s' with z | z | z
    · exact ns z
    · exact nm z
    · exact g.held h1 hh h2 z
  refine ⟨⟨by rw [restE_len, hl]; exact g.len, fun i st d h => ?_, fun i j b st d st' d' h1 h2 h3 h4 h5 h6 => ?_, gw.al⟩, ⟨f.dom, fun b o e nm => f.keep b o e fun z => nm z.wiped, f.sh, fun b h => ?_, by rw [restE_len, hl], fun i h => ?_, fun i st d h => ?_⟩⟩
  · by_cases hi : i ∈ vs
    · rw [restE_on hl hi] at h
      obtain ⟨v, h1, h2⟩ := g.sl i st d h
      refine ⟨v, h1, ?_⟩
      cases st with
      | shr => exact Rp.up u h2
      | own => obtain ⟨b, rfl, ns, t⟩ := h2; obtain ⟨nm, ns'⟩ := stay i _ d b hi h rfl h1 ns; exact ⟨b, rfl, ns', TopX.up u (fun o e => f.keep b o e nm) t⟩
      | lent => obtain ⟨b, rfl, ns, t⟩ := h2; obtain ⟨nm, ns'⟩ := stay i _ d b hi h rfl h1 ns; exact ⟨b, rfl, ns', TopX.up u (fun o e => f.keep b o e nm) t⟩
      | bor => obtain ⟨b, rfl, ns, t⟩ := h2; obtain ⟨nm, ns'⟩ := stay i _ d b hi h rfl h1 ns; exact ⟨b, rfl, ns', TopR.up u (fun o e => f.keep b o e nm) t⟩
      | scr =>
        obtain ⟨b, ns, rfl, e1, k⟩ := h2
        refine ⟨b, ns, rfl, e1, KLst.keep (fun o e => f.keep b _ e ?_) k⟩
        intro m
        obtain ⟨j, st', d', z1, z2, z3⟩ := m.wiped
        obtain ⟨w, y1, y2⟩ := g.sl j st' d' z1
        rw [z3] at y1; cases y1
        cases st' with
        | own => 
          obtain ⟨c, ec, _, t⟩ := y2; cases ec
          cases d' with
          | list ds => obtain ⟨vs, q, _⟩ := t; rw [q] at e; cases e
          | dict kvs => obtain ⟨ts, q, _⟩ := t; rw [q] at e; cases e
          | _ => exact t.elim
        | lent => 
          obtain ⟨c, ec, _, t⟩ := y2; cases ec
          cases d' with
          | list ds => obtain ⟨vs, q, _⟩ := t; rw [q] at e; cases e
          | dict kvs => obtain ⟨ts, q, _⟩ := t; rw [q] at e; cases e
          | _ => exact t.elim
        | _ => cases z2
    · rw [restE_off hi] at h
      obtain ⟨v, h1, h2⟩ := gw.sl i st d h
      rw [wipe_off σ hi] at h1
      exact ⟨v, h1, h2⟩
  · -- two held slots
    have inn : ∀ {k : Nat} {s1 : Stt} {e1 : PyData}, (restE ρ ρ' vs)[k]? = some (some (s1, e1)) → s1.hold = true → ∃ e2, ρ[k]? = some (some (s1, e2)) := fun {k s1 e1} h hh => by
      by_cases hk : k ∈ vs
      · rw [restE_on hl hk] at h; exact ⟨e1, h⟩
      · rw [restE_off hk] at h
        obtain ⟨e2, h2⟩ := f.held h hh
        rw [wipeE_off hk] at h2
        exact ⟨e2, h2⟩
    obtain ⟨e1, y1⟩ := inn h1 h3
    obtain ⟨e2, y2⟩ := inn h2 h4
    exact g.ne i j b st e1 st' e2 y1 y2 h3 h4 h5 h6
  · rcases f.new b h with z | z | z
    · exact .inl z
    · exact .inr (.inl z.wiped)
    · exact .inr (.inr z)
  · by_cases hi : i ∈ vs
    · rw [restE_on hl hi]; exact h
    · rw [restE_off hi]
      exact f.non i (by rw [wipeE_off hi]; exact h)
  · by_cases hi : i ∈ vs
    · exact ⟨st, d, by rw [restE_on hl hi]; exact h, .inl rfl, fun _ => rfl⟩
    · obtain ⟨st', d', h1, h2, h3⟩ := f.sts i st d (by rw [wipeE_off hi]; exact h)
      exact ⟨st', d', by rw [restE_off hi]; exact h1, h2, h3⟩
theorem wipe_sto (o : Sto vs (wipeE ρ vs) (wipe σ vs) ρ2 σ2) : wipe σ2 vs = wipe σ vs := by
  apply List.ext_getElem?
  intro i
  have hl : σ2.length = σ.length := by rw [o.len, wipe_length]
  by_cases hi : i ∈ vs
  · have non : ∀ τ : L2.St, ∀ x, (wipe τ vs)[i]? = some x → x = none := by
      intro τ x h
      cases x with
      | none => rfl
      | some v => exact absurd hi (wipe_some h).2
    cases h1 : (wipe σ2 vs)[i]? with
    | none =>
      rw [List.getElem?_eq_none_iff, wipe_length, hl] at h1
      exact (List.getElem?_eq_none_iff.mpr (by rw [wipe_length]; exact h1)).symm
    | some x =>
      have hx := non _ _ h1
      have hlt := (List.getElem?_eq_some_iff.mp h1).1
      rw [wipe_length, hl] at hlt
      have hlt2 : i < (wipe σ vs).length := by rw [wipe_length]; exact hlt
      rw [List.getElem?_eq_getElem hlt2, hx, non σ _ (List.getElem?_eq_getElem hlt2)]
  · rw [wipe_off σ2 hi, (o.off i hi).2]
end

/-! ### [elt for target in iter if ..] -/
def lcM (vs : List Nat) (g : G1) (t : Mo Bool) (fe : Mo Rs) : List PyData → List PyData → Mo (List PyData)
  | [], acc => retM acc
  | d :: ds, acc => fun ρ => match g.run d ρ with
    | none => none
    | some (_, ρ1) => match t ρ1 with
      | none => none
      | some (false, ρ2) => lcM vs g t fe ds acc (wipeE ρ2 vs)
      | some (true, ρ2) => match bindM fe keepR ρ2 with
        | none => none
        | some (y, ρ3) => if acc.length < LIM then lcM vs g t fe ds (acc ++ [y]) (wipeE ρ3 vs) else none
def xLc (vs : List Nat) (fi : Mo (List PyData)) (g : G1) (t : Mo Bool) (fe : Mo Rs) : Mo Rs := fun ρ => match fi ρ with
  | none => none
  | some (ds, ρ1) => match lcM vs g t fe ds [] (wipeE ρ1 vs) with
    | none => none
    | some (acc, ρ2) => some (.fresh (.list acc), restE ρ1 ρ2 vs)
def tYesM : Mo Bool := retM true
/-- an iterator that walks ds goes on doing so behind growth that leaves T alone -/
theorem lc_ok {K : PySem.W.Frag} {vs : List Nat} {fi : Mo (List PyData)} {g : G1} {t : Mo Bool} {fe : Mo Rs} {σ : L2.St} {H : Hp} {Q : VK} (hv : g.vs = vs) (h : tD K (xLc vs fi g t fe) σ H Q) : tLc (tI K fi) (tG K g) (tT K t) (tD K fe) vs σ H Q := by
  obtain ⟨S, ρ, r, ρ', G, e, q⟩ := h
  unfold xLc at e
  cases ei : fi ρ with
  | none => rw [ei] at e; cases e
  | some p =>
    obtain ⟨ds, ρ1⟩ := p
    rw [ei] at e
    dsimp only at e
    cases el : lcM vs g t fe ds [] (wipeE ρ1 vs) with
    | none => rw [el] at e; cases e
    | some p =>
      obtain ⟨accE, ρ2⟩ := p
      rw [el] at e
      cases e
      refine ⟨S, ρ, ds, ρ1, G, ei, fun J S1 H1 T F1 G1 hT W D hD => ?_⟩
      have E0 : Gw S1 H1 S1 (upd H1 D (.lst [])) := Gw.lay G1.al hD
      have nSD : ¬ S1 D := fun z => G1.al D z hD
      have Gw0 : Gd K S1 (wipeE ρ1 vs) (wipe σ vs) (upd H1 D (.lst [])) := (G1.wiped (vs := vs)).ext E0
      -- the state of a turn
      refine ⟨fun i m H2 => ∃ S2 ρc acc, Gd K S2 ρc (wipe σ vs) H2 ∧ (∀ (j : Nat) (x : Option (Stt × PyData)), j ∈ vs → ρc[j]? = some x → x = none) ∧ Fm S1 (wipeE ρ1 vs) (wipe σ vs) H1 S2 ρc H2 ∧ ¬ S2 D ∧ (∃ ws, H2 D = some (.lst ws) ∧ RpL K S2 H2 ws acc) ∧ i ≤ ds.length ∧ m = ds.length - i ∧
        lcM vs g t fe (ds.drop i) acc ρc = some (accE, ρ2), ⟨ds.length, S1, wipeE ρ1 vs, [], Gw0, fun j x hj hx => wipeE_on hj hx, E0.fr, nSD, ⟨[], upd_same, .nil⟩, Nat.zero_le _, rfl, el⟩, ?_⟩
      rintro i m H2 ⟨S2, ρc, acc, G2, hc, F2, nD2, ⟨ws, hws, rws⟩, hi, rfl, e3⟩
      have u : Uph S1 H1 S2 H2 := ⟨F2.sh, fun a o hs ha => F2.keep a o ha fun z => (G1.wiped (vs := vs)).notMu hs z⟩
      have tt : ∀ a o, T a → H1 a = some o → H2 a = some o := fun a o ha h => F2.keep a o h fun z => (hT a ha).2 z.wiped
      obtain ⟨w1, w2⟩ := W S2 H2 i u tt G2.al
      have nMD : ¬ Mu ρc (wipe σ vs) D := fun z => Mu.there (G1.wiped (vs := vs)) (F2.mu z) hD
      by_cases hlt : i < ds.length
      · obtain ⟨go, yl⟩ := w1 hlt
        refine .inr ⟨go, fun H' => ∃ S' ρ2' acc', Gd K S' ρ2' (wipe σ vs) H' ∧ (∀ (j : Nat) (x : Option (Stt × PyData)), j ∈ vs → ρ2'[j]? = some x → x = none) ∧ Fm S1 (wipeE ρ1 vs) (wipe σ vs) H1 S' ρ2' H' ∧ ¬ S' D ∧ (∃ ws, H' D = some (.lst ws) ∧ RpL K S' H' ws acc') ∧
          lcM vs g t fe (ds.drop (i + 1)) acc' ρ2' = some (accE, ρ2), fun H' ⟨S', ρ2', acc', a1, a2, a3, a4, a5, a6⟩ => ⟨ds.length - (i + 1), by omega, S', ρ2', acc', a1, a2, a3, a4, a5, hlt, rfl, a6⟩, fun x H3 y => ?_⟩
        obtain ⟨S3, d, E3, hd, rp⟩ := yl x H3 y
        have hdrop : ds.drop i = d :: ds.drop (i + 1) := by
          rw [List.drop_eq_getElem_cons hlt]
          rw [List.getElem?_eq_getElem hlt] at hd
          cases hd
          rfl
        rw [hdrop] at e3
        unfold lcM at e3
        cases eg : g.run d ρc with
        | none => rw [eg] at e3; cases e3
        | some p =>
          obtain ⟨_, ρ3⟩ := p
          rw [eg] at e3
          dsimp only at e3
          have G3 := G2.ext E3
          have nD3 : ¬ S3 D := fun z => (E3.new D z).elim nD2 (by rw [hws]; simp)
          have hws3 : H3 D = some (.lst ws) := E3.keep D _ hws
          have rws3 := RpL.up E3.up rws
          refine ⟨S3, ρc, d, ρ3, G3, rp, eg, fun σ4 G4 F4 O4 => ?_⟩
          rw [hv] at O4
          have hwp : wipe σ4 vs = wipe σ vs := by
            have O4' : Sto vs (wipeE ρc vs) (wipe (wipe σ vs) vs) ρ3 σ4 := by
              have e1 : wipeE ρc vs = ρc := by
                apply List.ext_getElem?
                intro j
                by_cases hj : j ∈ vs
                · cases h1 : ρc[j]? with
                  | none => rw [List.getElem?_eq_none_iff] at h1 ⊢; rw [wipeE_len]; exact h1
                  | some x =>
                    have hx := hc j x hj h1
                    have hlt := (List.getElem?_eq_some_iff.mp h1).1
                    have hlt2 : j < (wipeE ρc vs).length := by rw [wipeE_len]; exact hlt
                    rw [List.getElem?_eq_getElem hlt2, wipeE_on hj (List.getElem?_eq_getElem hlt2), hx]
                · exact wipeE_off hj
              have e2 : wipe (wipe σ vs) vs = wipe σ vs := by
                have := wipe_sto (ρ := ρc) (σ := σ) (vs := vs) (ρ2 := wipeE ρc vs) (σ2 := wipe σ vs) Sto.refl
                exact this
              rw [e1, e2]; exact O4
            have := wipe_sto O4'
            have e2 : wipe (wipe σ vs) vs = wipe σ vs := wipe_sto (ρ := ρc) (σ := σ) (vs := vs) (ρ2 := wipeE ρc vs) (σ2 := wipe σ vs) Sto.refl
            rw [this, e2]
          refine ⟨hwp, ?_⟩
          have hl3 : ρ3.length = ρc.length := F4.len
          cases et : t ρ3 with
          | none => rw [et] at e3; cases e3
          | some p =>
            obtain ⟨b, ρ4⟩ := p
            rw [et] at e3
            refine ⟨S3, ρ3, b, ρ4, G4, et, fun S5 H5 F5 G5 => ?_⟩
            have nMD3 : ¬ Mu ρ3 σ4 D := fun z => (F4.mu z).elim nMD (by rw [hws3]; simp)
            have keepD : ∀ {Sx : Addr → Prop} {ρx : Rho} {Hx : Hp}, Fm S3 ρ3 σ4 H3 Sx ρx Hx → Hx D = some (.lst ws) ∧ ¬ Sx D := fun {Sx ρx Hx} f => ⟨f.keep D _ hws3 nMD3, fun z => (f.new D z).elim nD3 fun z => z.elim nMD3 (by rw [hws3]; simp)⟩
            have done : ∀ {Sx : Addr → Prop} {ρx : Rho} {Hx : Hp}, Fm S3 ρ3 σ4 H3 Sx ρx Hx → Gd K Sx ρx σ4 Hx → Gd K Sx (wipeE ρx vs) (wipe σ vs) Hx ∧ Fm S1 (wipeE ρ1 vs) (wipe σ vs) H1 Sx (wipeE ρx vs) Hx := fun {Sx ρx Hx} f gx => by
              obtain ⟨b1, b2⟩ := turn_back hc O4 (by rw [wipe_length]; exact (by have := G2.len; rw [wipe_length] at this; exact this.symm)) gx f G3 hl3 hwp
              exact ⟨b1, F2.trans (E3.fr.trans b2)⟩
            cases b with
            | false =>
              dsimp only at e3
              obtain ⟨b1, b2⟩ := done F5 G5
              obtain ⟨k1, k2⟩ := keepD F5
              exact iteF ⟨S5, wipeE ρ4 vs, acc, b1, fun j x hj hx => wipeE_on hj hx, b2, k2, ⟨ws, k1, RpL.up (F5.up G4) rws3⟩, e3⟩
            | true =>
              dsimp only at e3
              refine iteT ?_
              cases ee : bindM fe keepR ρ4 with
              | none => rw [ee] at e3; cases e3
              | some p =>
                obtain ⟨yd, ρ6⟩ := p
                rw [ee] at e3
                dsimp only at e3
                obtain ⟨r6, ρ5, e6, e7⟩ := bindM_some ee
                split at e3
                · rename_i hlim
                  refine ⟨S5, ρ4, r6, ρ5, G5, e6, fun v S6 H6 F6 G6 R6 => ?_⟩
                  have n6 : Now K σ4 S3 ρ3 H3 S6 ρ5 H6 := (⟨G4, F5, G5⟩ : Now K σ4 S3 ρ3 H3 S5 ρ4 H5).step F6 G6
                  have R6' : RR K H3 S6 H6 ρ5 σ4 v r6 := R6.pre ⟨G4, F5, G5⟩
                  obtain ⟨S7, n7, p7, sh7⟩ := R6'.w.keep n6 e7
                  obtain ⟨k1, k2⟩ := keepD n7.f
                  obtain ⟨b1, b2⟩ := done n7.f n7.g
                  have rws7 := RpL.up (n7.f.up G4) rws3
                  have al7 := n7.g.al
                  have u7 : Uph S7 H6 S7 (upd H6 D (.lst (ws ++ [v]))) := ⟨fun _ h => h, fun b o hb hh => by rw [upd_ne (show b ≠ D from fun z => k2 (z ▸ hb))]; exact hh⟩
                  have nMw : ¬ Mu (wipeE ρ6 vs) (wipe σ vs) D := fun z => Mu.there (G1.wiped (vs := vs)) (b2.mu z) hD
                  refine ⟨ws, k1, by rw [rws7.len]; exact lim_lt hlim, S7, wipeE ρ6 vs, acc ++ [yd], ?_, fun j x hj hx => wipeE_on hj hx, ⟨fun b hb => ?_, fun b o hb nm => ?_, b2.sh, b2.new, b2.len, b2.non, b2.sts⟩, k2, ⟨ws ++ [v], upd_same, (RpL.up u7 rws7).app (.cons (Rp.up u7 p7) .nil)⟩, e3⟩
                  · -- the new list has one more item: no slot holds it
                    refine ⟨b1.len, fun j st d' hj => ?_, b1.ne, fun b hb => ?_⟩
                    · obtain ⟨w', z1, z2⟩ := b1.sl j st d' hj
                      refine ⟨w', z1, ?_⟩
                      have other : ∀ b, w' = .ref b → st.hold = true → b ≠ D := fun b eb hh zz => by
                        subst eb
                        obtain ⟨d2, hj2⟩ := b2.held hj hh
                        have := (G1.wiped (vs := vs)).held hj2 hh z1
                        rw [zz] at this
                        exact this hD
                      cases st with
                      | shr => exact Rp.up u7 z2
                      | own => obtain ⟨b, rfl, ns, tx⟩ := z2; exact ⟨b, rfl, ns, TopX.up u7 (fun o hh => by rw [upd_ne (other b rfl rfl)]; exact hh) tx⟩
                      | lent => obtain ⟨b, rfl, ns, tx⟩ := z2; exact ⟨b, rfl, ns, TopX.up u7 (fun o hh => by rw [upd_ne (other b rfl rfl)]; exact hh) tx⟩
                      | bor => obtain ⟨b, rfl, ns, tx⟩ := z2; exact ⟨b, rfl, ns, TopR.up u7 (fun o hh => by rw [upd_ne (other b rfl rfl)]; exact hh) tx⟩
                      | scr =>
                        obtain ⟨b, ns1, rfl, e1, k⟩ := z2
                        refine ⟨b, ns1, rfl, e1, KLst.keep (fun o hh => ?_) k⟩
                        rw [upd_ne (ne_of hh k1 (by intro z; cases z))]
                        exact hh
                    · by_cases z : b = D
                      · exact absurd (z ▸ hb) k2
                      · rw [upd_ne z]; exact b1.al b hb
                  · by_cases z : b = D
                    · rw [z, upd_same]; simp
                    · rw [upd_ne z]; exact b2.dom b hb
                  · rw [upd_ne (ne_of_none hb hD)]
                    exact b2.keep b o hb nm
                · cases e3
      · have hie : ds.drop i = [] := List.drop_eq_nil_of_le (by omega)
        rw [hie] at e3
        cases retM_some e3
        refine .inl ⟨w2 (by omega), ?_⟩
        obtain ⟨c1, c2⟩ := block_back G1 G2 F2
        have n1 : Now K σ S ρ H S1 ρ1 H1 := ⟨G, F1, G1⟩
        exact q (.ref D) S2 H2 (F1.trans c2) c1 ⟨D, rfl, n1.none0 hD, nD2, ws, hws, rws⟩
abbrev TsD (X : Cx) (ifs : List Expr) (f : Mo Bool) : Prop := PTs X ifs (tT X.K f)
theorem PTs.to {X : Cx} {e : List Expr} {t t' : TT} (h : PTs X e t) (i : ∀ σ H Q, t' σ H Q → t σ H Q) : PTs X e t' := ⟨fun pins s σ H Q I q => h.run pins s σ H Q I (i σ H Q q)⟩
section
variable {X : Cx} {elt tg iter : Expr} {ifs : List Expr} {scope : Scope} {pos : Pos} {fi : Mo (List PyData)} {g : G1} {t : Mo Bool} {fe : Mo Rs}
theorem tsd_nil : TsD X [] tYesM := PTs.to pts_nil fun σ H Q h => by
  obtain ⟨S, ρ, b, ρ', G, e, q⟩ := h
  cases retM_some e
  exact q S H Fm.refl G
theorem tsd_one {c : Expr} (h : TD X c t) : TsD X [c] t := pts_one h
theorem pd_lc (own : List (Str × Nat)) (hc : X.calm = true) (hN : X.N.Nodup) (hi : ID X tg iter fi) (ok : BlkOk X.N X.env.scope scope own) (hv : g.vs = own.map (·.2))
    (hg : ∀ (s : Shared) (H : Hp) (C : Addr) (cl : List (Str × Addr)) (fp : List Addr), GD (X.blk s H scope (compEnvC scope cl C X.env) fp) tg g) (ht : ∀ (s : Shared) (H : Hp) (C : Addr) (cl : List (Str × Addr)) (fp : List Addr), TsD (X.blk s H scope (compEnvC scope cl C X.env) fp) ifs t)
    (he : ∀ (s : Shared) (H : Hp) (C : Addr) (cl : List (Str × Addr)) (fp : List Addr), PD (X.blk s H scope (compEnvC scope cl C X.env) fp) elt fe) (hs : ∀ x, foldedSetIterable iter X.env x = pure x := by intro _; rfl) :
    PD X (.ListComp elt [⟨tg, iter, ifs, 0⟩] scope pos) (xLc (own.map (·.2)) fi g t fe) := PE.to (pe_lc hc hN hi ok hg ht he hs) fun σ H Q h => lc_ok hv h
/-- name = [..] on one line -/
theorem sd_setLc (i : Nat) {y : Str} {py spos : Pos} (own : List (Str × Nat)) (hc : X.calm = true) (hN : X.N.Nodup) (hi : ID X tg iter fi) (ok : BlkOk X.N X.env.scope scope own) (hv : g.vs = own.map (·.2))
    (hg : ∀ (s : Shared) (H : Hp) (C : Addr) (cl : List (Str × Addr)) (fp : List Addr), GD (X.blk s H scope (compEnvC scope cl C X.env) fp) tg g) (ht : ∀ (s : Shared) (H : Hp) (C : Addr) (cl : List (Str × Addr)) (fp : List Addr), TsD (X.blk s H scope (compEnvC scope cl C X.env) fp) ifs t)
    (he : ∀ (s : Shared) (H : Hp) (C : Addr) (cl : List (Str × Addr)) (fp : List Addr), PD (X.blk s H scope (compEnvC scope cl C X.env) fp) elt fe) (hsw : swapsWith (.ListComp elt [⟨tg, iter, ifs, 0⟩] scope pos) (some (.Name y py)) spos.line X.env = pure true)
    (hy : X.N[i]? = some y := by rfl) (hyl : X.env.scope.names.lookup y = some .local := by rfl) (hs : ∀ x, foldedSetIterable iter X.env x = pure x := by intro _; rfl) :
    SD X (.Assign [.Name y py] (.ListComp elt [⟨tg, iter, ifs, 0⟩] scope pos) spos) (sSet i (xLc (own.map (·.2)) fi g t fe)) := PS.to (ps_setLc hc hN hy hyl hsw hi ok hg ht he hs) fun D σ H h => by
  refine lc_ok (t := t) (fe := fe) hv ?_
  obtain ⟨S, ρ, r, ρ', G, e, q⟩ := h
  obtain ⟨r1, ρ1, e1, e2⟩ := bindM_some e
  obtain ⟨u, ρ2, e3, e4⟩ := bindM_some e2
  cases retM_some e4
  refine ⟨S, ρ, r1, ρ1, G, e1, fun v S1 H1 F1 G1 R1 => ?_⟩
  obtain ⟨S2, G2, F2⟩ := R1.store ⟨G, F1, G1⟩ e3
  exact q _ S2 H1 F2 G2
end
end PyI

/-! PyI, part F: defs and their calls. -/
namespace PyI
open PySem PySem.Spec L2

/-- a def, as a function of its arguments: what it gives; what its first argument is behind it, where that is lent -/
abbrev Fn := List (Stt × PyData) → Option (Rs × Option PyData)
/-- what is given back -/
def retOf (ρ : Rho) : Fl → Option Rs
  | .nx => some (.kept .none)
  | .ret (.kept d) => some (.kept d)
  | .ret (.fresh d) => some (.fresh d)
  | .ret (.slot i) => match ρ[i]? with
    | some (some (.shr, d)) => some (.kept d)
    | some (some (.own, d)) => some (.fresh d)
    | _ => none
  | _ => none
def lentOf (ρ : Rho) : List (Stt × PyData) → Option (Option PyData)
  | (.lent, _) :: _ => match ρ[(0 : Nat)]? with
    | some (some (Stt.lent, d)) => some (some d)
    | _ => none
  | _ => some none
/-- the first argument alone may be lent, none is owned -/
def argsFit (np : Nat) (args : List (Stt × PyData)) : Bool := args.length == np && args.all (fun p => match p.1 with | .own => false | _ => true) && (args.drop 1).all (fun p => match p.1 with | .lent => false | _ => true)
def runF (np n : Nat) (body : Mo Fl) : Fn := fun args =>
  if argsFit np args = true then
    match body (args.map some ++ List.replicate (n - args.length) none) with
    | some (fl, ρ') => match retOf ρ' fl with
      | some r => match lentOf ρ' args with
        | some l => some (r, l)
        | none => none
      | none => none
    | none => none
  else none
/-- the frame of a call -/
structure Fc (S : Addr → Prop) (ρ : Rho) (σ : L2.St) (H : Hp) (S' : Addr → Prop) (H' : Hp) : Prop where
  dom : ∀ a, H a ≠ none → H' a ≠ none
  keep : ∀ a o, H a = some o → ¬ Mu ρ σ a → H' a = some o
  sh : ∀ a, S a → S' a
  new : ∀ a, S' a → S a ∨ Mu ρ σ a ∨ H a = none
  al : ∀ a, S' a → H' a ≠ none
def spI (K : PySem.W.Frag) (fn : Fn) : Sp := fun vs H Q _ => ∃ S args r l, Gd K S (args.map some) (vs.map some) H ∧ fn args = some (r, l) ∧
  ∀ v S' H', Fc S (args.map some) (vs.map some) H S' H' → RR K H S' H' [] [] v r → (∀ d', l = some d' → ∃ a, vs[0]? = some (.ref a) ∧ ¬ S' a ∧ TopX K S' H' a d') → Q v H'
theorem runF_fit {np n : Nat} {body : Mo Fl} {args : List (Stt × PyData)} {x : Rs × Option PyData} (e : runF np n body args = some x) : argsFit np args = true := by
  unfold runF at e
  split at e
  · assumption
  · cases e
theorem argsFit_len {np : Nat} {args : List (Stt × PyData)} (h : argsFit np args = true) : args.length = np := by
  unfold argsFit at h
  simp only [Bool.and_eq_true, beq_iff_eq] at h
  exact h.1.1
theorem argsFit_own {np : Nat} {args : List (Stt × PyData)} (h : argsFit np args = true) {i : Nat} {d : PyData} : args[i]? ≠ some (.own, d) := by
  intro e
  unfold argsFit at h
  simp only [Bool.and_eq_true, List.all_eq_true] at h
  have := h.1.2 _ (List.mem_of_getElem? e)
  simp at this
theorem argsFit_lent {np : Nat} {args : List (Stt × PyData)} (h : argsFit np args = true) {i : Nat} {d : PyData} (e : args[i]? = some (.lent, d)) : i = 0 := by
  cases i with
  | zero => rfl
  | succ i =>
    unfold argsFit at h
    simp only [Bool.and_eq_true, List.all_eq_true] at h
    have e' : (args.drop 1)[i]? = some (.lent, d) := by rw [List.getElem?_drop, Nat.add_comm]; exact e
    have := h.2 _ (List.mem_of_getElem? e')
    simp at this
section
variable {K : PySem.W.Frag} {S : Addr → Prop} {H : Hp}
theorem get_map_some {α : Type} {l : List α} {i : Nat} {x : Option α} (h : (l.map some)[i]? = some x) : ∃ y, x = some y ∧ l[i]? = some y := by
  rw [List.getElem?_map] at h
  cases e : l[i]? with
  | none => rw [e] at h; cases h
  | some y => rw [e] at h; cases h; exact ⟨y, rfl, rfl⟩
theorem get_start {α : Type} {l : List α} {n i : Nat} {y : α} (h : (l.map some ++ List.replicate n none)[i]? = some (some y)) : (l.map some)[i]? = some (some y) := by
  by_cases hi : i < (l.map some).length
  · rw [List.getElem?_append_left hi] at h
    exact h
  · rw [List.getElem?_append_right (Nat.le_of_not_lt hi), List.getElem?_replicate] at h
    split at h <;> cases h
theorem start_get {α : Type} {l : List α} {n i : Nat} {y : α} (h : (l.map some)[i]? = some (some y)) : (l.map some ++ List.replicate n none)[i]? = some (some y) := by
  rw [List.getElem?_append_left (List.getElem?_eq_some_iff.mp h).1]
  exact h
theorem Gd.entry {args : List (Stt × PyData)} {vs : List V} (n : Nat) (g : Gd K S (args.map some) (vs.map some) H) : Gd K S (args.map some ++ List.replicate (n - args.length) none) (vs.map some ++ List.replicate (n - vs.length) none) H := by
  have hl : args.length = vs.length := by have := g.len; simpa using this
  refine ⟨by simp [hl], fun i st d h => ?_, fun i j a st d st' d' h1 h2 h3 h4 h5 h6 => ?_, g.al⟩
  · obtain ⟨v, h1, h2⟩ := g.sl i st d (get_start h)
    exact ⟨v, start_get h1, h2⟩
  · exact g.ne i j a st d st' d' (get_start h1) (get_start h2) h3 h4 (get_start h5) (get_start h6)
theorem Mu.entry {args : List (Stt × PyData)} {vs : List V} {n m : Nat} {a : Addr} (h : Mu (args.map some ++ List.replicate n none) (vs.map some ++ List.replicate m none) a) : Mu (args.map some) (vs.map some) a := by
  obtain ⟨i, st, d, h1, h2, h3⟩ := h
  exact ⟨i, st, d, get_start h1, h2, get_start h3⟩
end
section
variable {P : Program} {w : World} {K : PySem.W.Frag} {mg : Str → Option Value} {base : Heap}
/-- THE RULE for a def: its body, as a function of the evaluator -/
theorem fnI_ok {x qual : Str} {st : Stmt} {f : Addr} {fd : FuncData} {N ps : List Str} {k : Nat} {body : Mo Fl} (F : Fun K x qual st f fd) (S : FnScope N ps (defScope st))
    (hbody : ∀ (cdv : Value) (A : Around) (outer : List Env) (s : Shared) (H : Hp) (E : XK), Room k (A.deeper (PyProof.Rows.envOfC qual (defScope st) s.heap.objs.size f cdv)) → BD (cxOf CX0 P w K mg base N qual (defScope st) f cdv A outer s H E).nox (defBody st) body) :
    FnOk P w K mg base CX0 (k + 1) f fd ps (spI K (runF ps.length N.length body)) := by
  refine F.ok S (fun vs H Q E h => ?_) (fun cdv A outer s H vs Q E hr h => ?_)
  · obtain ⟨S, args, r, l, g, e, _⟩ := h
    have hf := runF_fit e
    have := g.len
    simp only [List.length_map] at this
    rw [← this, argsFit_len hf]
  · obtain ⟨S0, args, r, l, g, e, q⟩ := h
    have hf := runF_fit e
    have hl : args.length = vs.length := by have := g.len; simpa using this
    refine ⟨_, hbody cdv A outer s H E hr, ?_⟩
    unfold runF at e
    rw [if_pos hf] at e
    cases eb : body (args.map some ++ List.replicate (N.length - args.length) none) with
    | none => rw [eb] at e; cases e
    | some p =>
      obtain ⟨fl, ρ'⟩ := p
      rw [eb] at e
      dsimp only at e
      cases er : retOf ρ' fl with
      | none => rw [er] at e; cases e
      | some r' =>
        rw [er] at e
        dsimp only at e
        cases el : lentOf ρ' args with
        | none => rw [el] at e; cases e
        | some l' =>
          rw [el] at e
          cases e
          refine ⟨S0, _, fl, ρ', g.entry N.length, eb, fun σ' S' H' f' g' => ?_⟩
          have fc : Fc S0 (args.map some) (vs.map some) H S' H' := ⟨f'.dom, fun a o e nm => f'.keep a o e fun m => nm m.entry, f'.sh, fun a h => by
            rcases f'.new a h with z | z | z
            · exact .inl z
            · exact .inr (.inl z.entry)
            · exact .inr (.inr z), g'.al⟩
          have lt : ∀ d', l = some d' → ∃ a, vs[0]? = some (.ref a) ∧ ¬ S' a ∧ TopX K S' H' a d' := by
            intro d' hd
            subst hd
            cases args with
            | nil => cases el
            | cons p rest =>
              obtain ⟨st0, d0⟩ := p
              cases st0 with
              | lent =>
                unfold lentOf at el
                dsimp only at el
                split at el
                · rename_i d2 h2
                  cases el
                  obtain ⟨v, h3, a, h4, h5, h6⟩ := g'.sl 0 .lent d' h2
                  obtain ⟨_, _, h8⟩ := f'.lent 0 _ h2
                  subst h4
                  rw [h3] at h8
                  have h9 := get_start h8.symm
                  rw [List.getElem?_map] at h9
                  cases hv : vs[0]? with
                  | none => rw [hv] at h9; cases h9
                  | some v0 => rw [hv] at h9; cases h9; exact ⟨a, rfl, h5, h6⟩
                · cases el
              | _ => cases el
          cases fl with
          | nx => cases er; exact q .non S' H' fc .non lt
          | bk => cases er
          | ct => cases er
          | ret r0 =>
            intro v hr0
            cases r0 with
            | kept d => cases er; exact q v S' H' fc hr0 lt
            | fresh d => cases er; exact q v S' H' fc hr0 lt
            | slot i =>
              unfold retOf at er
              dsimp only at er
              obtain ⟨hv, _⟩ := hr0
              split at er
              · rename_i d hd
                cases er
                obtain ⟨v', h1, h2⟩ := g'.sl i .shr d hd
                rw [hv] at h1; cases h1
                exact q v S' H' fc h2 lt
              · rename_i d hd
                cases er
                obtain ⟨v', h1, a, h2, h3, h4⟩ := g'.sl i .own d hd
                rw [hv] at h1; cases h1
                subst h2
                refine q _ S' H' fc ⟨a, rfl, ?_, h3, h4⟩ lt
                rcases f'.own i d a hd hv with z | ⟨j, d', z1, z2⟩
                · exact z
                · obtain ⟨y, hy1, hy2⟩ := get_map_some (get_start z1)
                  cases hy1
                  exact absurd hy2 (argsFit_own hf)
              · cases er

/-! ### calls -/
/-- the def x of the module, as fn, by at most level k -/
def Cl (P : Program) (w : World) (K : PySem.W.Frag) (mg : Str → Option Value) (base : Heap) (k : Nat) (x : Str) (fn : Fn) : Prop :=
  ∃ f fd ps, FnOk P w K mg base CX0 k f fd ps (spI K fn) ∧ mg x = some (.ref f) ∧ PySem.W.keepIn K (.ref f) = true ∧ Binds K fd ps []
end
/-- how an argument is handed over (not lent) -/
def argV (r : Rs) (ρ : Rho) : Option (Stt × PyData) := match r with
  | .kept d => some (.shr, d)
  | .fresh d => some (.shr, d)
  | .slot i => match ρ[i]? with
    | some (some (.shr, d)) => some (.shr, d)
    | some (some (.own, d)) => some (.bor, d)
    | some (some (.lent, d)) => some (.bor, d)
    | some (some (.bor, d)) => some (.bor, d)
    | some (some (.scr, d)) => some (.scr, d)
    | _ => none
/-- .. lent -/
def argL (r : Rs) (ρ : Rho) : Option (Stt × PyData) := match r with
  | .slot i => match ρ[i]? with
    | some (some (.own, d)) => some (.lent, d)
    | some (some (.lent, d)) => some (.lent, d)
    | _ => none
  | _ => none
def argVs (ρ : Rho) (lend : Bool) : List Rs → Option (List (Stt × PyData))
  | [] => some []
  | r :: rs => match (if lend = true then argL r ρ else argV r ρ), argVs ρ false rs with
    | some a, some l => some (a :: l)
    | _, _ => none
/-- one list or dict in two places -/
def clash (ρ : Rho) : Rs → Rs → Bool
  | .slot i, .slot j => i == j && (match ρ[i]? with
    | some (some (st, _)) => st.hold
    | _ => false)
  | _, _ => false
def noClash (ρ : Rho) : List Rs → Bool
  | [] => true
  | r :: rs => rs.all (fun r' => !clash ρ r r') && noClash ρ rs
/-- f(..) -/
def xCall (fn : Fn) (g : Mo (List Rs)) : Mo Rs := bindM g fun rs => fun ρ => match argVs ρ false rs with
  | some args => if noClash ρ rs = true then
      match fn args with
      | some (r, _) => match r with
        | .slot _ => none
        | r => some (r, ρ)
      | none => none
    else none
  | none => none
/-- f(state, ..): the first argument is lent -/
def xCallL (fn : Fn) (g : Mo (List Rs)) : Mo Rs := bindM g fun rs => fun ρ => match argVs ρ true rs with
  | some args => if noClash ρ rs = true then
      match fn args with
      | some (r, some d') => match rs, r with
        | .slot i :: _, .kept d => match ρ[i]? with
          | some (some (st, _)) => some (.kept d, ρ.set i (some (st, d')))
          | _ => none
        | .slot i :: _, .fresh d => match ρ[i]? with
          | some (some (st, _)) => some (.fresh d, ρ.set i (some (st, d')))
          | _ => none
        | _, _ => none
      | _ => none
    else none
  | none => none

/-- what is handed over: v stands for the result r, and what was new is shared -/
def ArgR (K : PySem.W.Frag) (S : Addr → Prop) (H : Hp) (ρ : Rho) (σ : L2.St) (v : V) : Rs → Prop
  | .kept d => Rp K S H v d
  | .fresh d => Rp K S H v d
  | .slot i => σ[i]? = some (some v) ∧ ∃ p, ρ[i]? = some (some p)
section
variable {K : PySem.W.Frag} {S0 S S' S'' : Addr → Prop} {ρ0 ρ ρ' ρ'' : Rho} {σ : L2.St} {H0 H H' H'' : Hp} {a : Addr} {v : V} {r : Rs} {d d' : PyData}
inductive ArgRL (K : PySem.W.Frag) (S : Addr → Prop) (H : Hp) (ρ : Rho) (σ : L2.St) : List V → List Rs → Prop
  | nil : ArgRL K S H ρ σ [] []
  | cons {v : V} {vs : List V} {r : Rs} {rs : List Rs} : ArgR K S H ρ σ v r → ArgRL K S H ρ σ vs rs → ArgRL K S H ρ σ (v :: vs) (r :: rs)
theorem ArgR.up (sh : ∀ b, S b → S' b) (h : ArgR K S H ρ σ v r) : ArgR K S' H ρ σ v r := by
  have u : Uph S H S' H := ⟨sh, fun _ _ _ h => h⟩
  cases r with
  | kept d => exact Rp.up u h
  | fresh d => exact Rp.up u h
  | slot i => exact h
theorem RRLw.hand : ∀ (rs : List Rs) {S : Addr → Prop} {vs : List V}, Now K σ S0 ρ0 H0 S ρ H → RRLw K H0 S H ρ σ vs rs → ∃ S', Now K σ S0 ρ0 H0 S' ρ H ∧ ArgRL K S' H ρ σ vs rs ∧ (∀ b, S b → S' b)
  | [], S, vs, n, h => by
    cases h
    exact ⟨S, n, .nil, fun _ h => h⟩
  | r :: rs, S, vs, n, h => by
    cases h with
    | cons h t =>
      rename_i v vs
      have go : ∃ S1, Now K σ S0 ρ0 H0 S1 ρ H ∧ ArgR K S1 H ρ σ v r ∧ ∀ b, S b → S1 b := by
        cases r with
        | kept d => exact ⟨S, n, h, fun _ h => h⟩
        | fresh d => exact RRw.keep n h (ρ' := ρ) (d := d) rfl
        | slot i => exact ⟨S, n, h, fun _ h => h⟩
      obtain ⟨S1, n1, p1, sh1⟩ := go
      obtain ⟨S2, n2, p2, sh2⟩ := RRLw.hand rs n1 (t.mono sh1 fun i p h => ⟨p, h⟩)
      exact ⟨S2, n2, .cons (p1.up sh2) p2, fun b hb => sh2 b (sh1 b hb)⟩
theorem noClash_get : ∀ {rs : List Rs} {i j : Nat} {r r' : Rs}, noClash ρ rs = true → i < j → rs[i]? = some r → rs[j]? = some r' → clash ρ r r' = false
  | [], _, _, _, _, _, _, h, _ => by simp at h
  | q :: rs, i, j, r, r', h, hij, h1, h2 => by
    unfold noClash at h
    simp only [Bool.and_eq_true, List.all_eq_true] at h
    cases j with
    | zero => omega
    | succ j =>
      rw [List.getElem?_cons_succ] at h2
      cases i with
      | zero =>
        simp at h1
        subst h1
        have := h.1 _ (List.mem_of_getElem? h2)
        simpa using this
      | succ i =>
        rw [List.getElem?_cons_succ] at h1
        exact noClash_get h.2 (by omega) h1 h2
/-- an argument and what it stands for -/
theorem argOne {lend : Bool} {st : Stt} (g : Gd K S ρ σ H) (h : ArgR K S H ρ σ v r) (e : (if lend = true then argL r ρ else argV r ρ) = some (st, d)) :
    SlotRep K S H v d st ∧ (st.hold = true → ∃ j st0, r = .slot j ∧ ρ[j]? = some (some (st0, d)) ∧ st0.hold = true ∧ σ[j]? = some (some v) ∧ (lend = true → st0.mut = true)) ∧ (lend = false → st.mut = false) ∧ (lend = true → st = .lent) := by
  cases lend with
  | true =>
    rw [if_pos rfl] at e
    unfold argL at e
    cases r with
    | slot i =>
      dsimp only at e
      obtain ⟨hv, _⟩ := h
      split at e
      · rename_i d1 h1
        cases e
        obtain ⟨v1, h2, h3⟩ := g.sl i .own d h1
        rw [hv] at h2; cases h2
        exact ⟨h3, fun _ => ⟨i, .own, rfl, h1, rfl, hv, fun _ => rfl⟩, fun z => (by cases z), fun _ => rfl⟩
      · rename_i d1 h1
        cases e
        obtain ⟨v1, h2, h3⟩ := g.sl i .lent d h1
        rw [hv] at h2; cases h2
        exact ⟨h3, fun _ => ⟨i, .lent, rfl, h1, rfl, hv, fun _ => rfl⟩, fun z => (by cases z), fun _ => rfl⟩
      · cases e
    | _ => cases e
  | false =>
    rw [if_neg (by decide)] at e
    unfold argV at e
    cases r with
    | kept d1 => cases e; exact ⟨h, fun z => (by cases z), fun _ => rfl, fun z => by cases z⟩
    | fresh d1 => cases e; exact ⟨h, fun z => (by cases z), fun _ => rfl, fun z => by cases z⟩
    | slot i =>
      dsimp only at e
      obtain ⟨hv, _⟩ := h
      split at e
      · rename_i d1 h1
        cases e
        obtain ⟨v1, h2, h3⟩ := g.sl i .shr d h1
        rw [hv] at h2; cases h2
        exact ⟨h3, fun z => (by cases z), fun _ => rfl, fun z => by cases z⟩
      · rename_i d1 h1
        cases e
        obtain ⟨v1, h2, a, h3, h4, h5⟩ := g.sl i .own d h1
        rw [hv] at h2; cases h2
        exact ⟨⟨a, h3, h4, TopX.r h5⟩, fun _ => ⟨i, .own, rfl, h1, rfl, hv, fun z => by cases z⟩, fun _ => rfl, fun z => by cases z⟩
      · rename_i d1 h1
        cases e
        obtain ⟨v1, h2, a, h3, h4, h5⟩ := g.sl i .lent d h1
        rw [hv] at h2; cases h2
        exact ⟨⟨a, h3, h4, TopX.r h5⟩, fun _ => ⟨i, .lent, rfl, h1, rfl, hv, fun z => by cases z⟩, fun _ => rfl, fun z => by cases z⟩
      · rename_i d1 h1
        cases e
        obtain ⟨v1, h2, h3⟩ := g.sl i .bor d h1
        rw [hv] at h2; cases h2
        exact ⟨h3, fun _ => ⟨i, .bor, rfl, h1, rfl, hv, fun z => by cases z⟩, fun _ => rfl, fun z => by cases z⟩
      · rename_i d1 h1
        cases e
        obtain ⟨v1, h2, h3⟩ := g.sl i .scr d h1
        rw [hv] at h2; cases h2
        exact ⟨h3, fun z => (by cases z), fun _ => rfl, fun z => by cases z⟩
      · cases e
/-- all of them -/
theorem argAll : ∀ {lend : Bool} {rs : List Rs} {vs : List V} {args : List (Stt × PyData)}, Gd K S ρ σ H → ArgRL K S H ρ σ vs rs → argVs ρ lend rs = some args →
    args.length = vs.length ∧ ∀ (i : Nat) (st : Stt) (d : PyData), args[i]? = some (st, d) → ∃ v r, vs[i]? = some v ∧ rs[i]? = some r ∧ SlotRep K S H v d st ∧
      (st.hold = true → ∃ j st0, r = .slot j ∧ ρ[j]? = some (some (st0, d)) ∧ st0.hold = true ∧ σ[j]? = some (some v) ∧ ((lend = true ∧ i = 0) → st0.mut = true)) ∧ (¬ (lend = true ∧ i = 0) → st.mut = false) ∧ ((lend = true ∧ i = 0) → st = .lent)
  | lend, [], vs, args, g, h, e => by
    cases h
    cases e
    exact ⟨rfl, fun i st d h => by simp at h⟩
  | lend, r :: rs, vs, args, g, h, e => by
    cases h with
    | cons h t =>
      rename_i v vs
      unfold argVs at e
      split at e
      · rename_i p l e1 e2
        cases e
        obtain ⟨hl, ih⟩ := argAll g t e2
        refine ⟨by rw [List.length_cons, List.length_cons, hl], fun i st d hi => ?_⟩
        cases i with
        | zero =>
          simp at hi
          subst hi
          obtain ⟨a1, a2, a3, a4⟩ := argOne g h e1
          refine ⟨v, r, rfl, rfl, a1, fun z => ?_, fun z => a3 ?_, fun z => a4 z.1⟩
          · obtain ⟨j, st0, b1, b2, b3, b4, b5⟩ := a2 z
            exact ⟨j, st0, b1, b2, b3, b4, fun y => b5 y.1⟩
          · cases lend with
            | false => rfl
            | true => exact absurd ⟨rfl, rfl⟩ z
        | succ i =>
          rw [List.getElem?_cons_succ] at hi
          obtain ⟨v1, r1, b1, b2, b3, b4, b5, _⟩ := ih i st d hi
          refine ⟨v1, r1, by simpa using b1, by simpa using b2, b3, fun z => ?_, fun _ => b5 (fun z => Bool.noConfusion z.1), fun z => Nat.noConfusion z.2⟩
          obtain ⟨j, st0, c1, c2, c3, c4, _⟩ := b4 z
          exact ⟨j, st0, c1, c2, c3, c4, fun y => Nat.noConfusion y.2⟩
      · cases e
theorem argGd {lend : Bool} {rs : List Rs} {vs : List V} {args : List (Stt × PyData)} (g : Gd K S ρ σ H) (h : ArgRL K S H ρ σ vs rs) (e : argVs ρ lend rs = some args) (nc : noClash ρ rs = true) : Gd K S (args.map some) (vs.map some) H := by
  obtain ⟨hl, hall⟩ := argAll g h e
  refine ⟨by simp [hl], fun i st d hi => ?_, fun i j a st d st' d' hi hj h1 h2 h3 h4 => ?_, g.al⟩
  · obtain ⟨y, hy1, hy2⟩ := get_map_some hi
    cases hy1
    obtain ⟨v, r, b1, b2, b3, _⟩ := hall i st d hy2
    exact ⟨v, by rw [List.getElem?_map, b1]; rfl, b3⟩
  · obtain ⟨y, hy1, hy2⟩ := get_map_some hi
    cases hy1
    obtain ⟨z, hz1, hz2⟩ := get_map_some hj
    cases hz1
    obtain ⟨v, r, b1, b2, b3, b4, _⟩ := hall i st d hy2
    obtain ⟨v', r', c1, c2, c3, c4, _⟩ := hall j st' d' hz2
    obtain ⟨si, sti, e1, e2, e3, e4, _⟩ := b4 h1
    obtain ⟨sj, stj, f1, f2, f3, f4, _⟩ := c4 h2
    rw [List.getElem?_map, b1] at h3; cases h3
    rw [List.getElem?_map, c1] at h4; cases h4
    have hs := g.ne si sj a sti d stj d' e2 f2 e3 f3 e4 f4
    subst hs
    subst e1
    subst f1
    have bad : ∀ {m n : Nat}, m < n → rs[m]? = some (.slot si) → rs[n]? = some (.slot si) → False := fun {m n} hmn hm hn => by
      have := noClash_get nc hmn hm hn
      unfold clash at this
      simp [e2, e3] at this
    rcases Nat.lt_trichotomy i j with hij | hij | hij
    · exact (bad hij b2 c2).elim
    · exact hij
    · exact (bad hij c2 b2).elim
/-- the call gives new things alone -/
theorem Fc.gw {args : List (Option (Stt × PyData))} {vs : L2.St} (f : Fc S args vs H S' H') (nm : ∀ a, ¬ Mu args vs a) : Gw S H S' H' :=
  ⟨fun a o e => f.keep a o e (nm a), f.sh, fun a h => (f.new a h).imp_right fun z => z.resolve_left (nm a), f.al⟩
/-- a call that changes the object of one slot -/
theorem Now.called {i : Nat} {st : Stt} (n : Now K σ S0 ρ0 H0 S ρ H) (h : ρ[i]? = some (some (st, d))) (hm : st.mut = true) (hv : σ[i]? = some (some (V.ref a)))
    (dom : ∀ b, H b ≠ none → H' b ≠ none) (keep : ∀ b o, H b = some o → b ≠ a → H' b = some o) (sh : ∀ b, S b → S' b) (new : ∀ b, S' b → S b ∨ H b = none) (al : ∀ b, S' b → H' b ≠ none) (nS : ¬ S' a) (t : TopX K S' H' a d') :
    Now K σ S0 ρ0 H0 S' (ρ.set i (some (st, d'))) H' := by
  have hi : i < ρ.length := (List.getElem?_eq_some_iff.mp h).1
  have hold : st.hold = true := by cases st <;> first | rfl | cases hm
  have mu : Mu ρ σ a := ⟨i, st, d, h, hm, hv⟩
  have ns : ¬ S a := fun z => n.g.notMu z mu
  have tx : TopX K S H a d := by
    obtain ⟨v, h1, h2⟩ := n.g.sl i st d h
    rw [hv] at h1; cases h1
    cases st with
    | own => obtain ⟨b, e, _, t⟩ := h2; cases e; exact t
    | lent => obtain ⟨b, e, _, t⟩ := h2; cases e; exact t
    | _ => cases hm
  have u : Uph S H S' H' := ⟨sh, fun b o hb e => keep b o e (show b ≠ a from fun z => ns (z ▸ hb))⟩
  have nw : ∀ b, H b ≠ none → ¬ S b → ¬ S' b := fun b h1 h2 h3 => (new b h3).elim h2 h1
  refine ⟨n.g0, ⟨fun b hb => dom b (n.f.dom b hb), fun b o e nm => keep b o (n.f.keep b o e nm) (show b ≠ a from fun z => nm (z ▸ n.f.mu mu)), fun b hb => sh b (n.f.sh b hb), fun b hb => ?_, by rw [List.length_set]; exact n.f.len, fun j hj => ?_, fun j st1 d1 hj => ?_⟩, ⟨by rw [List.length_set]; exact n.g.len, fun j st1 d1 hj => ?_, fun j k b st1 d1 st2 d2 hj hk ha hb hvj hvk => ?_, al⟩⟩
  · rcases new b hb with z | z
    · exact n.f.new b z
    · exact .inr (.inr (n.none0 z))
  · have hj' := n.f.non j hj
    have : j ≠ i := by rintro rfl; rw [h] at hj'; cases hj'
    rw [List.getElem?_set_ne (Ne.symm this)]
    exact hj'
  · obtain ⟨st2, d2, h3, h4, h5⟩ := n.f.sts j st1 d1 hj
    by_cases hji : j = i
    · subst hji
      rw [h] at h3; cases h3
      refine ⟨st, d', by rw [List.getElem?_set_self hi], h4, fun z => ?_⟩
      rcases h4 with rfl | ⟨rfl, _⟩
      · rw [hm] at z; cases z
      · cases z
    · exact ⟨st2, d2, by rw [List.getElem?_set_ne (Ne.symm hji)]; exact h3, h4, h5⟩
  · rcases mem_set_slot hj with ⟨rfl, e1⟩ | ⟨hne, hj⟩
    · cases e1
      refine ⟨_, hv, ?_⟩
      cases st with
      | own => exact ⟨a, rfl, nS, t⟩
      | lent => exact ⟨a, rfl, nS, t⟩
      | _ => cases hm
    · obtain ⟨w, h3, h4⟩ := n.g.sl j st1 d1 hj
      refine ⟨w, h3, ?_⟩
      have other : ∀ b, w = .ref b → st1.hold = true → b ≠ a := fun b e1 hh e2 => hne (n.g.ne j i a st1 d1 st d hj h hh hold (by rw [h3, e1, e2]) hv)
      cases st1 with
      | shr => exact Rp.up u h4
      | own => obtain ⟨b, rfl, ns', t1⟩ := h4; exact ⟨b, rfl, nw b (TopX.there t1) ns', TopX.up u (fun o e => keep b o e (other b rfl rfl)) t1⟩
      | lent => obtain ⟨b, rfl, ns', t1⟩ := h4; exact ⟨b, rfl, nw b (TopX.there t1) ns', TopX.up u (fun o e => keep b o e (other b rfl rfl)) t1⟩
      | bor => obtain ⟨b, rfl, ns', t1⟩ := h4; exact ⟨b, rfl, nw b (TopR.there t1) ns', TopR.up u (fun o e => keep b o e (other b rfl rfl)) t1⟩
      | scr =>
        obtain ⟨b, ns1, rfl, e1, k⟩ := h4
        refine ⟨b, ns1, rfl, e1, KLst.keep (fun o e => keep b _ e fun z => ?_) k⟩
        subst z
        cases d with
        | list ds => obtain ⟨vs, q, _⟩ := tx; rw [q] at e; cases e
        | dict kvs => obtain ⟨ts, q, _⟩ := tx; rw [q] at e; cases e
        | _ => exact tx.elim
  · have f1 : ∀ {j : Nat} {st1 : Stt} {d1 : PyData}, (ρ.set i (some (st, d')))[j]? = some (some (st1, d1)) → ∃ d2, ρ[j]? = some (some (st1, d2)) := fun {j st1 d1} hj => by
      rcases mem_set_slot hj with ⟨rfl, e1⟩ | ⟨_, hj⟩
      · cases e1; exact ⟨d, h⟩
      · exact ⟨d1, hj⟩
    obtain ⟨x1, y1⟩ := f1 hj
    obtain ⟨x2, y2⟩ := f1 hk
    exact n.g.ne j k b st1 x1 st2 x2 y1 y2 ha hb hvj hvk
theorem RR.any {ρ1 ρ2 : Rho} {σ1 σ2 : L2.St} (h : RR K H0 S H ρ1 σ1 v r) (ns : ∀ i, r ≠ .slot i) : RR K H0 S H ρ2 σ2 v r := by
  cases r with
  | kept d => exact h
  | fresh d => exact h
  | slot i => exact absurd rfl (ns i)
end
section
variable {X : Cx} {k : Nat} {x : Str} {fn : Fn} {p pos : Pos} {e : Expr} {es : List Expr} {g : Mo (List Rs)}
theorem pd_call (c : Cl X.prog X.w X.K X.mg X.base k x fn) (hr : Room k X.A) (hg : Gl X x) (ha : AD X (e :: es) g) (hdb : (x == ("__debug__" : Str)) = false := by decide)
    (he : starEach (e :: es) X.env = (false, eval e X.env) :: starEach es X.env := by rfl) (hpl : (backTo pos (starEach es X.env)).any (·.1) = false := by rfl) : PD X (.Call (.Name x p) (e :: es) [] pos) (xCall fn g) := by
  obtain ⟨f, fd, ps, F, hm, hk, hb⟩ := c
  refine PE.to (pe_call F hr hg hm hk hb .nil pass0 ha hdb he hpl) fun σ H Q h => ?_
  obtain ⟨S, ρ, r, ρ', G, e, q⟩ := h
  obtain ⟨rs, ρ1, e1, e2⟩ := bindM_some e
  refine ⟨S, ρ, rs, ρ1, G, e1, fun vs S1 H1 F1 G1 R1 => ?_⟩
  have n1 : Now X.K σ S ρ H S1 ρ1 H1 := ⟨G, F1, G1⟩
  obtain ⟨S2, n2, A2, sh2⟩ := RRLw.hand rs n1 R1.w
  split at e2
  · rename_i args ea
    split at e2
    · rename_i nc
      split at e2
      · rename_i r0 l0 ef
        have hns : ∀ i, r0 ≠ .slot i := fun i z => by subst z; cases e2
        have he2 : r = r0 ∧ ρ' = ρ1 := by
          cases r0 with
          | slot i => cases e2
          | kept d => cases e2; exact ⟨rfl, rfl⟩
          | fresh d => cases e2; exact ⟨rfl, rfl⟩
        obtain ⟨rfl, rfl⟩ := he2
        show spI X.K fn (vs ++ []) H1 Q E0
        rw [List.append_nil]
        refine ⟨S2, args, r, l0, argGd n2.g A2 ea nc, ef, fun v S3 H3 fc rr _ => ?_⟩
        have gw : Gw S2 H1 S3 H3 := fc.gw fun a m => by
          obtain ⟨i, st, d, m1, m2, m3⟩ := m
          obtain ⟨y, hy1, hy2⟩ := get_map_some m1
          cases hy1
          obtain ⟨_, hall⟩ := argAll n2.g A2 ea
          obtain ⟨_, _, _, _, _, _, b5, _⟩ := hall i st d hy2
          rw [b5 (fun z => Bool.noConfusion z.1)] at m2
          cases m2
        exact q v S3 H3 (n2.grow gw).f (n2.grow gw).g ((rr.any hns).pre n2)
      · cases e2
    · cases e2
  · cases e2
theorem pd_callL (c : Cl X.prog X.w X.K X.mg X.base k x fn) (hr : Room k X.A) (hg : Gl X x) (ha : AD X (e :: es) g) (hdb : (x == ("__debug__" : Str)) = false := by decide)
    (he : starEach (e :: es) X.env = (false, eval e X.env) :: starEach es X.env := by rfl) (hpl : (backTo pos (starEach es X.env)).any (·.1) = false := by rfl) : PD X (.Call (.Name x p) (e :: es) [] pos) (xCallL fn g) := by
  obtain ⟨f, fd, ps, F, hm, hk, hb⟩ := c
  refine PE.to (pe_call F hr hg hm hk hb .nil pass0 ha hdb he hpl) fun σ H Q h => ?_
  obtain ⟨S, ρ, r, ρ', G, e, q⟩ := h
  obtain ⟨rs, ρ1, e1, e2⟩ := bindM_some e
  refine ⟨S, ρ, rs, ρ1, G, e1, fun vs S1 H1 F1 G1 R1 => ?_⟩
  have n1 : Now X.K σ S ρ H S1 ρ1 H1 := ⟨G, F1, G1⟩
  obtain ⟨S2, n2, A2, sh2⟩ := RRLw.hand rs n1 R1.w
  split at e2
  · rename_i args ea
    split at e2
    · rename_i nc
      split at e2
      · rename_i r0 d' ef
        have he2 : ∃ i rest st d0, rs = .slot i :: rest ∧ ρ1[i]? = some (some (st, d0)) ∧ r = r0 ∧ ρ' = ρ1.set i (some (st, d')) ∧ ∀ j, r0 ≠ .slot j := by
          split at e2
          · split at e2
            · cases e2; exact ⟨_, _, _, _, rfl, ‹_›, rfl, rfl, fun j z => by cases z⟩
            · cases e2
          · split at e2
            · cases e2; exact ⟨_, _, _, _, rfl, ‹_›, rfl, rfl, fun j z => by cases z⟩
            · cases e2
          · cases e2
        obtain ⟨i, rest, st, d0, rfl, hi, rfl, rfl, hns⟩ := he2
        show spI X.K fn (vs ++ []) H1 Q E0
        rw [List.append_nil]
        obtain ⟨hl, hall⟩ := argAll n2.g A2 ea
        refine ⟨S2, args, r, some d', argGd n2.g A2 ea nc, ef, fun v S3 H3 fc rr lt => ?_⟩
        obtain ⟨a, hv0, ns, tx⟩ := lt d' rfl
        have h0 : ∃ p, args[0]? = some p := by
          cases args with
          | nil => cases A2; simp at hl
          | cons p _ => exact ⟨p, rfl⟩
        obtain ⟨⟨st1, d1⟩, h0⟩ := h0
        obtain ⟨v1, r1, b1, b2, b3, b4, _, b6⟩ := hall 0 st1 d1 h0
        have hl1 := b6 ⟨rfl, rfl⟩
        subst hl1
        obtain ⟨j, st0, c1, c2, c3, c4, c5⟩ := b4 rfl
        simp at b2
        subst b2
        cases c1
        rw [hi] at c2; cases c2
        rw [hv0] at b1; cases b1
        have hm := c5 ⟨rfl, rfl⟩
        have only : ∀ b, Mu (args.map some) (vs.map some) b → b = a := fun b m => by
          obtain ⟨i1, st2, d2, m1, m2, m3⟩ := m
          obtain ⟨y, hy1, hy2⟩ := get_map_some m1
          cases hy1
          by_cases z : i1 = 0
          · subst z
            rw [List.getElem?_map, hv0] at m3
            cases m3; rfl
          · obtain ⟨_, _, _, _, _, _, b5, _⟩ := hall i1 st2 d2 hy2
            rw [b5 fun y => z y.2] at m2
            cases m2
        have n3 : Now X.K σ S ρ H S3 (ρ1.set i (some (st, d'))) H3 := n2.called hi hm c4 fc.dom (fun b o e nb => fc.keep b o e fun m => nb (only b m)) fc.sh (fun b hb => by
          rcases fc.new b hb with z | z | z
          · exact .inl z
          · exact absurd hb (only b z ▸ ns)
          · exact .inr z) fc.al ns tx
        exact q v S3 H3 n3.f n3.g ((rr.any hns).pre n2)
      · cases e2
    · cases e2
  · cases e2
end
end PyI

/-! PyI, part G: operators, displays, items. -/
namespace PyI
open PySem PySem.Spec L2

section
variable {K : PySem.W.Frag} {S S' : Addr → Prop} {H H' : Hp} {v : V} {d : PyData} {ds : List PyData} {kvs : List (PyData × PyData)} {a : Addr} {vs : List V}
theorem Rdb.int {i : Int} (h : Rdb K S H v (.int i)) : v = .int i := by
  rcases h with h | ⟨a, _, h⟩
  · cases h; rfl
  · exact h.elim
theorem Rdb.str {x : Str} (h : Rdb K S H v (.str x)) : v = .str x := by
  rcases h with h | ⟨a, _, h⟩
  · cases h; rfl
  · exact h.elim
theorem Rdb.non (h : Rdb K S H v .none) : v = .non := by
  rcases h with h | ⟨a, _, h⟩
  · cases h; rfl
  · exact h.elim
theorem Rdb.lst (h : Rdb K S H v (.list ds)) : ∃ a vs, v = .ref a ∧ H a = some (.lst vs) ∧ RpL K S H vs ds := by
  rcases h with h | ⟨a, e, h⟩
  · cases h with
    | lst _ h r => exact ⟨_, _, rfl, h, r⟩
  · obtain ⟨vs, h1, h2⟩ := h; exact ⟨a, vs, e, h1, h2⟩
theorem Rdb.tup (h : Rdb K S H v (.tuple ds)) : ∃ a vs, v = .ref a ∧ STup K S H a vs ∧ RpL K S H vs ds := by
  rcases h with h | ⟨a, e, h⟩
  · cases h with
    | tup h r => exact ⟨_, _, rfl, h, r⟩
  · exact h.elim
theorem Rdb.dct (h : Rdb K S H v (.dict kvs)) : ∃ a ts, v = .ref a ∧ Rd H a (.dK ts) ∧ kvs.map (·.1) = ts.map (fun p => keyD p.1) ∧ RpL K S H (ts.map (·.2)) (kvs.map (·.2)) := by
  rcases h with h | ⟨a, e, h⟩
  · cases h with
    | dct _ h k r => exact ⟨_, _, rfl, h, k, r⟩
  · obtain ⟨ts, h1, h2, h3⟩ := h; exact ⟨a, ts, e, h1, h2, h3⟩
theorem STup.sq (h : STup K S H a vs) : SqT K H a vs := by
  rcases h with ⟨_, h⟩ | ⟨o, its, n, h1, h2, h3, h4, h5⟩
  · exact .inl (.inl h)
  · exact .inr ⟨o, its, n, h1, h2, h3, h4, h5⟩
mutual
theorem Rp.dp : ∀ {v : V} {d : PyData}, Rp K S H v d → d.plain = true → Dp K H v d
  | _, _, .non, _ => .non
  | _, _, .bl b, _ => .bl b
  | _, _, .int i, _ => .int i
  | _, _, .str x, _ => .str x
  | _, _, .tup h r, p => .tup h.sq (RpL.dp r (by simpa [PyData.plain] using p))
  | _, _, .lst _ h r, p => .lst (SqL.of h) (RpL.dp r (by simpa [PyData.plain] using p))
  | _, _, .dct _ _ _ _, p => nomatch p
theorem RpL.dp : ∀ {vs : List V} {ds : List PyData}, RpL K S H vs ds → PyData.plainAll ds = true → DpAll K H vs ds
  | _, _, .nil, _ => .nil
  | _, _, .cons h r, p => by
    rw [PyData.plainAll, Bool.and_eq_true] at p
    exact .cons (Rp.dp h p.1) (RpL.dp r p.2)
end
theorem Rdb.dp (h : Rdb K S H v d) (p : d.plain = true) : Dp K H v d := by
  rcases h with h | ⟨a, rfl, h⟩
  · exact h.dp p
  · cases d with
    | list ds => obtain ⟨vs, h1, h2⟩ := h; exact .lst (SqL.of h1) (h2.dp (by simpa [PyData.plain] using p))
    | dict _ => nomatch p
    | _ => exact h.elim
theorem lay_lst {H0 : Hp} {ρ : Rho} {σ : L2.St} (al : ∀ a, S a → H a ≠ none) (r : RpL K S H vs ds) {p : Addr} (hp : H p = none) (h0 : H0 p = none) : RR K H0 S (upd H p (.lst vs)) ρ σ (.ref p) (.fresh (.list ds)) :=
  ⟨p, rfl, h0, fun z => al p z hp, vs, upd_same, r.up (Gw.lay al hp).up⟩
theorem lay_tup (al : ∀ a, S a → H a ≠ none) (r : RpL K S H vs ds) {p : Addr} (hp : H p = none) : Rp K (fun b => S b ∨ b = p) (upd H p (.tup vs)) (.ref p) (.tuple ds) :=
  .tup (.inl ⟨.inr rfl, upd_same⟩) (r.up (Gw.layS al hp).up)
end

/-! ### + - * // % ** -/
def opAdd : PyData → PyData → Option PyData
  | .int i, .int j => some (.int (i + j))
  | .str x, .str y => if x.length + y.length ≤ sizeLine then some (.str (x ++ y)) else none
  | .list xs, .list ys => if xs.length + ys.length ≤ sizeLine then some (.list (xs ++ ys)) else none
  | .tuple xs, .tuple ys => if xs.length + ys.length ≤ sizeLine then some (.tuple (xs ++ ys)) else none
  | _, _ => none
def opSub : PyData → PyData → Option PyData
  | .int i, .int j => some (.int (i - j))
  | _, _ => none
def opMul : PyData → PyData → Option PyData
  | .int i, .int j => if (-(2 ^ 64) < i ∧ i < 2 ^ 64) ∨ (-(2 ^ 64) < j ∧ j < 2 ^ 64) then some (.int (i * j)) else none
  | _, _ => none
def opFdiv : PyData → PyData → Option PyData
  | .int i, .int j => if 0 < j ∧ j < 1073741824 then some (.int (i / j)) else none
  | _, _ => none
def opMod : PyData → PyData → Option PyData
  | .int i, .int j => if 0 < j then some (.int (i % j)) else none
  | _, _ => none
def opPow : PyData → PyData → Option PyData
  | .int i, .int j => if 0 ≤ j ∧ j ≤ 1000000 ∧ i.natAbs < 18446744073709551616 then some (.int (i ^ j.toNat)) else none
  | _, _ => none
section
variable {X : Cx}
/-- an operator on ints -/
theorem oi {f : Value → Value → Sem Value} {C : Int → Int → Prop} {g : Int → Int → Int} {op : PyData → PyData → Option PyData} (h : OpR X f (rI C fun i j => .int (g i j)))
    (hop : ∀ a b d, op a b = some d → ∃ i j, a = .int i ∧ b = .int j ∧ C i j ∧ d = .int (g i j)) : OpR X f (rD X.K op) := by
  intro pins s σ H x y v u Q I rx ry q
  obtain ⟨S, d1, d2, d, al, r1, r2, e, q⟩ := q
  obtain ⟨i, j, rfl, rfl, hc, rfl⟩ := hop _ _ _ e
  exact h pins s σ H x y v u Q I rx ry ⟨i, j, r1.int, r2.int, hc, q _ S H (Gw.refl al) (.int _)⟩
theorem oi0 {f : Value → Value → Sem Value} {g : Int → Int → Int} {op : PyData → PyData → Option PyData} (h : OpR X f (rI0 fun i j => .int (g i j)))
    (hop : ∀ a b d, op a b = some d → ∃ i j, a = .int i ∧ b = .int j ∧ d = .int (g i j)) : OpR X f (rD X.K op) := by
  intro pins s σ H x y v u Q I rx ry q
  obtain ⟨S, d1, d2, d, al, r1, r2, e, q⟩ := q
  obtain ⟨i, j, rfl, rfl, rfl⟩ := hop _ _ _ e
  exact h pins s σ H x y v u Q I rx ry ⟨i, j, r1.int, r2.int, q _ S H (Gw.refl al) (.int _)⟩
theorem oib {f : Value → Value → Sem Value} {g : Int → Int → Bool} {op : PyData → PyData → Option PyData} (h : OpR X f (rI0 fun i j => .bl (g i j)))
    (hop : ∀ a b d, op a b = some d → ∃ i j, a = .int i ∧ b = .int j ∧ d = .bool (g i j)) : OpR X f (rD X.K op) := by
  intro pins s σ H x y v u Q I rx ry q
  obtain ⟨S, d1, d2, d, al, r1, r2, e, q⟩ := q
  obtain ⟨i, j, rfl, rfl, rfl⟩ := hop _ _ _ e
  exact h pins s σ H x y v u Q I rx ry ⟨i, j, r1.int, r2.int, q _ S H (Gw.refl al) (.bl _)⟩
theorem o_sub : OpR X (binaryOp .Sub) (rD X.K opSub) := oi0 op_sub fun a b d e => by
  unfold opSub at e; split at e
  · cases e; exact ⟨_, _, rfl, rfl, rfl⟩
  · cases e
theorem o_mul : OpR X (binaryOp .Mult) (rD X.K opMul) := oi op_mul fun a b d e => by
  unfold opMul at e; split at e
  · split at e
    · rename_i hc; cases e; exact ⟨_, _, rfl, rfl, hc, rfl⟩
    · cases e
  · cases e
theorem o_fdiv : OpR X (binaryOp .FloorDiv) (rD X.K opFdiv) := oi op_fdiv fun a b d e => by
  unfold opFdiv at e; split at e
  · split at e
    · rename_i hc; cases e; exact ⟨_, _, rfl, rfl, hc, rfl⟩
    · cases e
  · cases e
theorem o_mod : OpR X (binaryOp .Mod) (rD X.K opMod) := oi op_mod fun a b d e => by
  unfold opMod at e; split at e
  · split at e
    · rename_i hc; cases e; exact ⟨_, _, rfl, rfl, hc, rfl⟩
    · cases e
  · cases e
theorem o_pow : OpR X (binaryOp .Pow) (rD X.K opPow) := oi op_pow fun a b d e => by
  unfold opPow at e; split at e
  · split at e
    · rename_i hc; cases e; exact ⟨_, _, rfl, rfl, ⟨hc.1, hc.2.1, by simpa using hc.2.2⟩, rfl⟩
    · cases e
  · cases e
theorem o_add : OpR X (binaryOp .Add) (rD X.K opAdd) := by
  intro pins s σ H x y v u Q I rx ry q
  obtain ⟨S, d1, d2, d, al, r1, r2, e, q⟩ := q
  unfold opAdd at e
  split at e
  · cases e
    exact op_add pins s σ H x y v u Q I rx ry ⟨_, _, r1.int, r2.int, q _ S H (Gw.refl al) (.int _)⟩
  · split at e
    · rename_i hz
      cases e
      exact op_add_str pins s σ H x y v u Q I rx ry ⟨_, _, r1.str, r2.str, hz, q _ S H (Gw.refl al) (.str _)⟩
    · cases e
  · split at e
    · rename_i hz
      cases e
      obtain ⟨a, xs, rfl, h1, p1⟩ := r1.lst
      obtain ⟨b, zs, rfl, h2, p2⟩ := r2.lst
      exact op_cat pins s σ H _ _ v u Q I rx ry ⟨a, b, xs, zs, rfl, rfl, h1, h2, by rw [p1.len, p2.len]; exact hz, fun p hp => q _ S _ (Gw.lay al hp) (lay_lst al (p1.app p2) hp hp)⟩
    · cases e
  · split at e
    · rename_i hz
      cases e
      obtain ⟨a, xs, rfl, h1, p1⟩ := r1.tup
      obtain ⟨b, zs, rfl, h2, p2⟩ := r2.tup
      refine op_catA pins s σ H _ _ v u Q I rx ry ⟨a, b, xs, zs, rfl, rfl, h1.sq, h2.sq, by rw [p1.len, p2.len]; exact hz, fun ex => ?_, fun _ ey => ?_, fun _ _ p hp => ?_⟩
      · subst ex
        cases p1
        exact q _ S H (Gw.refl al) (.tup h2 p2)
      · subst ey
        cases p2
        refine q _ S H (Gw.refl al) (.tup h1 ?_)
        rw [List.append_nil]; exact p1
      · exact q _ _ _ (Gw.layS al hp) (lay_tup al (p1.app p2) hp)
    · cases e
  · cases e
end

/-! ### comparisons -/
def opLt : PyData → PyData → Option PyData
  | .int i, .int j => some (.bool (decide (i < j)))
  | _, _ => none
def opLe : PyData → PyData → Option PyData
  | .int i, .int j => some (.bool (decide (i ≤ j)))
  | _, _ => none
def opGt : PyData → PyData → Option PyData
  | .int i, .int j => some (.bool (decide (j < i)))
  | _, _ => none
def opGe : PyData → PyData → Option PyData
  | .int i, .int j => some (.bool (decide (j ≤ i)))
  | _, _ => none
def isNone : PyData → Bool
  | .none => true | _ => false
def opIsN : PyData → PyData → Option PyData
  | d, .none => some (.bool (isNone d))
  | _, _ => none
def opNotN : PyData → PyData → Option PyData
  | d, .none => some (.bool (!isNone d))
  | _, _ => none
/-- one key, another one -/
def keyEq : PyData → PyData → Bool
  | .int i, .int j => i == j
  | .str x, .str y => x == y
  | _, _ => false
def lookD (k : PyData) : List (PyData × PyData) → Option PyData
  | [] => none
  | p :: r => if keyEq p.1 k = true then some p.2 else lookD k r
/-- the values are small data -/
def okVals (n : Nat) : List (PyData × PyData) → Bool
  | [] => true
  | p :: r => p.2.plain && decide (p.2.depth ≤ n) && okVals n r
def hitsD (b : List (PyData × PyData)) : List (PyData × PyData) → Bool
  | [] => true
  | p :: r => match lookD p.1 b with
    | none => false
    | some y => PyData.eqv p.2 y && hitsD b r
def eqD : PyData → PyData → Option Bool
  | .dict a, .dict b => if okVals 50 a = true ∧ okVals 50 b = true then some (a.length == b.length && hitsD b a) else none
  | a, b => if a.plain = true ∧ b.plain = true ∧ min a.depth b.depth ≤ 60 then some (PyData.eqv a b) else none
def opEq (a b : PyData) : Option PyData := (eqD a b).map .bool
def opNe (a b : PyData) : Option PyData := (eqD a b).map fun b => .bool (!b)
theorem eqD_int {i j : Int} : eqD (.int i) (.int j) = some (i == j) := by simp [eqD, PyData.plain, PyData.depth, PyData.eqv]
theorem keyEq_keyD {k k' : Key} : keyEq (keyD k) (keyD k') = decide (k = k') := by
  cases k <;> cases k' <;> simp [keyD, keyEq]
  all_goals (rename_i a b; by_cases h : a = b <;> simp [h])
section
variable {K : PySem.W.Frag} {S S' : Addr → Prop} {H H' : Hp}
/-- a key's value, by the values and by the data -/
theorem look_of : ∀ {ts : List (Key × V)} {kvs : List (PyData × PyData)} (k : Key), kvs.map (·.1) = ts.map (fun p => keyD p.1) → RpL K S H (ts.map (·.2)) (kvs.map (·.2)) →
    (valV ts k = none ∧ lookD (keyD k) kvs = none) ∨ ∃ v d, valV ts k = some v ∧ lookD (keyD k) kvs = some d ∧ Rp K S H v d
  | [], [], k, _, _ => .inl ⟨rfl, rfl⟩
  | [], _ :: _, _, e, _ => by simp at e
  | _ :: _, [], _, e, _ => by simp at e
  | (j, w) :: ts, (jd, wd) :: kvs, k, e, r => by
    simp only [List.map_cons, List.cons.injEq] at e
    obtain ⟨e1, e2⟩ := e
    simp only [List.map_cons] at r
    cases r with
    | cons h t =>
      unfold lookD
      simp only at e1 ⊢
      rw [e1, keyEq_keyD]
      by_cases hk : j = k
      · rw [if_pos (decide_eq_true hk), valV_pos (p := (j, w)) hk]
        exact .inr ⟨w, wd, rfl, rfl, h⟩
      · rw [if_neg (by simpa using hk), valV_neg (p := (j, w)) hk]
        exact look_of k e2 t
theorem okVals_at : ∀ {kvs : List (PyData × PyData)} {n : Nat} {k : PyData} {d : PyData}, okVals n kvs = true → lookD k kvs = some d → d.plain = true ∧ d.depth ≤ n
  | p :: r, n, k, d, h, e => by
    unfold okVals at h
    simp only [Bool.and_eq_true, decide_eq_true_eq] at h
    unfold lookD at e
    split at e
    · cases e; exact h.1
    · exact okVals_at h.2 e
end
section
variable {X : Cx}
theorem o_lt : OpR X (compareOp .Lt) (rD X.K opLt) := oib op_lt fun a b d e => by
  unfold opLt at e; split at e
  · cases e; exact ⟨_, _, rfl, rfl, rfl⟩
  · cases e
theorem o_le : OpR X (compareOp .LtE) (rD X.K opLe) := oib op_le fun a b d e => by
  unfold opLe at e; split at e
  · cases e; exact ⟨_, _, rfl, rfl, rfl⟩
  · cases e
theorem o_gt : OpR X (compareOp .Gt) (rD X.K opGt) := oib op_gt fun a b d e => by
  unfold opGt at e; split at e
  · cases e; exact ⟨_, _, rfl, rfl, rfl⟩
  · cases e
theorem o_ge : OpR X (compareOp .GtE) (rD X.K opGe) := oib op_ge fun a b d e => by
  unfold opGe at e; split at e
  · cases e; exact ⟨_, _, rfl, rfl, rfl⟩
  · cases e
theorem Rdb.isNone {K : PySem.W.Frag} {S : Addr → Prop} {H : Hp} {v : V} {d : PyData} (h : Rdb K S H v d) : decide (v = .non) = PyI.isNone d := by
  rcases h with h | ⟨a, rfl, h⟩
  · cases h <;> rfl
  · cases d <;> first | rfl | exact h.elim
theorem o_isN : OpR X (compareOp .Is) (rD X.K opIsN) := by
  intro pins s σ H x y v u Q I rx ry q
  obtain ⟨S, d1, d2, d, al, r1, r2, e, q⟩ := q
  unfold opIsN at e
  split at e
  · cases e
    refine op_isN pins s σ H x y v u Q I rx ry ⟨r2.non, ?_⟩
    rw [r1.isNone]
    exact q _ S H (Gw.refl al) (.bl _)
  · cases e
theorem o_notN : OpR X (compareOp .IsNot) (rD X.K opNotN) := by
  intro pins s σ H x y v u Q I rx ry q
  obtain ⟨S, d1, d2, d, al, r1, r2, e, q⟩ := q
  unfold opNotN at e
  split at e
  · cases e
    refine op_notN pins s σ H x y v u Q I rx ry ⟨r2.non, ?_⟩
    rw [r1.isNone]
    exact q _ S H (Gw.refl al) (.bl _)
  · cases e
/-- the pairs of one dict are looked for in the other one -/
theorem hits_of {pins : List (Addr × Obj)} {s : Shared} {σ : L2.St} {H : Hp} {S : Addr → Prop} (I : Inv X pins σ H s) (hu : X.A.units + 64 < cLine) {ls : List (Key × V)} {vb : List (Key × Value)} {b : List (PyData × PyData)}
    (rb : KV ls vb) (kb : b.map (·.1) = ls.map (fun p => keyD p.1)) (pb : RpL X.K S H (ls.map (·.2)) (b.map (·.2))) (ob : okVals 50 b = true) :
    ∀ {ks : List (Key × V)} {va : List (Key × Value)} {a : List (PyData × PyData)}, KV ks va → a.map (·.1) = ks.map (fun p => keyD p.1) → RpL X.K S H (ks.map (·.2)) (a.map (·.2)) → okVals 50 a = true → PySem.W.KeqHits X.A.in1 s vb va (hitsD b a)
  | [], _, [], .nil, _, _, _ => .nil
  | [], _, _ :: _, _, e, _, _ => by simp at e
  | _ :: _, _, [], _, e, _, _ => by simp at e
  | (k, w) :: ks, (k', u) :: va, (kd, wd) :: a, .cons h t, e, r, o => by
    obtain ⟨h1, h2⟩ := h
    simp only at h1 h2
    subst h1
    simp only [List.map_cons, List.cons.injEq] at e
    obtain ⟨e1, e2⟩ := e
    simp only [List.map_cons] at r
    cases r with
    | cons rw' rt =>
      unfold okVals at o
      simp only [Bool.and_eq_true, decide_eq_true_eq] at o
      have ih := hits_of I hu rb kb pb ob t e2 rt o.2
      unfold hitsD
      simp only at e1 ⊢
      rw [e1]
      have rv := rb.val k
      rcases look_of k kb pb with ⟨n1, n2⟩ | ⟨y, yd, n1, n2, n3⟩
      · rw [n2]
        rw [n1] at rv
        refine .miss ?_
        cases hva : valueAt vb k with
        | none => rfl
        | some z => rw [hva] at rv; exact rv.elim
      · rw [n2]
        rw [n1] at rv
        obtain ⟨z, hz, rz⟩ := rv.some_of
        have oy := okVals_at ob n2
        obtain ⟨as, q1⟩ := Dp.reads I wd w u (rw'.dp o.1.1) h2
        obtain ⟨bs, q2⟩ := Dp.reads I yd y z (n3.dp oy.1) rz
        refine .hit hz (SeqAt.eqAt_plain wd yd X.A.in1 s u z as bs q1 q2 o.1.1 oy.1 ?_) ih
        have := o.1.2
        show X.A.units + 1 + min wd.depth yd.depth < cLine
        omega
theorem eqD_run {pins : List (Addr × Obj)} {s : Shared} {σ : L2.St} {H : Hp} {S : Addr → Prop} {x y : V} {v u : Value} {a b : PyData} {r : Bool} (I : Inv X pins σ H s) (hu : X.A.units + 64 < cLine) (rx : RelV x v) (ry : RelV y u) (r1 : Rdb X.K S H x a) (r2 : Rdb X.K S H y b) (e : eqD a b = some r) :
    (∀ {E Q : Value → Shared → Prop}, Q (.bool r) s → wpAny (model X.prog X.w) X.A (compareOp .Eq v u) Q E s) ∧ ∀ {E Q : Value → Shared → Prop}, Q (.bool (!r)) s → wpAny (model X.prog X.w) X.A (compareOp .NotEq v u) Q E s := by
  unfold eqD at e
  split at e
  · split at e
    · rename_i ks ls ok
      cases e
      obtain ⟨pa, ta, rfl, ha, ka, ra⟩ := r1.dct
      obtain ⟨pb, tb, rfl, hb, kb, rb⟩ := r2.dct
      obtain rfl : v = Value.ref pa := rx
      obtain rfl : u = Value.ref pb := ry
      obtain ⟨_, ya, va, ra', da⟩ := dk_rd I.hok ha
      obtain ⟨_, yb, vb, rb', db⟩ := dk_rd I.hok hb
      have l1 : va.length = ks.length := by rw [← ra'.length]; have := congrArg List.length ka; simpa using this.symm
      have l2 : vb.length = ls.length := by rw [← rb'.length]; have := congrArg List.length kb; simpa using this.symm
      have hh := hits_of I hu rb' kb rb ok.2 ra' ka ra ok.1
      refine ⟨fun {E Q} q => ?_, fun {E Q} q => ?_⟩
      · exact PySem.W.keq_eq (knd := mixKind X.prog X.w) ya yb da db (by omega) (fun _ => hh) (by rw [l1, l2]; exact q)
      · exact PySem.W.keq_ne (knd := mixKind X.prog X.w) ya yb da db (by omega) (fun _ => hh) (by rw [l1, l2]; exact q)
    · cases e
  · split at e
    · rename_i ok
      cases e
      obtain ⟨as, q1⟩ := Dp.reads I a x v (r1.dp ok.1) rx
      obtain ⟨bs, q2⟩ := Dp.reads I b y u (r2.dp ok.2.1) ry
      refine ⟨fun {E Q} q => SeqAt.eq_plain q1 q2 ok.1 ok.2.1 ?_ q, fun {E Q} q => SeqAt.ne_plain q1 q2 ok.1 ok.2.1 ?_ q⟩ <;> (have := ok.2.2; omega)
    · cases e
theorem o_eq (hu : X.A.units + 64 < cLine) : OpR X (compareOp .Eq) (rD X.K opEq) := by
  intro pins s σ H x y v u Q I rx ry q
  obtain ⟨S, d1, d2, d, al, r1, r2, e, q⟩ := q
  unfold opEq at e
  obtain ⟨r, e1, rfl⟩ := Option.map_eq_some_iff.mp e
  exact (eqD_run I hu rx ry r1 r2 e1).1 ⟨.bl r, H, I, rfl, q _ S H (Gw.refl al) (.bl _)⟩
theorem o_ne (hu : X.A.units + 64 < cLine) : OpR X (compareOp .NotEq) (rD X.K opNe) := by
  intro pins s σ H x y v u Q I rx ry q
  obtain ⟨S, d1, d2, d, al, r1, r2, e, q⟩ := q
  unfold opNe at e
  obtain ⟨r, e1, rfl⟩ := Option.map_eq_some_iff.mp e
  exact (eqD_run I hu rx ry r1 r2 e1).2 ⟨.bl (!r), H, I, rfl, q _ S H (Gw.refl al) (.bl _)⟩
end
/-- x in c: a list, a tuple, a text, a dict -/
def inD : PyData → PyData → Option Bool
  | d, .list xs => if d.plain = true ∧ PyData.plainAll xs = true ∧ d.depth ≤ 50 then some (xs.any fun y => PyData.eqv y d) else none
  | d, .tuple xs => if d.plain = true ∧ PyData.plainAll xs = true ∧ d.depth ≤ 50 then some (xs.any fun y => PyData.eqv y d) else none
  | .str x, .str y => some (!(Builtin.Str.occurrences y x 0 y.length 1).isEmpty)
  | _, _ => none
/-- .. a dict -/
def inK : PyData → PyData → Option Bool
  | .str x, .dict kvs => some (lookD (.str x) kvs).isSome
  | .int x, .dict kvs => some (lookD (.int x) kvs).isSome
  | _, _ => none
def opIn (a b : PyData) : Option PyData := (inD a b).map .bool
def opNotIn (a b : PyData) : Option PyData := (inD a b).map fun b => .bool (!b)
def opInK (a b : PyData) : Option PyData := (inK a b).map .bool
def opNotInK (a b : PyData) : Option PyData := (inK a b).map fun b => .bool (!b)
section
variable {X : Cx}
theorem inD_run {pins : List (Addr × Obj)} {s : Shared} {σ : L2.St} {H : Hp} {S : Addr → Prop} {x y : V} {v u : Value} {a b : PyData} {r : Bool} (I : Inv X pins σ H s) (hu : X.A.units + 64 < cLine) (rx : RelV x v) (ry : RelV y u) (r1 : Rdb X.K S H x a) (r2 : Rdb X.K S H y b) (e : inD a b = some r) :
    (∀ {E : Value → Shared → Prop} {Q : VK}, Q (.bl r) H → wpAny (model X.prog X.w) X.A (compareOp .In v u) (EP X pins σ Q) X.xe s) ∧ ∀ {E : Value → Shared → Prop} {Q : VK}, Q (.bl (!r)) H → wpAny (model X.prog X.w) X.A (compareOp .NotIn v u) (EP X pins σ Q) X.xe s := by
  unfold inD at e
  split at e
  · split at e
    · rename_i ok
      cases e
      have pl : (PyData.list ‹_›).plain = true := by unfold PyData.plain; exact ok.2.1
      obtain ⟨as, q1⟩ := Dp.reads I _ x v (r1.dp ok.1) rx
      obtain ⟨bs, q2⟩ := Dp.reads I _ y u (r2.dp pl) ry
      refine ⟨fun {E Q} q => SeqAt.in_list_data q2 q1 ok.2.1 ok.1 ?_ ⟨.bl _, H, I, rfl, q⟩, fun {E Q} q => SeqAt.notIn_list_data q2 q1 ok.2.1 ok.1 ?_ ⟨.bl _, H, I, rfl, q⟩⟩ <;> (have := ok.2.2; omega)
    · cases e
  · split at e
    · rename_i ok
      cases e
      have pl : (PyData.tuple ‹_›).plain = true := by unfold PyData.plain; exact ok.2.1
      obtain ⟨as, q1⟩ := Dp.reads I _ x v (r1.dp ok.1) rx
      obtain ⟨bs, q2⟩ := Dp.reads I _ y u (r2.dp pl) ry
      refine ⟨fun {E Q} q => SeqAt.in_tuple_data q2 q1 ok.2.1 ok.1 ?_ ⟨.bl _, H, I, rfl, q⟩, fun {E Q} q => SeqAt.notIn_tuple_data q2 q1 ok.2.1 ok.1 ?_ ⟨.bl _, H, I, rfl, q⟩⟩ <;> (have := ok.2.2; omega)
    · cases e
  · cases e
    exact ⟨fun {E Q} q => op_in_str pins s σ H x y v u Q I rx ry ⟨_, _, r1.str, r2.str, q⟩, fun {E Q} q => op_notin_str pins s σ H x y v u Q I rx ry ⟨_, _, r1.str, r2.str, q⟩⟩
  · cases e
theorem o_in (hu : X.A.units + 64 < cLine) : OpR X (compareOp .In) (rD X.K opIn) := by
  intro pins s σ H x y v u Q I rx ry q
  obtain ⟨S, d1, d2, d, al, r1, r2, e, q⟩ := q
  unfold opIn at e
  obtain ⟨r, e1, rfl⟩ := Option.map_eq_some_iff.mp e
  exact (inD_run I hu rx ry r1 r2 e1).1 (E := X.xe) (q _ S H (Gw.refl al) (.bl _))
theorem o_notIn (hu : X.A.units + 64 < cLine) : OpR X (compareOp .NotIn) (rD X.K opNotIn) := by
  intro pins s σ H x y v u Q I rx ry q
  obtain ⟨S, d1, d2, d, al, r1, r2, e, q⟩ := q
  unfold opNotIn at e
  obtain ⟨r, e1, rfl⟩ := Option.map_eq_some_iff.mp e
  exact (inD_run I hu rx ry r1 r2 e1).2 (E := X.xe) (q _ S H (Gw.refl al) (.bl _))
end
end PyI

/-! PyI, part H: items, slices, displays, the calls of built-ins. -/
namespace PyI
open PySem PySem.Spec L2

/-! ### a[b] -/
/-- a data key, by the values -/
def keyOf? : PyData → Option Key
  | .int i => some (.inl i)
  | .str x => some (.inr x)
  | _ => none
theorem keyOf_keyD {d : PyData} {k : Key} (h : keyOf? d = some k) : d = keyD k := by
  cases d <;> cases h <;> rfl
theorem Rdb.key {K : PySem.W.Frag} {S : Addr → Prop} {H : Hp} {v : V} {d : PyData} {k : Key} (r : Rdb K S H v d) (h : keyOf? d = some k) : v = kV k := by
  cases d <;> cases h
  · exact r.int
  · exact r.str
def opIx : PyData → PyData → Option PyData
  | .list ds, .int i => atI ds i
  | .tuple ds, .int i => atI ds i
  | .str z, .int i => if z.length ≤ sizeLine then (atI z.cps.toList i).map fun c => .str ⟨#[c]⟩ else none
  | .dict kvs, k => match keyOf? k with
    | some k => lookD (keyD k) kvs
    | none => none
  | _, _ => none
theorem atI_rp {K : PySem.W.Frag} {S : Addr → Prop} {H : Hp} {vs : List V} {ds : List PyData} {i : Int} {d : PyData} (r : RpL K S H vs ds) (e : atI ds i = some d) : ∃ v, atI vs i = some v ∧ Rp K S H v d := by
  unfold atI at e ⊢
  rw [r.len]
  cases h : ixN ds.length i with
  | none => rw [h] at e; cases e
  | some j =>
    rw [h] at e
    exact r.get e
section
variable {X : Cx}
theorem DGet.of {H : Hp} {a : Addr} {ts : List (Key × V)} {k : Key} (e : Rd H a (.dK ts)) : DGet H a (kV k) (valV ts k) := .inl ⟨ts, k, e, rfl, rfl⟩
theorem ix_data (hu : X.A.units + 64 < cLine) : IxR X (rDi X.K opIx) := by
  intro value slice pins s σ H x y v u Q I rx ry h hs
  obtain ⟨S, d1, d2, d, al, r1, r2, e, q⟩ := h
  unfold opIx at e
  split at e
  · obtain ⟨a, vs, rfl, h1, p1⟩ := r1.lst
    obtain ⟨w, e1, e2⟩ := atI_rp p1 e
    exact ix_list value slice pins s σ H _ _ v u Q I rx ry ⟨a, vs, _, w, rfl, r2.int, SqL.of h1, e1, q w S H (Gw.refl al) e2⟩ hs
  · obtain ⟨a, vs, rfl, h1, p1⟩ := r1.tup
    obtain ⟨w, e1, e2⟩ := atI_rp p1 e
    exact ix_tup value slice pins s σ H _ _ v u Q I rx ry ⟨a, vs, _, w, rfl, r2.int, h1.sq, e1, q w S H (Gw.refl al) e2⟩ hs
  · split at e
    · rename_i hz
      obtain ⟨c, e1, rfl⟩ := Option.map_eq_some_iff.mp e
      exact ix_str value slice pins s σ H _ _ v u Q I rx ry ⟨_, _, c, r1.str, r2.int, hz, e1, q _ S H (Gw.refl al) (.str _)⟩ hs
    · cases e
  · split at e
    · rename_i k hk
      obtain ⟨a, ts, rfl, h1, p1, p2⟩ := r1.dct
      obtain rfl := r2.key hk
      rcases look_of k p1 p2 with ⟨n1, n2⟩ | ⟨w, d', n1, n2, n3⟩
      · rw [n2] at e; cases e
      · rw [n2] at e
        cases e
        have g : DGet H a (kV k) (some w) := by rw [← n1]; exact DGet.of h1
        obtain rfl : v = Value.ref a := rx
        exact PyProof.Rows.tail_any (dict_typeIs I g) PySem.F.slot_dict_getitem.lookup (d_getItem (by omega) I g ry fun w' s3 I3 rw' => ⟨w, H, I3, rw', q w S H (Gw.refl al) n3⟩) hs
    · cases e
  · cases e

/-! ### k in d -/
def inKD : PyData → PyData → Option Bool
  | k, .dict kvs => match keyOf? k with
    | some k => some (lookD (keyD k) kvs).isSome
    | none => none
  | _, _ => none
def anyIn (a b : PyData) : Option Bool := match b with
  | .dict _ => inKD a b
  | _ => inD a b
def opInA (a b : PyData) : Option PyData := (anyIn a b).map .bool
def opNotInA (a b : PyData) : Option PyData := (anyIn a b).map fun b => .bool (!b)
theorem inKD_run {pins : List (Addr × Obj)} {s : Shared} {σ : L2.St} {H : Hp} {S : Addr → Prop} {x y : V} {v u : Value} {a b : PyData} {r : Bool} (I : Inv X pins σ H s) (hu : X.A.units + 64 < cLine) (rx : RelV x v) (ry : RelV y u) (r1 : Rdb X.K S H x a) (r2 : Rdb X.K S H y b) (e : inKD a b = some r) :
    (∀ {E : Value → Shared → Prop} {Q : VK}, Q (.bl r) H → wpAny (model X.prog X.w) X.A (compareOp .In v u) (EP X pins σ Q) X.xe s) ∧ ∀ {E : Value → Shared → Prop} {Q : VK}, Q (.bl (!r)) H → wpAny (model X.prog X.w) X.A (compareOp .NotIn v u) (EP X pins σ Q) X.xe s := by
  unfold inKD at e
  split at e
  · split at e
    · rename_i k hk
      cases e
      obtain ⟨p, ts, rfl, h1, p1, p2⟩ := r2.dct
      obtain rfl := r1.key hk
      obtain rfl : u = Value.ref p := ry
      have g : DGet H p (kV k) (valV ts k) := DGet.of h1
      have er : (lookD (keyD k) ‹_›).isSome = (valV ts k).isSome := by
        rcases look_of k p1 p2 with ⟨n1, n2⟩ | ⟨w, d', n1, n2, n3⟩ <;> rw [n1, n2] <;> rfl
      rw [er]
      exact ⟨fun {E Q} q => d_in (by omega) I g rx fun s3 I3 => ⟨.bl _, H, I3, rfl, q⟩, fun {E Q} q => d_notIn (by omega) I g rx fun s3 I3 => ⟨.bl _, H, I3, rfl, q⟩⟩
    · cases e
  · cases e
theorem anyIn_run {pins : List (Addr × Obj)} {s : Shared} {σ : L2.St} {H : Hp} {S : Addr → Prop} {x y : V} {v u : Value} {a b : PyData} {r : Bool} (I : Inv X pins σ H s) (hu : X.A.units + 64 < cLine) (rx : RelV x v) (ry : RelV y u) (r1 : Rdb X.K S H x a) (r2 : Rdb X.K S H y b) (e : anyIn a b = some r) :
    (∀ {E : Value → Shared → Prop} {Q : VK}, Q (.bl r) H → wpAny (model X.prog X.w) X.A (compareOp .In v u) (EP X pins σ Q) X.xe s) ∧ ∀ {E : Value → Shared → Prop} {Q : VK}, Q (.bl (!r)) H → wpAny (model X.prog X.w) X.A (compareOp .NotIn v u) (EP X pins σ Q) X.xe s := by
  unfold anyIn at e
  split at e
  · exact inKD_run I hu rx ry r1 r2 e
  · exact inD_run I hu rx ry r1 r2 e
theorem o_inA (hu : X.A.units + 64 < cLine) : OpR X (compareOp .In) (rD X.K opInA) := by
  intro pins s σ H x y v u Q I rx ry q
  obtain ⟨S, d1, d2, d, al, r1, r2, e, q⟩ := q
  unfold opInA at e
  obtain ⟨r, e1, rfl⟩ := Option.map_eq_some_iff.mp e
  exact (anyIn_run I hu rx ry r1 r2 e1).1 (E := X.xe) (q _ S H (Gw.refl al) (.bl _))
theorem o_notInA (hu : X.A.units + 64 < cLine) : OpR X (compareOp .NotIn) (rD X.K opNotInA) := by
  intro pins s σ H x y v u Q I rx ry q
  obtain ⟨S, d1, d2, d, al, r1, r2, e, q⟩ := q
  unfold opNotInA at e
  obtain ⟨r, e1, rfl⟩ := Option.map_eq_some_iff.mp e
  exact (anyIn_run I hu rx ry r1 r2 e1).2 (E := X.xe) (q _ S H (Gw.refl al) (.bl _))
end

/-! ### (..), [..], {} -/
def lenOk {α : Type} (l : List α) : Bool := decide (l.length ≤ sizeLine)
theorem lenOk_le {α : Type} {l : List α} (h : lenOk l = true) : l.length ≤ sizeLine := of_decide_eq_true h
def xTup (g : Mo (List Rs)) : Mo Rs := bindM g fun rs => bindM (keepL rs) fun ds => if lenOk ds = true then retM (.kept (.tuple ds)) else fun _ => none
def xLst (g : Mo (List Rs)) : Mo Rs := bindM g fun rs => bindM (keepL rs) fun ds => if lenOk ds = true then retM (.fresh (.list ds)) else fun _ => none
def xDict0 : Mo Rs := retM (.fresh (.dict []))
section
variable {X : Cx} {es : List Expr} {g : Mo (List Rs)} {pos : Pos}
theorem pd_tup {x1} (h : AD X es g) : PD X (.Tuple es x1 pos) (xTup g) := PE.to (pe_tup h) fun σ H Q hq => by
  obtain ⟨S, ρ, r, ρ', G, e, q⟩ := hq
  obtain ⟨rs, ρ1, e1, e2⟩ := bindM_some e
  obtain ⟨ds, ρ2, e3, e4⟩ := bindM_some e2
  split at e4
  · rename_i hz
    cases retM_some e4
    refine ⟨S, ρ, rs, ρ1, G, e1, fun vs S1 H1 F1 G1 R1 => ?_⟩
    obtain ⟨S2, n2, p2, sh2⟩ := RRLw.keep rs ⟨G, F1, G1⟩ R1.w e3
    refine ⟨by rw [p2.len]; exact lenOk_le hz, fun p hp => ?_⟩
    have gw := Gw.layS (o := .tup vs) n2.g.al hp
    exact q _ _ _ (n2.grow gw).f (n2.grow gw).g (lay_tup n2.g.al p2 hp)
  · cases e4
theorem pd_lst (h : AD X es g) : PD X (.List es pos) (xLst g) := PE.to (pe_lst h) fun σ H Q hq => by
  obtain ⟨S, ρ, r, ρ', G, e, q⟩ := hq
  obtain ⟨rs, ρ1, e1, e2⟩ := bindM_some e
  obtain ⟨ds, ρ2, e3, e4⟩ := bindM_some e2
  split at e4
  · rename_i hz
    cases retM_some e4
    refine ⟨S, ρ, rs, ρ1, G, e1, fun vs S1 H1 F1 G1 R1 => ?_⟩
    obtain ⟨S2, n2, p2, sh2⟩ := RRLw.keep rs ⟨G, F1, G1⟩ R1.w e3
    refine ⟨by rw [p2.len]; exact lenOk_le hz, fun p hp => ?_⟩
    have gw := Gw.lay (o := .lst vs) n2.g.al hp
    exact q _ _ _ (n2.grow gw).f (n2.grow gw).g (lay_lst n2.g.al p2 hp (n2.none0 hp))
  · cases e4
theorem pd_dict0 : PD X (.Dict [] [] pos) xDict0 := PE.to pe_dnewK fun σ H Q hq => by
  obtain ⟨S, ρ, r, ρ', G, e, q⟩ := hq
  cases retM_some e
  intro p hp
  have gw := Gw.lay (o := .dK []) G.al hp
  exact q _ _ _ gw.fr (G.ext gw) ⟨p, rfl, hp, fun z => G.al p z hp, [], upd_same, rfl, .nil⟩
end

/-! ### the calls of built-ins -/
inductive RdbL (K : PySem.W.Frag) (S : Addr → Prop) (H : Hp) : List V → List PyData → Prop
  | nil : RdbL K S H [] []
  | cons {v : V} {vs : List V} {d : PyData} {ds : List PyData} : Rdb K S H v d → RdbL K S H vs ds → RdbL K S H (v :: vs) (d :: ds)
def rdL : List Rs → Mo (List PyData)
  | [] => retM []
  | r :: rs => bindM (rdR r) fun d => bindM (rdL rs) fun ds => retM (d :: ds)
theorem rdL_ok {K : PySem.W.Frag} {H0 H : Hp} {S : Addr → Prop} {ρ : Rho} {σ : L2.St} (g : Gd K S ρ σ H) : ∀ {rs : List Rs} {vs : List V} {ds : List PyData} {ρ' : Rho}, RRL K H0 S H ρ σ vs rs → rdL rs ρ = some (ds, ρ') → RdbL K S H vs ds ∧ ρ' = ρ
  | [], _, _, _, .nil, e => by cases retM_some e; exact ⟨.nil, rfl⟩
  | r :: rs, _, _, _, .cons h t, e => by
    obtain ⟨d, ρ1, e1, e2⟩ := bindM_some e
    obtain ⟨ds, ρ2, e3, e4⟩ := bindM_some e2
    cases retM_some e4
    obtain ⟨q1, rfl⟩ := h.rd g e1
    obtain ⟨q2, rfl⟩ := rdL_ok g t e3
    exact ⟨.cons q1 q2, rfl⟩
def rB (K : PySem.W.Frag) (op : List PyData → Option PyData) : List V → Hp → VK → Prop := fun xs H Q => ∃ S ds d, (∀ a, S a → H a ≠ none) ∧ RdbL K S H xs ds ∧ op ds = some d ∧ ∀ v S' H', Gw S H S' H' → RR K H S' H' [] [] v (resN d) → Q v H'
def xB (op : List PyData → Option PyData) (g : Mo (List Rs)) : Mo Rs := bindM g fun rs => bindM (rdL rs) fun ds => bindM (optM (op ds)) fun d => retM (resN d)
section
variable {X : Cx} {op : List PyData → Option PyData} {g : Mo (List Rs)} {id T : String} {x : Str} {p pos : Pos} {e : Expr} {es : List Expr}
theorem xB_ok {K : PySem.W.Frag} {σ : L2.St} {H : Hp} {Q : VK} (h : tD K (xB op g) σ H Q) : tCB (rB K op) (tA K g) σ H Q := by
  obtain ⟨S, ρ, r, ρ', G, e, q⟩ := h
  obtain ⟨rs, ρ1, e1, e2⟩ := bindM_some e
  obtain ⟨ds, ρ2, e3, e4⟩ := bindM_some e2
  obtain ⟨d, ρ3, e5, e6⟩ := bindM_some e4
  obtain ⟨b1, b2⟩ := optM_some e5
  simp only at b1 b2
  cases retM_some e6
  refine ⟨S, ρ, rs, ρ1, G, e1, fun vs S1 H1 F1 G1 R1 => ?_⟩
  obtain ⟨r1, rfl⟩ := rdL_ok G1 R1 e3
  subst b2
  have n1 : Now K σ S ρ H S1 ρ' H1 := ⟨G, F1, G1⟩
  refine ⟨S1, ds, d, G1.al, r1, b1, fun v S3 H3 E R => ?_⟩
  exact q v S3 H3 (n1.grow E).f (n1.grow E).g ((RR.new R : RR K H1 S3 H3 ρ' σ v (resN d)).pre n1)
theorem pd_callB (hc : CallR X (.builtin id) (rB X.K op)) (hg : Gl X x) (hm : X.mg x = none) (hv : bootBuiltins x = some (.builtin id)) (ha : AD X (e :: es) g) (hn : x ≠ "__name__" := by decide) (hdb : (x == ("__debug__" : Str)) = false := by decide)
    (he : starEach (e :: es) X.env = (false, eval e X.env) :: starEach es X.env := by rfl) (hpl : (backTo pos (starEach es X.env)).any (·.1) = false := by rfl) : PD X (.Call (.Name x p) (e :: es) [] pos) (xB op g) :=
  PE.to (pe_callB hc hg hm hv ha hn hdb he hpl) fun _ _ _ h => xB_ok h
theorem pd_callTy (hc : CallR X (.type T) (rB X.K op)) (hg : Gl X x) (hm : X.mg x = none) (hv : bootBuiltins x = some (.type T)) (ha : AD X (e :: es) g) (hn : x ≠ "__name__" := by decide) (hdb : (x == ("__debug__" : Str)) = false := by decide)
    (he : starEach (e :: es) X.env = (false, eval e X.env) :: starEach es X.env := by rfl) (hpl : (backTo pos (starEach es X.env)).any (·.1) = false := by rfl) : PD X (.Call (.Name x p) (e :: es) [] pos) (xB op g) :=
  PE.to (pe_callTy hc hg hm hv ha hn hdb he hpl) fun _ _ _ h => xB_ok h
end
def oLen : List PyData → Option PyData
  | [.list ds] => some (.int ds.length)
  | [.tuple ds] => some (.int ds.length)
  | [.dict kvs] => some (.int kvs.length)
  | [.str z] => if z.length ≤ sizeLine then some (.int z.length) else none
  | _ => none
def oInt : List PyData → Option PyData
  | [.int i] => some (.int i)
  | [.bool b] => some (.int (if b then 1 else 0))
  | _ => none
def oStr : List PyData → Option PyData
  | [.int i] => if i.natAbs.log2 < 1920 then some (.str (toString i)) else none
  | _ => none
def oList : List PyData → Option PyData
  | [.list ds] => some (.list ds)
  | [.tuple ds] => some (.list ds)
  | _ => none
def oTuple : List PyData → Option PyData
  | [.list ds] => some (.tuple ds)
  | [.tuple ds] => some (.tuple ds)
  | _ => none
def oDict : List PyData → Option PyData
  | [.dict kvs] => some (.dict kvs)
  | _ => none
def oAbs : List PyData → Option PyData
  | [.int i] => some (.int (if i < 0 then -i else i))
  | _ => none
def oMin2 : List PyData → Option PyData
  | [.int i, .int j] => some (.int (if j < i then j else i))
  | _ => none
def oMax2 : List PyData → Option PyData
  | [.int i, .int j] => some (.int (if j > i then j else i))
  | _ => none
section
variable {X : Cx}
theorem RdbL.one {K : PySem.W.Frag} {S : Addr → Prop} {H : Hp} {vs : List V} {d : PyData} (h : RdbL K S H vs [d]) : ∃ v, vs = [v] ∧ Rdb K S H v d := by
  cases h with
  | cons h t => cases t; exact ⟨_, rfl, h⟩
theorem RdbL.two {K : PySem.W.Frag} {S : Addr → Prop} {H : Hp} {vs : List V} {d e : PyData} (h : RdbL K S H vs [d, e]) : ∃ v w, vs = [v, w] ∧ Rdb K S H v d ∧ Rdb K S H w e := by
  cases h with
  | cons h t =>
    obtain ⟨w, rfl, r⟩ := t.one
    exact ⟨_, w, rfl, h, r⟩
theorem b_len : CallR X (.builtin "len") (rB X.K oLen) := by
  intro pins s σ H xs us Q I r h
  obtain ⟨S, ds, d, al, rs, e, q⟩ := h
  unfold oLen at e
  split at e
  · cases e
    obtain ⟨v, rfl, r1⟩ := rs.one
    obtain ⟨a, vs, rfl, h1, p1⟩ := r1.lst
    refine call_len_seq pins s σ H _ us Q I r ⟨a, vs, rfl, .inl (SqL.of h1), ?_⟩
    rw [p1.len]
    exact q _ S H (Gw.refl al) (.int _)
  · cases e
    obtain ⟨v, rfl, r1⟩ := rs.one
    obtain ⟨a, vs, rfl, h1, p1⟩ := r1.tup
    refine call_len_seq pins s σ H _ us Q I r ⟨a, vs, rfl, .inr h1.sq, ?_⟩
    rw [p1.len]
    exact q _ S H (Gw.refl al) (.int _)
  · rename_i kvs
    cases e
    obtain ⟨v, rfl, r1⟩ := rs.one
    obtain ⟨a, ts, rfl, h1, p1, p2⟩ := r1.dct
    rw [Vals.ref1 r]
    have hl : ts.length = kvs.length := by have := congrArg List.length p1; simpa using this.symm
    exact d_len I h1 fun t s3 I3 => ⟨.int ts.length, H, I3, ⟨t, rfl⟩, by rw [hl]; exact q _ S H (Gw.refl al) (.int _)⟩
  · split at e
    · rename_i hz
      cases e
      obtain ⟨v, rfl, r1⟩ := rs.one
      obtain rfl := r1.str
      exact call_len_str pins s σ H _ us Q I r ⟨_, rfl, hz, q _ S H (Gw.refl al) (.int _)⟩
    · cases e
  · cases e
theorem b_int : CallR X (.type "int") (rB X.K oInt) := by
  intro pins s σ H xs us Q I r h
  obtain ⟨S, ds, d, al, rs, e, q⟩ := h
  unfold oInt at e
  split at e
  · cases e
    obtain ⟨v, rfl, r1⟩ := rs.one
    obtain rfl := r1.int
    exact call_int1 pins s σ H _ us Q I r (.inl ⟨_, rfl, q _ S H (Gw.refl al) (.int _)⟩)
  · cases e
    obtain ⟨v, rfl, r1⟩ := rs.one
    obtain rfl := r1.bl
    exact call_int1 pins s σ H _ us Q I r (.inr ⟨_, rfl, q _ S H (Gw.refl al) (.int _)⟩)
  · cases e
theorem b_str : CallR X (.type "str") (rB X.K oStr) := by
  intro pins s σ H xs us Q I r h
  obtain ⟨S, ds, d, al, rs, e, q⟩ := h
  unfold oStr at e
  split at e
  · split at e
    · rename_i hz
      cases e
      obtain ⟨v, rfl, r1⟩ := rs.one
      obtain rfl := r1.int
      exact call_str_int pins s σ H _ us Q I r ⟨_, rfl, hz, q _ S H (Gw.refl al) (.str _)⟩
    · cases e
  · cases e
theorem b_list : CallR X (.type "list") (rB X.K oList) := by
  intro pins s σ H xs us Q I r h
  obtain ⟨S, ds, d, al, rs, e, q⟩ := h
  unfold oList at e
  split at e
  · cases e
    obtain ⟨v, rfl, r1⟩ := rs.one
    obtain ⟨a, vs, rfl, h1, p1⟩ := r1.lst
    exact call_list_of pins s σ H _ us Q I r ⟨a, vs, rfl, .inl (SqL.of h1), fun p hp => q _ S _ (Gw.lay al hp) (lay_lst al p1 hp hp)⟩
  · cases e
    obtain ⟨v, rfl, r1⟩ := rs.one
    obtain ⟨a, vs, rfl, h1, p1⟩ := r1.tup
    exact call_list_of pins s σ H _ us Q I r ⟨a, vs, rfl, .inr h1.sq, fun p hp => q _ S _ (Gw.lay al hp) (lay_lst al p1 hp hp)⟩
  · cases e
theorem b_tuple : CallR X (.type "tuple") (rB X.K oTuple) := by
  intro pins s σ H xs us Q I r h
  obtain ⟨S, ds, d, al, rs, e, q⟩ := h
  unfold oTuple at e
  split at e
  · cases e
    obtain ⟨v, rfl, r1⟩ := rs.one
    obtain ⟨a, vs, rfl, h1, p1⟩ := r1.lst
    exact call_tuple_of pins s σ H _ us Q I r ⟨a, vs, rfl, .inl ⟨SqL.of h1, fun p hp => q _ _ _ (Gw.layS al hp) (lay_tup al p1 hp)⟩⟩
  · cases e
    obtain ⟨v, rfl, r1⟩ := rs.one
    obtain ⟨a, vs, rfl, h1, p1⟩ := r1.tup
    exact call_tuple_of pins s σ H _ us Q I r ⟨a, vs, rfl, .inr ⟨h1.sq, q _ S H (Gw.refl al) (.tup h1 p1)⟩⟩
  · cases e
theorem b_dict : CallR X (.type "dict") (rB X.K oDict) := by
  intro pins s σ H xs us Q I r h
  obtain ⟨S, ds, d, al, rs, e, q⟩ := h
  unfold oDict at e
  split at e
  · cases e
    obtain ⟨v, rfl, r1⟩ := rs.one
    obtain ⟨a, ts, rfl, h1, p1, p2⟩ := r1.dct
    exact call_dictD pins s σ H _ us Q I r ⟨a, ts, rfl, h1, fun p hp => q _ S _ (Gw.lay al hp) ⟨p, rfl, hp, fun z => al p z hp, ts, upd_same, p1, p2.up (Gw.lay al hp).up⟩⟩
  · cases e
theorem b_abs : CallR X (.builtin "abs") (rB X.K oAbs) := by
  intro pins s σ H xs us Q I r h
  obtain ⟨S, ds, d, al, rs, e, q⟩ := h
  unfold oAbs at e
  split at e
  · cases e
    obtain ⟨v, rfl, r1⟩ := rs.one
    obtain rfl := r1.int
    exact call_abs pins s σ H _ us Q I r ⟨_, rfl, q _ S H (Gw.refl al) (.int _)⟩
  · cases e
theorem b_min2 (hc : X.calm = true) : CallR X (.builtin "min") (rB X.K oMin2) := by
  intro pins s σ H xs us Q I r h
  obtain ⟨S, ds, d, al, rs, e, q⟩ := h
  unfold oMin2 at e
  split at e
  · cases e
    obtain ⟨v, w, rfl, r1, r2⟩ := rs.two
    obtain rfl := r1.int
    obtain rfl := r2.int
    exact call_min2 hc pins s σ H _ us Q I r ⟨_, _, rfl, q _ S H (Gw.refl al) (.int _)⟩
  · cases e
theorem b_max2 (hc : X.calm = true) : CallR X (.builtin "max") (rB X.K oMax2) := by
  intro pins s σ H xs us Q I r h
  obtain ⟨S, ds, d, al, rs, e, q⟩ := h
  unfold oMax2 at e
  split at e
  · cases e
    obtain ⟨v, w, rfl, r1, r2⟩ := rs.two
    obtain rfl := r1.int
    obtain rfl := r2.int
    exact call_max2 hc pins s σ H _ us Q I r ⟨_, _, rfl, q _ S H (Gw.refl al) (.int _)⟩
  · cases e
end

/-! ### isinstance -/
def tyD : PyData → String
  | .none => "NoneType"
  | .bool _ => "bool"
  | .int _ => "int"
  | .str _ => "str"
  | .list _ => "list"
  | .tuple _ => "tuple"
  | .dict _ => "dict"
def isSub (t T : String) : Bool := t == T || (t == "bool" && T == "int")
def xIsi (T : String) (f : Mo Rs) : Mo Rs := bindM f fun r => bindM (rdR r) fun d => retM (.kept (.bool (isSub (tyD d) T)))
theorem Rd.tyx {K : PySem.W.Frag} {H : Hp} {a : Addr} {ts : List (Key × V)} (h : Rd H a (.dK ts)) : TyX K H (.ref a) (.type "dict") := by
  rcases h with h | ⟨o, h⟩
  · exact .base (.dK h)
  · exact .fDict h
theorem Rdb.tyx {K : PySem.W.Frag} {S : Addr → Prop} {H : Hp} {v : V} {d : PyData} (h : Rdb K S H v d) : TyX K H v (.type (tyD d)) := by
  rcases h with h | ⟨a, rfl, h⟩
  · cases h with
    | non => exact .base .non
    | bl b => exact .base (.bl b)
    | int i => exact .base (.int i)
    | str x => exact .base (.str x)
    | tup h r =>
      rcases h with ⟨_, h⟩ | ⟨o, _, _, h1, h2, _⟩
      · exact .base (.tup h)
      · exact .kTuple h1 h2
    | lst _ h _ => exact .base (.lst h)
    | dct _ h _ _ => exact Rd.tyx h
  · cases d with
    | list ds => obtain ⟨vs, h, _⟩ := h; exact .base (.lst h)
    | dict kvs => obtain ⟨ts, h, _⟩ := h; exact Rd.tyx h
    | _ => exact h.elim
/-- the answers of isinstance, for the types of data -/
structure Kit (K : PySem.W.Frag) (T : String) : Prop where
  ok : ∀ d : PyData, PySem.W.kitOne K (.type (tyD d)) (.type T) = some (isSub (tyD d) T)
section
variable {X : Cx} {f : Mo Rs} {e : Expr} {T : String} {x z : Str} {p p2 pos : Pos}
theorem pd_isi (k : Kit X.K T) (he : PD X e f) (hg : Gl X "isinstance") (hm : X.mg "isinstance" = none) (hg2 : Gl X z) (hm2 : X.mg z = none) (hv : bootBuiltins "isinstance" = some (.builtin "isinstance")) (hv2 : bootBuiltins z = some (.type T))
    (hn2 : z ≠ "__name__" := by decide) (hd2 : (z == ("__debug__" : Str)) = false := by decide) (h1 : starEach [e, .Name z p2] X.env = (false, eval e X.env) :: starEach [.Name z p2] X.env := by rfl) (hpl : (backTo pos (starEach [.Name z p2] X.env)).any (·.1) = false := by rfl) :
    PD X (.Call (.Name "isinstance" p) [e, .Name z p2] [] pos) (xIsi T f) :=
  PE.to (pe_callB call_isi hg hm hv (pa_cons he (pa_cons (pe_bltn hg2 hm2 hv2 (v := .ty T) rfl hn2 hd2) pa_nil) h1) (he := h1) (hpl := hpl)) fun σ H Q h => by
    obtain ⟨S, ρ, r, ρ', G, e, q⟩ := h
    obtain ⟨r1, ρ1, e1, e2⟩ := bindM_some e
    obtain ⟨d, ρ2, e3, e4⟩ := bindM_some e2
    cases retM_some e4
    refine ⟨S, ρ, r1, ρ1, G, e1, fun v S1 H1 F1 G1 R1 => ?_⟩
    obtain ⟨rd, rfl⟩ := R1.rd G1 e3
    exact ⟨v, .ty T, .type (tyD d), .type T, _, rfl, .ty T, rd.tyx, k.ok d, q _ S1 H1 F1 G1 (.bl _)⟩
end

/-! ### a[lo:hi] -/
def cutD {α : Type} (xs : List α) (lo hi : Option Int) : List α := (xs.drop (HT.sIx xs.length 0 lo)).take (HT.sIx xs.length xs.length hi - HT.sIx xs.length 0 lo)
def opSl (d : PyData) (lo hi : Option Int) : Option PyData := match d with
  | .list ds => some (.list (cutD ds lo hi))
  | .tuple ds => some (.tuple (cutD ds lo hi))
  | .str z => if z.length ≤ sizeLine then some (.str (cutS z lo hi)) else none
  | _ => none
theorem RpL.cut {K : PySem.W.Frag} {S : Addr → Prop} {H : Hp} {vs : List V} {ds : List PyData} (r : RpL K S H vs ds) (lo hi : Option Int) : RpL K S H (cutV vs lo hi) (cutD ds lo hi) := by
  unfold cutV cutD
  rw [r.len]
  exact (r.drop _).take _
/-- a part of a slice -/
def tO (K : PySem.W.Frag) (f : Mo (Option Int)) : TO := fun σ H Q => ∃ S ρ o ρ', Gd K S ρ σ H ∧ f ρ = some (o, ρ') ∧ ∀ S' H', Fm S ρ σ H S' ρ' H' → Gd K S' ρ' σ H' → Q o H'
abbrev OD (X : Cx) (e : Option Expr) (f : Mo (Option Int)) : Prop := PO X e (tO X.K f)
def oN : Mo (Option Int) := retM none
def intD : PyData → Option Int
  | .int i => some i
  | _ => none
def oS (f : Mo Rs) : Mo (Option Int) := bindM f fun r => bindM (rdR r) fun d => bindM (optM (intD d)) fun i => retM (some i)
def xSl (f : Mo Rs) (lo hi : Mo (Option Int)) : Mo Rs := bindM f fun r => bindM lo fun l => bindM hi fun h => bindM (rdR r) fun d => bindM (optM (opSl d l h)) fun d' => retM (resN d')
theorem PO.to {X : Cx} {e : Option Expr} {t t' : TO} (h : PO X e t) (i : ∀ σ H Q, t' σ H Q → t σ H Q) : PO X e t' := ⟨fun pins s σ H Q I q => h.run pins s σ H Q I (i σ H Q q)⟩
section
variable {X : Cx} {f : Mo Rs} {e : Expr} {lo hi : Option Expr} {gl gh : Mo (Option Int)} {p2 pos : Pos}
theorem od_none : OD X none oN := PO.to po_none fun σ H Q h => by
  obtain ⟨S, ρ, r, ρ', G, e, q⟩ := h
  cases retM_some e
  exact q S H Fm.refl G
theorem od_some (h : PD X e f) : OD X (some e) (oS f) := PO.to (po_some h) fun σ H Q h => by
  obtain ⟨S, ρ, o, ρ', G, e, q⟩ := h
  obtain ⟨r1, ρ1, e1, e2⟩ := bindM_some e
  obtain ⟨d, ρ2, e3, e4⟩ := bindM_some e2
  obtain ⟨i, ρ3, e5, e6⟩ := bindM_some e4
  cases retM_some e6
  obtain ⟨b1, b2⟩ := optM_some e5
  simp only at b1 b2
  refine ⟨S, ρ, r1, ρ1, G, e1, fun v S1 H1 F1 G1 R1 => ?_⟩
  obtain ⟨rd, rfl⟩ := R1.rd G1 e3
  subst b2
  cases d with
  | int j => cases b1; exact ⟨i, rd.int, q S1 H1 F1 G1⟩
  | _ => cases b1
def rSlD (K : PySem.W.Frag) : V → Option Int → Option Int → Hp → VK → Prop := fun x lo hi H Q => ∃ S d d', (∀ a, S a → H a ≠ none) ∧ Rdb K S H x d ∧ opSl d lo hi = some d' ∧ ∀ v S' H', Gw S H S' H' → RR K H S' H' [] [] v (resN d') → Q v H'
theorem sl_data : SlR X (rSlD X.K) := by
  intro pins s σ H x v vl vu lo hi sl Q I rx hs pl pu h
  obtain ⟨S, d, d', al, r1, e, q⟩ := h
  unfold opSl at e
  split at e
  · cases e
    obtain ⟨a, vs, rfl, h1, p1⟩ := r1.lst
    exact sl_list pins s σ H _ v vl vu lo hi sl Q I rx hs pl pu ⟨a, vs, rfl, SqL.of h1, fun p hp => q _ S _ (Gw.lay al hp) (lay_lst al (p1.cut lo hi) hp hp)⟩
  · cases e
    obtain ⟨a, vs, rfl, h1, p1⟩ := r1.tup
    refine sl_tupA pins s σ H _ v vl vu lo hi sl Q I rx hs pl pu ⟨a, vs, rfl, h1.sq, fun ⟨z1, z2⟩ => ?_, fun _ p hp => q _ _ _ (Gw.layS al hp) (lay_tup al (p1.cut lo hi) hp)⟩
    refine q _ S H (Gw.refl al) (.tup h1 ?_)
    have ec : cutV vs lo hi = vs := by
      unfold cutV
      rw [z1, z2]
      simp
    have := p1.cut lo hi
    rw [ec] at this
    exact this
  · split at e
    · rename_i hz
      cases e
      obtain rfl := r1.str
      exact sl_str pins s σ H _ v vl vu lo hi sl Q I rx hs pl pu ⟨_, rfl, hz, q _ S H (Gw.refl al) (.str _)⟩
    · cases e
  · cases e
theorem pd_sl (he : PD X e f) (hl : OD X lo gl) (hh : OD X hi gh) : PD X (.Subscript e (.Slice lo hi none p2) pos) (xSl f gl gh) := PE.to (pe_slice sl_data he hl hh) fun σ H Q h => by
  obtain ⟨S, ρ, r, ρ', G, e, q⟩ := h
  obtain ⟨r1, ρ1, e1, a1⟩ := bindM_some e
  obtain ⟨l, ρ2, e2, a2⟩ := bindM_some a1
  obtain ⟨u, ρ3, e3, a3⟩ := bindM_some a2
  obtain ⟨d, ρ4, e4, a4⟩ := bindM_some a3
  obtain ⟨d', ρ5, e5, a5⟩ := bindM_some a4
  obtain ⟨b1, b2⟩ := optM_some e5
  simp only at b1 b2
  cases retM_some a5
  obtain rfl := rdR_same e4
  subst b2
  refine ⟨S, ρ, r1, ρ1, G, e1, fun v S1 H1 F1 G1 R1 => ⟨S1, ρ1, l, ρ2, G1, e2, fun S2 H2 F2 G2 => ⟨S2, ρ2, u, ρ', G2, e3, fun S3 H3 F3 G3 => ?_⟩⟩⟩
  have n1 : Now X.K σ S ρ H S1 ρ1 H1 := ⟨G, F1, G1⟩
  have n2 := n1.step F2 G2
  have n3 := n2.step F3 G3
  refine ⟨S3, d, d', G3.al, (((R1.fm n1 F2).fm n2 F3).rd G3 e4).1, b1, fun w S4 H4 E R => ?_⟩
  exact q w S4 H4 (n3.grow E).f (n3.grow E).g ((RR.new R : RR X.K H3 S4 H4 ρ' σ w (resN d')).pre n3)
end

/-! ### - x -/
def opNeg : PyData → Option PyData
  | .int i => some (.int (-i))
  | _ => none
def x1 (op : PyData → Option PyData) (f : Mo Rs) : Mo Rs := bindM f fun r => bindM (rdR r) fun d => bindM (optM (op d)) fun d' => retM (resN d')
section
variable {X : Cx} {f : Mo Rs} {e : Expr} {pos : Pos}
theorem pd_neg (he : PD X e f) : PD X (.UnaryOp .USub e pos) (x1 opNeg f) := PE.to (pe_un un_neg he) fun σ H Q h => by
  obtain ⟨S, ρ, r, ρ', G, e, q⟩ := h
  obtain ⟨r1, ρ1, e1, e2⟩ := bindM_some e
  obtain ⟨d, ρ2, e3, e4⟩ := bindM_some e2
  obtain ⟨i, ρ3, e5, e6⟩ := bindM_some e4
  obtain ⟨b1, b2⟩ := optM_some e5
  simp only at b1 b2
  cases retM_some e6
  refine ⟨S, ρ, r1, ρ1, G, e1, fun v S1 H1 F1 G1 R1 => ?_⟩
  obtain ⟨rd, rfl⟩ := R1.rd G1 e3
  subst b2
  cases d with
  | int j => cases b1; exact ⟨j, rd.int, q _ S1 H1 F1 G1 (.int _)⟩
  | _ => cases b1
end
end PyI

/-! PyI, part I: sorted, dict of pairs, range, stores, methods that change. -/
namespace PyI
open PySem PySem.Spec L2

/-! ### sorted -/
def leS (a b : Str) : Bool := !ltCps b.cps.toList a.cps.toList
def insS (x : Str) : List Str → List Str
  | [] => [x]
  | y :: r => if leS x y = true then x :: y :: r else y :: insS x r
def sortS : List Str → List Str
  | [] => []
  | x :: r => insS x (sortS r)
theorem leS_iff {a b : Str} : leS a b = true ↔ a.cps.toList ≤ b.cps.toList := by
  unfold leS
  rw [PyProof.Rows.ltCps_eq]
  simp
theorem leS_trans {a b c : Str} (h1 : leS a b = true) (h2 : leS b c = true) : leS a c = true := leS_iff.mpr (List.le_trans (leS_iff.mp h1) (leS_iff.mp h2))
theorem leS_total (a b : Str) : leS a b = true ∨ leS b a = true := (List.le_total a.cps.toList b.cps.toList).imp leS_iff.mpr leS_iff.mpr
theorem leS_antisymm {a b : Str} (h1 : leS a b = true) (h2 : leS b a = true) : a = b := by
  have := List.le_antisymm (leS_iff.mp h1) (leS_iff.mp h2)
  cases a with
  | mk a => cases b with
    | mk b => simp only at this; rw [Array.toList_inj.mp this]
theorem insS_perm (x : Str) : ∀ l, (insS x l).Perm (x :: l)
  | [] => .refl _
  | y :: r => by
    unfold insS
    split
    · exact .refl _
    · exact ((insS_perm x r).cons y).trans (.swap x y r)
theorem sortS_perm : ∀ l, (sortS l).Perm l
  | [] => .refl _
  | x :: r => (insS_perm x _).trans ((sortS_perm r).cons x)
theorem insS_sorted (x : Str) : ∀ {l : List Str}, l.Pairwise (fun a b => leS a b = true) → (insS x l).Pairwise fun a b => leS a b = true
  | [], _ => List.pairwise_singleton _ _
  | y :: r, h => by
    obtain ⟨h1, h2⟩ := List.pairwise_cons.mp h
    unfold insS
    split
    · rename_i hx
      refine List.pairwise_cons.mpr ⟨fun z hz => ?_, h⟩
      rcases List.mem_cons.mp hz with rfl | hz
      · exact hx
      · exact leS_trans hx (h1 z hz)
    · rename_i hx
      refine List.pairwise_cons.mpr ⟨fun z hz => ?_, insS_sorted x h2⟩
      rcases List.mem_cons.mp ((insS_perm x r).mem_iff.mp hz) with rfl | hz
      · exact (leS_total _ _).resolve_left hx
      · exact h1 z hz
theorem sortS_sorted : ∀ l, (sortS l).Pairwise fun a b => leS a b = true
  | [] => .nil
  | x :: r => insS_sorted x (sortS_sorted r)
theorem rising_pair : ∀ (l : List Str) (p : Str), PyProof.Rows.risingS p l = true → (p :: l).Pairwise fun a b => leS a b = true
  | [], p, _ => List.pairwise_singleton _ _
  | x :: r, p, h => by
    unfold PyProof.Rows.risingS at h
    rw [Bool.and_eq_true] at h
    have ih := rising_pair r x h.2
    obtain ⟨h1, h2⟩ := List.pairwise_cons.mp ih
    have hx : leS p x = true := h.1
    refine List.pairwise_cons.mpr ⟨fun z hz => ?_, ih⟩
    rcases List.mem_cons.mp hz with rfl | hz
    · exact hx
    · exact leS_trans hx (h1 z hz)
theorem sortS_of {l ys : List Str} (hp : ys.Perm l) (hs : PyProof.Rows.sortedS ys = true) : ys = sortS l := by
  have pw : ys.Pairwise fun a b => leS a b = true := by
    cases ys with
    | nil => exact .nil
    | cons x r => exact rising_pair r x hs
  exact List.Perm.eq_of_pairwise (fun a b _ _ h1 h2 => leS_antisymm h1 h2) pw (sortS_sorted l) (hp.trans (sortS_perm l).symm)
def insI (x : Int) : List Int → List Int
  | [] => [x]
  | y :: r => if x ≤ y then x :: y :: r else y :: insI x r
def sortI : List Int → List Int
  | [] => []
  | x :: r => insI x (sortI r)
theorem insI_perm (x : Int) : ∀ l, (insI x l).Perm (x :: l)
  | [] => .refl _
  | y :: r => by
    unfold insI
    split
    · exact .refl _
    · exact ((insI_perm x r).cons y).trans (.swap x y r)
theorem sortI_perm : ∀ l, (sortI l).Perm l
  | [] => .refl _
  | x :: r => (insI_perm x _).trans ((sortI_perm r).cons x)
theorem insI_sorted (x : Int) : ∀ {l : List Int}, l.Pairwise (· ≤ ·) → (insI x l).Pairwise (· ≤ ·)
  | [], _ => List.pairwise_singleton _ _
  | y :: r, h => by
    obtain ⟨h1, h2⟩ := List.pairwise_cons.mp h
    unfold insI
    split
    · rename_i hx
      refine List.pairwise_cons.mpr ⟨fun z hz => ?_, h⟩
      rcases List.mem_cons.mp hz with rfl | hz
      · exact hx
      · exact Int.le_trans hx (h1 z hz)
    · rename_i hx
      refine List.pairwise_cons.mpr ⟨fun z hz => ?_, insI_sorted x h2⟩
      rcases List.mem_cons.mp ((insI_perm x r).mem_iff.mp hz) with rfl | hz
      · omega
      · exact h1 z hz
theorem sortI_sorted : ∀ l, (sortI l).Pairwise (· ≤ ·)
  | [] => .nil
  | x :: r => insI_sorted x (sortI_sorted r)
theorem sortI_of {l ys : List Int} (hp : ys.Perm l) (hs : ys.Pairwise (· ≤ ·)) : ys = sortI l :=
  List.Perm.eq_of_pairwise (fun a b _ _ h1 h2 => Int.le_antisymm h1 h2) hs (sortI_sorted l) (hp.trans (sortI_perm l).symm)
def strsD : List PyData → Option (List Str)
  | [] => some []
  | .str x :: r => (strsD r).map (x :: ·)
  | _ :: _ => none
def intsD : List PyData → Option (List Int)
  | [] => some []
  | .int x :: r => (intsD r).map (x :: ·)
  | _ :: _ => none
theorem strsD_eq : ∀ {ds : List PyData} {xs : List Str}, strsD ds = some xs → ds = xs.map .str
  | [], _, e => by cases e; rfl
  | d :: r, xs, e => by
    cases d with
    | str x =>
      obtain ⟨l, e1, rfl⟩ := Option.map_eq_some_iff.mp e
      rw [strsD_eq e1]; rfl
    | _ => cases e
theorem intsD_eq : ∀ {ds : List PyData} {xs : List Int}, intsD ds = some xs → ds = xs.map .int
  | [], _, e => by cases e; rfl
  | d :: r, xs, e => by
    cases d with
    | int x =>
      obtain ⟨l, e1, rfl⟩ := Option.map_eq_some_iff.mp e
      rw [intsD_eq e1]; rfl
    | _ => cases e
theorem strsD_map : ∀ xs : List Str, strsD (xs.map .str) = some xs
  | [] => rfl
  | x :: r => by simp [strsD, strsD_map r]
theorem intsD_map : ∀ xs : List Int, intsD (xs.map .int) = some xs
  | [] => rfl
  | x :: r => by simp [intsD, intsD_map r]
theorem RpL.strs_eq {K : PySem.W.Frag} {S : Addr → Prop} {H : Hp} : ∀ {xs : List Str} {vs : List V}, RpL K S H vs (xs.map .str) → vs = xs.map V.str
  | [], _, .nil => rfl
  | x :: r, _, .cons h t => by
    cases h
    rw [RpL.strs_eq t]; rfl
theorem RpL.ints_eq {K : PySem.W.Frag} {S : Addr → Prop} {H : Hp} : ∀ {xs : List Int} {vs : List V}, RpL K S H vs (xs.map .int) → vs = xs.map V.int
  | [], _, .nil => rfl
  | x :: r, _, .cons h t => by
    cases h
    rw [RpL.ints_eq t]; rfl
def keysD (kvs : List (PyData × PyData)) : List PyData := kvs.map (·.1)
def oSorted : List PyData → Option PyData
  | [.list ds] => match strsD ds with
    | some xs => if xs.length < 64 then some (.list ((sortS xs).map .str)) else none
    | none => match intsD ds with
      | some xs => some (.list ((sortI xs).map .int))
      | none => none
  | [.dict kvs] => match strsD (keysD kvs) with
    | some xs => if xs.length < 64 then some (.list ((sortS xs).map .str)) else none
    | none => none
  | _ => none
section
variable {X : Cx}
theorem keyD_strs : ∀ {ts : List (Key × V)} {xs : List Str}, xs.map PyData.str = ts.map (fun p => keyD p.1) → ts.map (·.1) = xs.map Sum.inr
  | [], [], _ => rfl
  | [], _ :: _, e => by simp at e
  | _ :: _, [], e => by simp at e
  | (k, v) :: ts, x :: xs, e => by
    simp only [List.map_cons, List.cons.injEq] at e
    rw [List.map_cons, List.map_cons, keyD_strs e.2]
    cases k with
    | inl i => cases e.1
    | inr y => cases e.1; rfl
theorem b_sorted (hc : X.calm = true) : CallR X (.builtin "sorted") (rB X.K oSorted) := by
  intro pins s σ H xs us Q I r h
  obtain ⟨S, ds, d, al, rs, e, q⟩ := h
  unfold oSorted at e
  split at e
  · obtain ⟨v, rfl, r1⟩ := rs.one
    obtain ⟨a, vs, rfl, h1, p1⟩ := r1.lst
    split at e
    · rename_i xs hx
      split at e
      · rename_i hl
        cases e
        obtain rfl := strsD_eq hx
        obtain rfl := p1.strs_eq
        refine cr_sortedS pins s σ H _ us Q I r ⟨a, xs, rfl, SqL.of h1, hl, fun ys p hp hs hn => ?_⟩
        rw [sortS_of hp hs]
        exact q _ S _ (Gw.lay al hn) (lay_lst al (RpL.strs _) hn hn)
      · cases e
    · split at e
      · rename_i xs hx
        cases e
        obtain rfl := intsD_eq hx
        obtain rfl := p1.ints_eq
        refine cr_sortedI pins s σ H _ us Q I r ⟨a, xs, rfl, SqL.of h1, fun ys p hp hs hn => ?_⟩
        rw [sortI_of hp hs]
        exact q _ S _ (Gw.lay al hn) (lay_lst al (RpL.ints _) hn hn)
      · cases e
  · obtain ⟨v, rfl, r1⟩ := rs.one
    obtain ⟨a, ts, rfl, h1, p1, p2⟩ := r1.dct
    split at e
    · rename_i xs hx
      split at e
      · rename_i hl
        cases e
        have hk := keyD_strs ((strsD_eq hx).symm.trans p1)
        refine call_sortedD hc pins s σ H _ us Q I r ⟨a, ts, xs, rfl, h1, hk, hl, fun ys p hp hs hn => ?_⟩
        rw [sortS_of hp hs]
        exact q _ S _ (Gw.lay al hn) (lay_lst al (RpL.strs _) hn hn)
      · cases e
    · cases e
  · cases e
end

/-! ### dicts: put, merge -/
def hasD (kvs : List (PyData × PyData)) (k : PyData) : Bool := kvs.any fun p => keyEq p.1 k
def putD (kvs : List (PyData × PyData)) (k v : PyData) : List (PyData × PyData) := if hasD kvs k = true then kvs.map (fun p => if keyEq p.1 k = true then (p.1, v) else p) else kvs ++ [(k, v)]
def mergeD (kvs more : List (PyData × PyData)) : List (PyData × PyData) := more.foldl (fun acc p => putD acc p.1 p.2) kvs
section
variable {K : PySem.W.Frag} {S : Addr → Prop} {H : Hp}
/-- the pairs of a dict, by the values and by the data -/
def KvR (K : PySem.W.Frag) (S : Addr → Prop) (H : Hp) (ts : List (Key × V)) (kvs : List (PyData × PyData)) : Prop := kvs.map (·.1) = ts.map (fun p => keyD p.1) ∧ RpL K S H (ts.map (·.2)) (kvs.map (·.2))
theorem KvR.nil : KvR K S H [] [] := ⟨rfl, .nil⟩
theorem KvR.cons_inv {p : Key × V} {ts : List (Key × V)} {q : PyData × PyData} {kvs : List (PyData × PyData)} (h : KvR K S H (p :: ts) (q :: kvs)) : q.1 = keyD p.1 ∧ Rp K S H p.2 q.2 ∧ KvR K S H ts kvs := by
  obtain ⟨h1, h2⟩ := h
  simp only [List.map_cons, List.cons.injEq] at h1
  simp only [List.map_cons] at h2
  cases h2 with
  | cons a b => exact ⟨h1.1, a, h1.2, b⟩
theorem KvR.cons {p : Key × V} {ts : List (Key × V)} {q : PyData × PyData} {kvs : List (PyData × PyData)} (h1 : q.1 = keyD p.1) (h2 : Rp K S H p.2 q.2) (h3 : KvR K S H ts kvs) : KvR K S H (p :: ts) (q :: kvs) :=
  ⟨by rw [List.map_cons, List.map_cons, h1, h3.1], .cons h2 h3.2⟩
theorem KvR.len : ∀ {ts : List (Key × V)} {kvs : List (PyData × PyData)}, KvR K S H ts kvs → kvs.length = ts.length := fun h => by have := congrArg List.length h.1; simpa using this
theorem KvR.snoc {k : Key} {v : V} {d : PyData} (h2 : Rp K S H v d) : ∀ {ts : List (Key × V)} {kvs : List (PyData × PyData)}, KvR K S H ts kvs → KvR K S H (ts ++ [(k, v)]) (kvs ++ [(keyD k, d)])
  | [], [], _ => .cons rfl h2 .nil
  | [], _ :: _, h => by have := h.len; simp at this
  | _ :: _, [], h => by have := h.len; simp at this
  | _ :: _, _ :: _, h => by
    obtain ⟨a, b, c⟩ := h.cons_inv
    exact .cons a b (KvR.snoc h2 c)
theorem KvR.has (k : Key) : ∀ {ts : List (Key × V)} {kvs : List (PyData × PyData)}, KvR K S H ts kvs → (ts.any fun kv => decide (kv.1 = k)) = hasD kvs (keyD k)
  | [], [], _ => rfl
  | [], _ :: _, h => by have := h.len; simp at this
  | _ :: _, [], h => by have := h.len; simp at this
  | p :: ts, q :: kvs, h => by
    obtain ⟨a, b, c⟩ := h.cons_inv
    have ih := KvR.has k c
    unfold hasD at ih ⊢
    rw [List.any_cons, List.any_cons, ih, a, keyEq_keyD]
theorem KvR.repl {k : Key} {v : V} {d : PyData} (h2 : Rp K S H v d) : ∀ {ts : List (Key × V)} {kvs : List (PyData × PyData)}, KvR K S H ts kvs → KvR K S H (ts.map fun kv => if kv.1 = k then (kv.1, v) else kv) (kvs.map fun p => if keyEq p.1 (keyD k) = true then (p.1, d) else p)
  | [], [], _ => .nil
  | [], _ :: _, h => by have := h.len; simp at this
  | _ :: _, [], h => by have := h.len; simp at this
  | p :: ts, q :: kvs, h => by
    obtain ⟨a, b, c⟩ := h.cons_inv
    rw [List.map_cons, List.map_cons, a, keyEq_keyD]
    by_cases hk : p.1 = k
    · rw [if_pos hk, if_pos (decide_eq_true hk)]
      exact .cons rfl h2 (KvR.repl h2 c)
    · rw [if_neg hk, if_neg (by simpa using hk)]
      exact .cons a b (KvR.repl h2 c)
theorem KvR.put {ts : List (Key × V)} {kvs : List (PyData × PyData)} {k : Key} {v : V} {d : PyData} (h : KvR K S H ts kvs) (h2 : Rp K S H v d) : KvR K S H (putK ts k v) (putD kvs (keyD k) d) := by
  unfold putK putD
  rw [h.has k]
  split
  · exact h.repl h2
  · exact h.snoc h2
theorem KvR.merge : ∀ {us : List (Key × V)} {more : List (PyData × PyData)} {ts : List (Key × V)} {kvs : List (PyData × PyData)}, KvR K S H us more → KvR K S H ts kvs → KvR K S H (mergeK ts us) (mergeD kvs more)
  | [], [], _, _, _, h => h
  | [], _ :: _, _, _, h, _ => by have := h.len; simp at this
  | _ :: _, [], _, _, h, _ => by have := h.len; simp at this
  | p :: us, q :: more, ts, kvs, h, g => by
    obtain ⟨a, b, c⟩ := h.cons_inv
    have := g.put (k := p.1) b
    rw [← a] at this
    show KvR K S H (mergeK (putK ts p.1 p.2) us) (mergeD (putD kvs q.1 q.2) more)
    exact KvR.merge c this
theorem putD_len (kvs : List (PyData × PyData)) (k v : PyData) : (putD kvs k v).length ≤ kvs.length + 1 := by
  unfold putD
  split
  · simp
  · simp
end
def pairsD : List PyData → Option (List (PyData × PyData))
  | [] => some []
  | .tuple [k, v] :: r => match keyOf? k, pairsD r with
    | some _, some l => some ((k, v) :: l)
    | _, _ => none
  | _ :: _ => none
def oDictP : List PyData → Option PyData
  | [.dict kvs] => some (.dict kvs)
  | [.list ds] => (pairsD ds).map fun l => .dict (mergeD [] l)
  | [.tuple ds] => none
  | _ => none
theorem pairs_run {K : PySem.W.Frag} {S : Addr → Prop} {H : Hp} : ∀ {ds : List PyData} {l : List (PyData × PyData)} {vs : List V}, RpL K S H vs ds → pairsD ds = some l →
    ∃ (ps : List Addr) (kvs : List (Key × V)), vs = ps.map V.ref ∧ Paired (fun p kv => SqT K H p [kV kv.1, kv.2]) ps kvs ∧ KvR K S H kvs l
  | [], l, _, .nil, e => by cases e; exact ⟨[], [], rfl, .nil, .nil⟩
  | d :: r, l, _, .cons h t, e => by
    unfold pairsD at e
    split at e
    · rename_i e0; cases e0
    · rename_i k v r' e0
      cases e0
      split at e
      · rename_i kk l' hk hl
        cases e
        obtain ⟨ps, kvs, rfl, hp, hr⟩ := pairs_run t hl
        cases h with
        | tup hs hh =>
          cases hh with
          | cons a b =>
            cases b with
            | cons b c =>
              cases c
              have ek := keyOf_keyD hk
              obtain rfl := Rdb.key (.inl a) hk
              exact ⟨_ :: ps, (kk, _) :: kvs, rfl, .cons hs.sq hp, .cons ek b hr⟩
      · cases e
    · cases e
theorem b_dictP {X : Cx} (hc : X.calm = true) : CallR X (.type "dict") (rB X.K oDictP) := by
  intro pins s σ H xs us Q I r h
  obtain ⟨S, ds, d, al, rs, e, q⟩ := h
  unfold oDictP at e
  split at e
  · cases e
    exact b_dict pins s σ H xs us Q I r ⟨S, _, _, al, rs, rfl, q⟩
  · obtain ⟨l, e1, rfl⟩ := Option.map_eq_some_iff.mp e
    obtain ⟨v, rfl, r1⟩ := rs.one
    obtain ⟨a, vs, rfl, h1, p1⟩ := r1.lst
    obtain ⟨ps, kvs, rfl, hp, hr⟩ := pairs_run p1 e1
    refine call_dictP hc pins s σ H _ us Q I r ⟨a, ps, kvs, rfl, SqL.of h1, hp, fun p hn => ?_⟩
    have m := KvR.merge hr (KvR.nil (K := X.K) (S := S) (H := H))
    exact q _ S _ (Gw.lay al hn) ⟨p, rfl, hn, fun z => al p z hn, _, upd_same, m.1, m.2.up (Gw.lay al hn).up⟩
  · cases e
  · cases e

/-! ### for i in range(n), range(a, b) -/
def rngD (lo : Int) : Nat → List PyData
  | 0 => []
  | n + 1 => .int lo :: rngD (lo + 1) n
theorem rngD_len : ∀ (n : Nat) (lo : Int), (rngD lo n).length = n
  | 0, _ => rfl
  | n + 1, lo => by unfold rngD; rw [List.length_cons, rngD_len]
theorem rngD_get : ∀ (n : Nat) (lo : Int) (i : Nat), i < n → (rngD lo n)[i]? = some (.int (lo + i))
  | 0, _, _, h => by omega
  | n + 1, lo, 0, _ => by simp [rngD]
  | n + 1, lo, i + 1, h => by
    unfold rngD
    rw [List.getElem?_cons_succ, rngD_get n (lo + 1) i (by omega)]
    congr 2
    omega
theorem walk_rng {K : PySem.W.Frag} {T S0 : Addr → Prop} {H0 : Hp} (lo : Int) (n : Nat) : Walk K (Itr lo n) (rngD lo n) T S0 H0 := by
  intro S H i u t al
  rw [rngD_len]
  refine ⟨fun hi => ⟨hi, fun x H' y => ?_⟩, fun hi => hi⟩
  obtain ⟨rfl, rfl⟩ := y
  exact ⟨S, _, Gw.refl al, rngD_get n lo i hi, .int _⟩
def smallI (i : Int) : Bool := decide (-(2 ^ 62) ≤ i ∧ i < 2 ^ 62)
def iR1 (f : Mo Rs) : Mo (List PyData) := bindM f fun r => bindM (rdR r) fun d => bindM (optM (intD d)) fun j => if smallI j = true then retM (rngD 0 j.toNat) else fun _ => none
def iR2 (f g : Mo Rs) : Mo (List PyData) := bindM f fun r => bindM g fun r2 => bindM (rdR r) fun d => bindM (rdR r2) fun d2 => bindM (optM (intD d)) fun i => bindM (optM (intD d2)) fun j => if smallI i = true then if smallI j = true then retM (rngD i (j - i).toNat) else fun _ => none else fun _ => none
theorem intD_eq {d : PyData} {i : Int} (h : intD d = some i) : d = .int i := by cases d <;> cases h <;> rfl
section
variable {X : Cx} {tg a b : Expr} {f g : Mo Rs} {p pos : Pos}
theorem id_range1 (hg : Gl X "range") (hm : X.mg "range" = none) (ha : PD X a f) (hs : starEach [a] X.env = [(false, eval a X.env)] := by rfl) (hs' : starEach [a] X.env = (false, eval a X.env) :: starEach [] X.env := by rfl) : ID X tg (.Call (.Name "range" p) [a] [] pos) (iR1 f) :=
  PI.to (pi_range1 hg hm (pa_cons ha pa_nil hs') hs) fun σ H R h => by
    obtain ⟨S, ρ, ds, ρ', G, e, q⟩ := h
    obtain ⟨r, ρ1, e1, e2⟩ := bindM_some e
    obtain ⟨d, ρ2, e3, e4⟩ := bindM_some e2
    obtain ⟨j, ρ3, e5, e6⟩ := bindM_some e4
    obtain ⟨b1, b2⟩ := optM_some e5
    simp only at b1 b2
    split at e6
    · rename_i hj
      cases retM_some e6
      refine ⟨S, ρ, r, ρ1, G, e1, fun v S1 H1 F1 G1 R1 => ?_⟩
      obtain ⟨rd, rfl⟩ := R1.rd G1 e3
      obtain rfl := intD_eq b1
      subst b2
      have hj' := of_decide_eq_true hj
      exact ⟨j, by rw [rd.int], hj'.1, hj'.2, q _ S1 H1 (fun _ => False) F1 G1 (fun _ z => z.elim) (walk_rng 0 j.toNat)⟩
    · cases e6
theorem id_range2 (hg : Gl X "range") (hm : X.mg "range" = none) (ha : PD X a f) (hb : PD X b g) (hs : starEach [a, b] X.env = [(false, eval a X.env), (false, eval b X.env)] := by rfl) (hs2 : starEach [b] X.env = [(false, eval b X.env)] := by rfl)
    (hs' : starEach [a, b] X.env = (false, eval a X.env) :: starEach [b] X.env := by rfl) (hs'' : starEach [b] X.env = (false, eval b X.env) :: starEach [] X.env := by rfl) : ID X tg (.Call (.Name "range" p) [a, b] [] pos) (iR2 f g) :=
  PI.to (pi_range2 hg hm (pa_cons ha (pa_cons hb pa_nil hs'') hs') hs hs2) fun σ H R h => by
    obtain ⟨S, ρ, ds, ρ', G, e, q⟩ := h
    obtain ⟨r, ρ1, e1, e2⟩ := bindM_some e
    obtain ⟨r2, ρ2, e3, e4⟩ := bindM_some e2
    obtain ⟨d, ρ3, e5, e6⟩ := bindM_some e4
    obtain ⟨d2, ρ4, e7, e8⟩ := bindM_some e6
    obtain ⟨i, ρ5, e9, e10⟩ := bindM_some e8
    obtain ⟨j, ρ6, e11, e12⟩ := bindM_some e10
    obtain ⟨b1, b2⟩ := optM_some e9
    obtain ⟨b3, b4⟩ := optM_some e11
    simp only at b1 b2 b3 b4
    split at e12
    · rename_i hi
      split at e12
      · rename_i hj
        cases retM_some e12
        obtain rfl := rdR_same e5
        obtain rfl := rdR_same e7
        subst b2
        subst b4
        refine ⟨S, ρ, r, ρ1, G, e1, fun v S1 H1 F1 G1 R1 => ⟨S1, ρ1, r2, _, G1, e3, fun w S2 H2 F2 G2 R2 => ?_⟩⟩
        have n1 : Now X.K σ S ρ H S1 ρ1 H1 := ⟨G, F1, G1⟩
        obtain ⟨rd, _⟩ := (R1.fm n1 F2).rd G2 e5
        obtain ⟨rd2, _⟩ := R2.rd G2 e7
        obtain rfl := intD_eq b1
        obtain rfl := intD_eq b3
        have hi' := of_decide_eq_true hi
        have hj' := of_decide_eq_true hj
        exact ⟨i, j, by rw [rd.int, rd2.int], ⟨hi'.1, hi'.2, hj'.1, hj'.2⟩, q _ S2 H2 (fun _ => False) (F1.trans F2) G2 (fun _ z => z.elim) (walk_rng i (j - i).toNat)⟩
      · cases e12
    · cases e12
end

/-! ### x[i] = v, x[i] op= v at a name that holds its own list or dict -/
def setD : PyData → PyData → PyData → Option PyData
  | .list ds, .int i, v => (ixN ds.length i).map fun j => .list (ds.set j v)
  | .dict kvs, k, v => match keyOf? k with
    | some k => if kvs.length < sizeLine then some (.dict (putD kvs (keyD k) v)) else none
    | none => none
  | _, _, _ => none
/-- the place of a name is changed -/
def mutM (j : Nat) (op : PyData → Option PyData) : Mo Unit := fun ρ => match ρ[j]? with
  | some (some (st, d)) => if st.mut = true then match op d with
      | some d' => some ((), ρ.set j (some (st, d')))
      | none => none
    else none
  | _ => none
theorem mutM_some {j : Nat} {op : PyData → Option PyData} {ρ ρ' : Rho} {u : Unit} (e : mutM j op ρ = some (u, ρ')) : ∃ st d d', ρ[j]? = some (some (st, d)) ∧ st.mut = true ∧ op d = some d' ∧ ρ' = ρ.set j (some (st, d')) := by
  unfold mutM at e
  split at e
  · split at e
    · split at e
      · cases e; exact ⟨_, _, _, ‹_›, ‹_›, ‹_›, rfl⟩
      · cases e
    · cases e
  · cases e
theorem xV_some {i : Nat} {ρ ρ' : Rho} {r : Rs} (e : xV i ρ = some (r, ρ')) : ∃ p, ρ[i]? = some (some p) ∧ r = .slot i ∧ ρ' = ρ := by
  unfold xV at e
  split at e
  · cases e; exact ⟨_, ‹_›, rfl, rfl⟩
  · cases e
theorem Rp.key {K : PySem.W.Frag} {S : Addr → Prop} {H : Hp} (k : Key) : Rp K S H (kV k) (keyD k) := by
  cases k with
  | inl i => exact .int i
  | inr x => exact .str x
def sPut (j : Nat) (fi fv : Mo Rs) : Mo Fl := bindM fv fun rv => bindM (keepR rv) fun v => bindM (xV j) fun _ => bindM fi fun ri => bindM (rdR ri) fun i => bindM (mutM j fun d => setD d i v) fun _ => retM .nx
def rSetA (o i v : V) (H : Hp) (Q : Hp → Prop) : Prop := rSetL o i v H Q ∨ rSetD o i v H Q
theorem set_any {X : Cx} (hu : X.A.units + 1 < cLine) : PSet X rSetA := by
  intro pins s σ H o i v ov iv u Q I ro ri rv h
  rcases h with h | h
  · exact set_list pins s σ H o i v ov iv u Q I ro ri rv h
  · exact set_dict hu pins s σ H o i v ov iv u Q I ro ri rv h
/-- a store, by the state -/
theorem Now.setAt {K : PySem.W.Frag} {S0 S : Addr → Prop} {ρ0 ρ : Rho} {σ : L2.St} {H0 H : Hp} {j : Nat} {st : Stt} {d d' i x : PyData} {wi w : V} {Q : Hp → Prop} (n : Now K σ S0 ρ0 H0 S ρ H) (h : ρ[j]? = some (some (st, d))) (hm : st.mut = true) (ri : Rdb K S H wi i) (rx : Rp K S H w x) (e : setD d i x = some d') :
    ∃ a, σ[j]? = some (some (V.ref a)) ∧ ((∀ H', Now K σ S0 ρ0 H0 S (ρ.set j (some (st, d'))) H' → Q H') → rSetA (.ref a) wi w H Q) := by
  obtain ⟨v, hv, sr⟩ := n.g.sl j st d h
  have top : ∃ a, v = .ref a ∧ ¬ S a ∧ TopX K S H a d := by cases st <;> first | exact sr | cases hm
  obtain ⟨a, rfl, ns, tx⟩ := top
  refine ⟨a, hv, fun q => ?_⟩
  have go : ∀ o', (TopX K S (upd H a o') a d') → Q (upd H a o') := fun o' t => q _ (n.mutate h hm hv fun _ => t)
  have u : ∀ o', Uph S H S (upd H a o') := fun o' => ⟨fun _ h => h, fun b o hb e => by rw [upd_ne (show b ≠ a from fun z => ns (z ▸ hb))]; exact e⟩
  unfold setD at e
  split at e
  · obtain ⟨k, e1, rfl⟩ := Option.map_eq_some_iff.mp e
    obtain ⟨vs, h1, p1⟩ := tx
    exact .inl ⟨a, vs, _, k, rfl, ri.int, h1, by rw [p1.len]; exact e1, go _ ⟨_, upd_same, (RpL.set rx k p1).up (u _)⟩⟩
  · split at e
    · rename_i k hk
      split at e
      · rename_i hl
        cases e
        obtain ⟨ts, h1, p1, p2⟩ := tx
        have kv : KvR K S H ts _ := ⟨p1, p2⟩
        have m := kv.put (k := k) rx
        refine .inr ⟨a, _, rfl, .inl ⟨ts, k, h1, ri.key hk, by rw [← kv.len]; exact hl, rfl⟩, go _ ⟨_, upd_same, m.1, m.2.up (u _)⟩⟩
      · cases e
    · cases e
  · cases e
section
variable {X : Cx} {x : Str} {ei ev : Expr} {fi fv : Mo Rs} {np tpos pos : Pos}
theorem sd_put (j : Nat) (hu : X.A.units + 64 < cLine) (hi : PD X ei fi) (hv : PD X ev fv) (hN : X.N[j]? = some x := by rfl) (hvis : Vis X.env.scope x := by first | exact Or.inl rfl | exact Or.inr (Or.inl rfl) | exact Or.inr (Or.inr rfl)) (hd : (x == ("__debug__" : Str)) = false := by decide)
    (hcd : (x == ("__classdict__" : Str)) = false := by decide)
    (ha : ∀ v, assign (.Subscript (.Name x np) ei tpos) X.env v = (do
      let ov ← holding [v] (eval (.Name x np) X.env)
      let iv ← holding [v, ov] (eval ei X.env)
      standAt tpos
      holding [v, ov, iv] (setItem ov iv v)
      release [v, ov, iv] []) := by intro _; rfl)
    (hs : swapsWithSole [.Subscript (.Name x np) ei tpos] ev pos.line X.env = pure false := by rfl) (hw : swappedStores [.Subscript (.Name x np) ei tpos] ev X.env = pure none := by rfl)
    (h1 : (assignEach [.Subscript (.Name x np) ei tpos] X.env).map (·.2) = [assign (.Subscript (.Name x np) ei tpos) X.env] := by rfl) :
    SD X (.Assign [.Subscript (.Name x np) ei tpos] ev pos) (sPut j fi fv) := PS.to (ps_asg hv (pg_sub (pe_var hN hvis hd hcd) hi (set_any (by omega)) ha) hs hw h1) fun D σ H h => by
  obtain ⟨S, ρ, fl, ρ', G, e, q⟩ := h
  obtain ⟨rv, ρ1, e1, a1⟩ := bindM_some e
  obtain ⟨v, ρ2, e2, a2⟩ := bindM_some a1
  obtain ⟨rj, ρ0, e0, a0⟩ := bindM_some a2
  obtain ⟨ri, ρ3, e3, a3⟩ := bindM_some a0
  obtain ⟨i, ρ4, e4, a4⟩ := bindM_some a3
  obtain ⟨u, ρ5, e5, a5⟩ := bindM_some a4
  cases retM_some a5
  obtain rfl := rdR_same e4
  obtain ⟨st, d, d', m1, m2, m3, rfl⟩ := mutM_some e5
  obtain ⟨p0, m0, rfl, rfl⟩ := xV_some e0
  refine ⟨S, ρ, rv, ρ1, G, e1, fun w S1 H1 F1 G1 R1 => ?_⟩
  obtain ⟨S2, n2, p2, _⟩ := R1.w.keep ⟨G, F1, G1⟩ e2
  obtain ⟨wj, hwj, _⟩ := n2.g.sl j p0.1 p0.2 m0
  refine ⟨wj, hwj, S2, _, ri, _, n2.g, e3, fun wi S3 H3 F3 G3 R3 => ?_⟩
  have n3 := n2.step F3 G3
  obtain ⟨rdi, _⟩ := R3.rd G3 e4
  obtain ⟨a, ha, go⟩ := n3.setAt (Q := fun H' => D.nx σ H') m1 m2 rdi (Rp.up (F3.up n2.g) p2) m3
  rw [hwj] at ha
  cases ha
  exact go fun H' n4 => q σ S3 H' n4.f.fs n4.g
end

/-! ### op= -/
def augI (g : Int → Int → Int) : PyData → PyData → Option PyData
  | .int i, .int j => some (.int (g i j))
  | _, _ => none
/-- an item, by its place or its key -/
def getD : PyData → PyData → Option PyData
  | .list ds, .int i => atI ds i
  | .dict kvs, k => match keyOf? k with
    | some k => lookD (keyD k) kvs
    | none => none
  | _, _ => none
theorem getD_key {o i d : PyData} (e : getD o i = some d) : ∃ k, keyOf? i = some k := by
  unfold getD at e
  split at e
  · exact ⟨_, rfl⟩
  · split at e
    · exact ⟨_, ‹_›⟩
    · cases e
  · cases e
/-- x op= e, ints -/
def sAug (j : Nat) (g : Int → Int → Int) (f : Mo Rs) : Mo Fl := bindM (xV j) fun r0 => bindM (rdR r0) fun a => bindM f fun r => bindM (rdR r) fun b => bindM (optM (augI g a b)) fun d => bindM (storeR j (.kept d)) fun _ => retM .nx
/-- x[i] op= e, ints -/
def sAugS (j : Nat) (g : Int → Int → Int) (fi f : Mo Rs) : Mo Fl := bindM (xV j) fun rj => bindM fi fun ri => bindM (rdR rj) fun o => bindM (rdR ri) fun i => bindM (optM (getD o i)) fun a => bindM f fun r => bindM (rdR r) fun b => bindM (optM (augI g a b)) fun d => bindM (mutM j fun o' => setD o' i d) fun _ => retM .nx
theorem augI_some {g : Int → Int → Int} {a b d : PyData} (e : augI g a b = some d) : ∃ i j, a = .int i ∧ b = .int j ∧ d = .int (g i j) := by
  unfold augI at e
  split at e
  · cases e; exact ⟨_, _, rfl, rfl, rfl⟩
  · cases e
/-- o[i] of a list or a dict -/
def rGetA (K : PySem.W.Frag) (o i : V) (H : Hp) (Q : VK) : Prop := (∃ p xs k v, o = .ref p ∧ i = .int k ∧ H p = some (.lst xs) ∧ atI xs k = some v ∧ Q v H) ∨ ∃ a v, o = .ref a ∧ DGet H a i (some v) ∧ Q v H
theorem get_any {X : Cx} (hu : X.A.units + 1 < cLine) : PGet X (rGetA X.K) := by
  intro pins s σ H o i ov iv Q I ro ri h
  rcases h with ⟨p, xs, k, v, rfl, rfl, hp, hj, q⟩ | ⟨a, v, rfl, g, q⟩
  · cases ro
    obtain ⟨t, rfl⟩ := ri
    obtain ⟨its, n, r, ho, hz⟩ := I.lst hp
    obtain ⟨j, h1, h2, h3, h4, h5⟩ := atI_get hj
    obtain ⟨w, ew, rw'⟩ := r.get h2
    have hl := r.length
    have hn := line63
    have il : s.heap.IsList p its.toArray := ⟨_, ho, rfl, n, rfl⟩
    have fin : EP X pins σ Q w s := ⟨v, H, I, rw', q⟩
    by_cases h0 : 0 ≤ k
    · have hk : k.toNat = j := by
        rw [seqIndex_of h0 h5] at h1
        exact Option.some.inj h1
      exact wpAny_getItem_list il h0 (by omega) (by rw [hk]; simpa using ew) fin
    · have hk : (k + (its.toArray.size : Int)).toNat = j := by
        rw [seqIndex_neg (by omega) h4] at h1
        rw [List.size_toArray, ← hl]
        exact Option.some.inj h1
      exact wpAny_getItem_list_neg il (by omega) (by rw [List.size_toArray] <;> omega) (by omega) (by rw [hk]; simpa using ew) fin
  · cases ro
    exact d_getItem hu I g ri fun w' s3 I3 rw' => ⟨v, H, I3, rw', q⟩
section
variable {X : Cx} {x : Str} {ei ev : Expr} {fi fv : Mo Rs} {np tpos pos : Pos} {op : Operator} {g : Int → Int → Int}
theorem sd_aug (j : Nat) (hN : X.N.Nodup) (ho : PIp X op (ipI g)) (hv : PD X ev fv) (hj : X.N[j]? = some x := by rfl) (hx : Loc X.env.scope x := by first | exact Or.inl rfl | exact Or.inr rfl)
    (hf : X.fn x = true ∨ X.env.scope.names.lookup x = some .local := by first | exact .inl rfl | exact .inr rfl | assumption) : SD X (.AugAssign (.Name x np) op ev pos) (sAug j g fv) := PS.to (ps_aug hN hj hx hv ho hf) fun D σ H h => by
  obtain ⟨S, ρ, fl, ρ', G, e, q⟩ := h
  obtain ⟨r0, ρ0, e0, a0⟩ := bindM_some e
  obtain ⟨a, ρ1, e1, a1⟩ := bindM_some a0
  obtain ⟨r, ρ2, e2, a2⟩ := bindM_some a1
  obtain ⟨b, ρ3, e3, a3⟩ := bindM_some a2
  obtain ⟨d, ρ4, e4, a4⟩ := bindM_some a3
  obtain ⟨u, ρ5, e5, a5⟩ := bindM_some a4
  cases retM_some a5
  obtain ⟨p0, m0, rfl, rfl⟩ := xV_some e0
  obtain rfl := rdR_same e1
  obtain rfl := rdR_same e3
  obtain ⟨b1, b2⟩ := optM_some e4
  simp only at b1 b2
  subst b2
  obtain ⟨i, k, rfl, rfl, rfl⟩ := augI_some b1
  obtain ⟨wj, hwj, _⟩ := G.sl j p0.1 p0.2 m0
  have r0' : RR X.K H S H _ σ wj (.slot j) := ⟨hwj, _, m0⟩
  have hwi := (r0'.rd G e1).1.int
  subst hwi
  refine ⟨_, hwj, S, _, r, _, G, e2, fun w S1 H1 F1 G1 R1 => ?_⟩
  obtain ⟨rd, _⟩ := R1.rd G1 e3
  refine ⟨i, k, rfl, rd.int, ?_⟩
  obtain ⟨G3, F3, _⟩ := storeK G1 (Rp.int (g i k)) e5
  exact q _ S1 H1 (F1.fs.trans F3) G3
theorem sd_augS (j : Nat) (hu : X.A.units + 64 < cLine) (ho : PIp X op (ipI g)) (hi : PD X ei fi) (hv : PD X ev fv) (hN : X.N[j]? = some x := by rfl) (hvis : Vis X.env.scope x := by first | exact Or.inl rfl | exact Or.inr (Or.inl rfl) | exact Or.inr (Or.inr rfl)) (hd : (x == ("__debug__" : Str)) = false := by decide)
    (hcd : (x == ("__classdict__" : Str)) = false := by decide)
    (ha : ∀ ov iv new, augStore ei ov iv new = (do holding [new, ov, iv] (setItem ov iv new); release [new, ov, iv] []; pure .next) := by intros; rfl) : SD X (.AugAssign (.Subscript (.Name x np) ei tpos) op ev pos) (sAugS j g fi fv) :=
  PS.to (ps_augS (pe_var hN hvis hd hcd) hi (get_any (by omega)) hv ho (set_any (by omega)) ha) fun D σ H h => by
  obtain ⟨S, ρ, fl, ρ', G, e, q⟩ := h
  obtain ⟨rj, ρ0, e0, a0⟩ := bindM_some e
  obtain ⟨ri, ρ1, e1, a1⟩ := bindM_some a0
  obtain ⟨o, ρ2, e2, a2⟩ := bindM_some a1
  obtain ⟨i, ρ3, e3, a3⟩ := bindM_some a2
  obtain ⟨a, ρ4, e4, a4⟩ := bindM_some a3
  obtain ⟨r, ρ5, e5, a5⟩ := bindM_some a4
  obtain ⟨b, ρ6, e6, a6⟩ := bindM_some a5
  obtain ⟨d, ρ7, e7, a7⟩ := bindM_some a6
  obtain ⟨u, ρ8, e8, a8⟩ := bindM_some a7
  cases retM_some a8
  obtain ⟨p0, m0, rfl, rfl⟩ := xV_some e0
  obtain rfl := rdR_same e2
  obtain rfl := rdR_same e3
  obtain rfl := rdR_same e6
  obtain ⟨b1, b2⟩ := optM_some e4
  obtain ⟨b3, b4⟩ := optM_some e7
  simp only at b1 b2 b3 b4
  subst b2
  subst b4
  obtain ⟨n, k, rfl, rfl, rfl⟩ := augI_some b3
  obtain ⟨st, d, d', m1, m2, m3, rfl⟩ := mutM_some e8
  obtain ⟨wj, hwj, _⟩ := G.sl j p0.1 p0.2 m0
  have r0' : RR X.K H S H _ σ wj (.slot j) := ⟨hwj, _, m0⟩
  refine ⟨wj, hwj, S, _, ri, _, G, e1, fun wi S1 H1 F1 G1 R1 => ?_⟩
  have n1 : Now X.K σ S _ H S1 _ H1 := ⟨G, F1, G1⟩
  obtain ⟨rdo, _⟩ := (r0'.fm (Now.start G) F1).rd G1 e2
  obtain ⟨rdi, _⟩ := R1.rd G1 e3
  obtain ⟨kk, hkk⟩ := getD_key b1
  have nxt : tD X.K fv σ H1 fun y H4 => ipI g (.int n) y H4 fun z H5 => rSetA wj wi z H5 fun H6 => D.nx σ H6 := by
    refine ⟨S1, _, r, _, G1, e5, fun w S2 H2 F2 G2 R2 => ?_⟩
    have n2 := n1.step F2 G2
    obtain ⟨rd, _⟩ := R2.rd G2 e6
    refine ⟨n, k, rfl, rd.int, ?_⟩
    obtain ⟨a, ha, go⟩ := n2.setAt (Q := fun H' => D.nx σ H') m1 m2 (wi := wi) (i := i) (by
      rw [rdi.key hkk, keyOf_keyD hkk]
      exact .inl (Rp.key kk)) (Rp.int (g n k)) m3
    rw [hwj] at ha
    cases ha
    exact go fun H' n4 => q σ S2 H' n4.f.fs n4.g
  unfold getD at b1
  split at b1
  · obtain ⟨a, vs, rfl, h1, p1⟩ := rdo.lst
    obtain ⟨w, x1, x2⟩ := atI_rp p1 b1
    cases x2
    exact .inl ⟨a, vs, _, _, rfl, rdi.int, h1, x1, nxt⟩
  · rename_i kvs _
    obtain ⟨a, ts, rfl, h1, p1, p2⟩ := rdo.dct
    rw [hkk] at b1
    obtain rfl := rdi.key hkk
    rcases look_of kk p1 p2 with ⟨n1, n2⟩ | ⟨w, d', n1, n2, n3⟩
    · dsimp only at b1
      rw [n2] at b1; cases b1
    · dsimp only at b1
      rw [n2] at b1
      cases b1
      cases n3
      exact .inr ⟨a, _, rfl, by rw [← n1]; exact DGet.of h1, nxt⟩
  · cases b1
end
end PyI

/-! PyI, part J: methods; a tuple turned about. -/
namespace PyI
open PySem PySem.Spec L2

/-! ### methods that change their list or dict -/
/-- a method of the list or dict at a name -/
def chkT (T : String) (j : Nat) : Mo Unit := fun ρ => match ρ[j]? with
  | some (some (st, d)) => if st.mut = true ∧ tyD d = T then some ((), ρ) else none
  | _ => none
def mutR (j : Nat) (op : PyData → Option (PyData × PyData)) : Mo Rs := fun ρ => match ρ[j]? with
  | some (some (st, d)) => if st.mut = true then match op d with
      | some (d', rt) => some (.kept rt, ρ.set j (some (st, d')))
      | none => none
    else none
  | _ => none
def xMut (T : String) (j : Nat) (op : PyData → List PyData → Option (PyData × PyData)) (g : Mo (List Rs)) : Mo Rs :=
  bindM (chkT T j) fun _ => bindM g fun rs => bindM (keepL rs) fun ds => mutR j fun d => op d ds
theorem chkT_some {T : String} {j : Nat} {ρ ρ' : Rho} {u : Unit} (e : chkT T j ρ = some (u, ρ')) : ∃ st d, ρ[j]? = some (some (st, d)) ∧ st.mut = true ∧ tyD d = T ∧ ρ' = ρ := by
  unfold chkT at e
  split at e
  · split at e
    · rename_i h; cases e; exact ⟨_, _, ‹_›, h.1, h.2, rfl⟩
    · cases e
  · cases e
theorem mutR_some {j : Nat} {op : PyData → Option (PyData × PyData)} {ρ ρ' : Rho} {r : Rs} (e : mutR j op ρ = some (r, ρ')) : ∃ st d d' rt, ρ[j]? = some (some (st, d)) ∧ st.mut = true ∧ op d = some (d', rt) ∧ ρ' = ρ.set j (some (st, d')) ∧ r = .kept rt := by
  unfold mutR at e
  split at e
  · split at e
    · split at e
      · cases e; exact ⟨_, _, _, _, ‹_›, ‹_›, ‹_›, rfl, rfl⟩
      · cases e
    · cases e
  · cases e
/-- what the rule of a method says, by data -/
def MetD (K : PySem.W.Frag) (op : PyData → List PyData → Option (PyData × PyData)) (r : V → List V → Hp → VK → Prop) : Prop :=
  ∀ (S : Addr → Prop) (H : Hp) (a : Addr) (d d' rt : PyData) (ds : List PyData) (vs : List V) (Q : VK), (∀ b, S b → H b ≠ none) → ¬ S a → TopX K S H a d → RpL K S H vs ds → op d ds = some (d', rt) →
    (∀ o' v, TopX K S (upd H a o') a d' → Rp K S (upd H a o') v rt → Q v (upd H a o')) → r (.ref a) vs H Q
theorem TopX.tyV {K : PySem.W.Frag} {S : Addr → Prop} {H : Hp} {a : Addr} {d : PyData} (t : TopX K S H a d) : tyV K (tyD d) (.ref a) H := by
  cases d with
  | list ds => obtain ⟨vs, h, _⟩ := t; exact .inl ⟨rfl, vs, SqL.of h⟩
  | dict kvs => obtain ⟨ts, h, _⟩ := t; exact .inr (.inr (.inl ⟨rfl, .inl ⟨ts, h⟩⟩))
  | _ => exact t.elim
theorem Gd.top {K : PySem.W.Frag} {S : Addr → Prop} {ρ : Rho} {σ : L2.St} {H : Hp} {j : Nat} {st : Stt} {d : PyData} (g : Gd K S ρ σ H) (h : ρ[j]? = some (some (st, d))) (hm : st.mut = true) : ∃ a, σ[j]? = some (some (V.ref a)) ∧ ¬ S a ∧ TopX K S H a d := by
  obtain ⟨v, hv, sr⟩ := g.sl j st d h
  have top : ∃ a, v = .ref a ∧ ¬ S a ∧ TopX K S H a d := by cases st <;> first | exact sr | cases hm
  obtain ⟨a, rfl, ns, tx⟩ := top
  exact ⟨a, hv, ns, tx⟩
section
variable {X : Cx} {T id : String} {x name : Str} {e : Expr} {es : List Expr} {g : Mo (List Rs)} {op : PyData → List PyData → Option (PyData × PyData)} {r : V → List V → Hp → VK → Prop} {np apos cpos : Pos}
theorem xMut_fin {K : PySem.W.Frag} {S0 S : Addr → Prop} {ρ0 ρ ρ' : Rho} {σ : L2.St} {H0 H : Hp} {j : Nat} {a : Addr} {rs : List Rs} {vs : List V} {rr : Rs} {ds : List PyData} {ρ1 : Rho} {Q : VK} (md : MetD K op r) (n : Now K σ S0 ρ0 H0 S ρ H) (R : RRL K H0 S H ρ σ vs rs) (e1 : keepL rs ρ = some (ds, ρ1)) (e2 : mutR j (fun d => op d ds) ρ1 = some (rr, ρ'))
    (ha : σ[j]? = some (some (V.ref a))) (q : ∀ v S' H', Fm S0 ρ0 σ H0 S' ρ' H' → Gd K S' ρ' σ H' → RR K H0 S' H' ρ' σ v rr → Q v H') : r (.ref a) vs H Q := by
  obtain ⟨S2, n2, p2, _⟩ := RRLw.keep rs n R.w e1
  obtain ⟨st, d, d', rt, m1, m2, m3, rfl, rfl⟩ := mutR_some e2
  obtain ⟨b, hb, ns, tx⟩ := n2.g.top m1 m2
  rw [ha] at hb; cases hb
  exact md S2 H a d d' rt ds vs Q n2.g.al ns tx p2 m3 fun o' v t rv => by
    have n3 := n2.mutate (o' := o') m1 m2 ha fun _ => t
    exact q v S2 _ n3.f n3.g rv
theorem pd_mut (j : Nat) (pa : PlainAttrs T) (slot : Slot T name id) (hty : typeOf (.builtin id) = pure (.type "method_descriptor")) (hm : MtR X id r) (md : MetD X.K op r) (ha : AD X (e :: es) g) (hN : X.N[j]? = some x := by rfl)
    (hvis : Vis X.env.scope x := by first | exact Or.inl rfl | exact Or.inr (Or.inl rfl) | exact Or.inr (Or.inr rfl)) (hd : (x == ("__debug__" : Str)) = false := by decide) (hcd : (x == ("__classdict__" : Str)) = false := by decide)
    (hbase : attributeBase (.Name x np) name X.env (eval (.Name x np) X.env) = eval (.Name x np) X.env := by rfl)
    (hfew : ((backTo cpos (starEach (e :: es) X.env)).all (fun x => !x.1) && (backToKw cpos (keywordEach [] X.env)).all (fun x => x.1.isSome)
      && decide ((e :: es).length + ([] : List Keyword).length + (if ([] : List Keyword).isEmpty then 0 else 1) < 30)) = true := by rfl)
    (hline : (apos.endLine == cpos.line) = true := by rfl) (hs : starEach (e :: es) X.env = (false, eval e X.env) :: starEach es X.env := by rfl) (hplain : (backTo cpos (starEach es X.env)).any (·.1) = false := by rfl) :
    PD X (.Call (.Attribute (.Name x np) name apos) (e :: es) [] cpos) (xMut T j op g) := PE.to (pe_bm pa slot hty hm (pe_var hN hvis hd hcd) ha hbase hfew hline hs hplain) fun σ H Q h => by
  obtain ⟨S, ρ, rr, ρ', G, e, q⟩ := h
  obtain ⟨u, ρ1, e1, a1⟩ := bindM_some e
  obtain ⟨rs, ρ2, e2, a2⟩ := bindM_some a1
  obtain ⟨ds, ρ3, e3, a3⟩ := bindM_some a2
  obtain ⟨st, d, c1, c2, c3, rfl⟩ := chkT_some e1
  obtain ⟨a, hv, ns, tx⟩ := G.top c1 c2
  refine ⟨_, hv, by rw [← c3]; exact tx.tyV, S, _, rs, ρ2, G, e2, fun vs S1 H1 F1 G1 R1 => ?_⟩
  exact xMut_fin md ⟨G, F1, G1⟩ R1 e3 a3 hv q
theorem pd_mut0 (j : Nat) (pa : PlainAttrs T) (slot : Slot T name id) (hty : typeOf (.builtin id) = pure (.type "method_descriptor")) (hm : MtR X id r) (md : MetD X.K op r) (hN : X.N[j]? = some x := by rfl)
    (hvis : Vis X.env.scope x := by first | exact Or.inl rfl | exact Or.inr (Or.inl rfl) | exact Or.inr (Or.inr rfl)) (hd : (x == ("__debug__" : Str)) = false := by decide) (hcd : (x == ("__classdict__" : Str)) = false := by decide)
    (hbase : attributeBase (.Name x np) name X.env (eval (.Name x np) X.env) = eval (.Name x np) X.env := by rfl) (hline : (apos.endLine == cpos.line) = true := by rfl) :
    PD X (.Call (.Attribute (.Name x np) name apos) [] [] cpos) (xMut T j op aN) := PE.to (pe_bm0 pa slot hty hm (pe_var hN hvis hd hcd) hbase hline) fun σ H Q h => by
  obtain ⟨S, ρ, rr, ρ', G, e, q⟩ := h
  obtain ⟨u, ρ1, e1, a1⟩ := bindM_some e
  obtain ⟨rs, ρ2, e2, a2⟩ := bindM_some a1
  obtain ⟨ds, ρ3, e3, a3⟩ := bindM_some a2
  obtain ⟨st, d, c1, c2, c3, rfl⟩ := chkT_some e1
  cases retM_some e2
  obtain ⟨a, hv, ns, tx⟩ := G.top c1 c2
  exact ⟨_, hv, by rw [← c3]; exact tx.tyV, xMut_fin md (Now.start G) .nil e3 a3 hv q⟩
end
def mAppend : PyData → List PyData → Option (PyData × PyData)
  | .list xs, [y] => if xs.length < LIM then some (.list (xs ++ [y]), .none) else none
  | _, _ => none
def mExtend : PyData → List PyData → Option (PyData × PyData)
  | .list xs, [.list ys] => if xs.length + ys.length ≤ LIM then some (.list (xs ++ ys), .none) else none
  | _, _ => none
def mPop : PyData → List PyData → Option (PyData × PyData)
  | .list xs, [] => (xs[xs.length - 1]?).map fun y => (.list xs.dropLast, y)
  | _, _ => none
def mPopAt : PyData → List PyData → Option (PyData × PyData)
  | .list xs, [.int i] => if smallI i = true then (seqIndex? i xs.length).bind fun k => (xs[k]?).map fun y => (.list (xs.eraseIdx k), y) else none
  | _, _ => none
def mUpdate : PyData → List PyData → Option (PyData × PyData)
  | .dict kvs, [.dict more] => if kvs.length + more.length ≤ LIM then some (.dict (mergeD kvs more), .none) else none
  | _, _ => none
section
variable {X : Cx}
theorem RpL.one {K : PySem.W.Frag} {S : Addr → Prop} {H : Hp} {vs : List V} {d : PyData} (h : RpL K S H vs [d]) : ∃ v, vs = [v] ∧ Rp K S H v d := by
  cases h with
  | cons h t => cases t; exact ⟨_, rfl, h⟩
theorem uph_at {S : Addr → Prop} {H : Hp} {a : Addr} (ns : ¬ S a) (o' : HO) : Uph S H S (upd H a o') := ⟨fun _ h => h, fun b o hb e => by rw [upd_ne (show b ≠ a from fun z => ns (z ▸ hb))]; exact e⟩
theorem RpL.dropLast {K : PySem.W.Frag} {S : Addr → Prop} {H : Hp} {vs : List V} {ds : List PyData} (h : RpL K S H vs ds) : RpL K S H vs.dropLast ds.dropLast := by
  rw [List.dropLast_eq_take, List.dropLast_eq_take, h.len]
  exact h.take _
theorem md_append {K : PySem.W.Frag} : MetD K mAppend rAppend := by
  intro S H a d d' rt ds vs Q al ns t r e q
  unfold mAppend at e
  split at e
  · split at e
    · rename_i xs y hz
      cases e
      obtain ⟨ws, h1, p1⟩ := t
      obtain ⟨v, rfl, rv⟩ := r.one
      have u := uph_at (H := H) ns (.lst (ws ++ [v]))
      exact ⟨a, ws, v, rfl, rfl, h1, by rw [p1.len]; exact lim_lt hz, q _ _ ⟨_, upd_same, (p1.app (.cons rv .nil)).up u⟩ .non⟩
    · cases e
  · cases e
theorem md_extend {K : PySem.W.Frag} : MetD K mExtend rExtend := by
  intro S H a d d' rt ds vs Q al ns t r e q
  unfold mExtend at e
  split at e
  · split at e
    · rename_i xs ys hz
      cases e
      obtain ⟨ws, h1, p1⟩ := t
      obtain ⟨v, rfl, rv⟩ := r.one
      cases rv with
      | lst hs h2 p2 =>
        rename_i b zs
        have u := uph_at (H := H) ns (.lst (ws ++ zs))
        exact ⟨a, b, ws, zs, rfl, rfl, h1, h2, by rw [p1.len, p2.len]; exact lim_line hz, q _ _ ⟨_, upd_same, (p1.app p2).up u⟩ .non⟩
    · cases e
  · cases e
theorem md_pop {K : PySem.W.Frag} : MetD K mPop rPop := by
  intro S H a d d' rt ds vs Q al ns t r e q
  unfold mPop at e
  split at e
  · obtain ⟨y, hy, e1⟩ := Option.map_eq_some_iff.mp e
    cases e1
    obtain ⟨ws, h1, p1⟩ := t
    cases r
    obtain ⟨v, hv, rv⟩ := p1.get hy
    have u := uph_at (H := H) ns (.lst ws.dropLast)
    exact ⟨a, ws, v, rfl, rfl, h1, by rw [p1.len]; exact hv, q _ _ ⟨_, upd_same, (p1.dropLast).up u⟩ (rv.up u)⟩
  · cases e
theorem md_popAt {K : PySem.W.Frag} : MetD K mPopAt rPopAt := by
  intro S H a d d' rt ds vs Q al ns t r e q
  unfold mPopAt at e
  split at e
  · split at e
    · rename_i hi
      obtain ⟨k, hk, e1⟩ := Option.bind_eq_some_iff.mp e
      obtain ⟨y, hy, e2⟩ := Option.map_eq_some_iff.mp e1
      cases e2
      obtain ⟨ws, h1, p1⟩ := t
      obtain ⟨w, rfl, rw'⟩ := r.one
      cases rw'
      obtain ⟨v, hv, rv⟩ := p1.get hy
      have hi' := of_decide_eq_true hi
      have u := uph_at (H := H) ns (.lst (ws.eraseIdx k))
      exact ⟨a, ws, _, k, v, rfl, rfl, h1, by omega, by omega, by rw [p1.len]; exact hk, hv, q _ _ ⟨_, upd_same, (p1.erase k).up u⟩ (rv.up u)⟩
    · cases e
  · cases e
/-- d.update(e), another dict -/
def rUpdate : V → List V → Hp → VK → Prop := fun x vs H Q => ∃ a b kvs more, x = .ref a ∧ vs = [.ref b] ∧ a ≠ b ∧ H a = some (.dK kvs) ∧ Rd H b (.dK more) ∧ kvs.length + more.length ≤ sizeLine ∧ Q .non (upd H a (.dK (mergeK kvs more)))
theorem mt_update : MtR X "dict.update" rUpdate := by
  intro pins s σ H x vs v us Q I rx rv h
  obtain ⟨a, b, kvs, more, rfl, rfl, hne, ha, hb, hz, q⟩ := h
  cases rx
  obtain ⟨w, rfl, rw'⟩ := rv.one
  cases rw'
  obtain ⟨z, hd, va, rel, dd⟩ := dk_of I.hok ha
  obtain ⟨z2, hd2, vb, rel2, dd2⟩ := dk_rd I.hok hb
  have hl : va.length + vb.length ≤ sizeLine := by rw [← rel.length, ← rel2.length]; exact hz
  refine call_meetsIn PySem.F.slot_dict_update dd.typeIs PySem.F.entry_dict_update (PySem.F.args_dict_update_2 _ _) (meets_dict_update (mixKind X.prog X.w) a b hne hd2) ⟨va, vb, dd, dd2, hl, fun h' dd' _ hs => ?_⟩
  have he : ∃ q, h'.get? a = some q := let ⟨q, _, _, hq, _⟩ := dd'; ⟨q, hq⟩
  have hm : (mergeK kvs more).length ≤ sizeLine := Nat.le_trans (length_mergeK more kvs) hz
  exact ⟨.non, _, d_write (t' := s.toks) I (by rw [ha]; exact True.intro) hs he (dk_new hm hd (KV.merge rel2 rel) dd'), rfl, q⟩
theorem md_update {K : PySem.W.Frag} : MetD K mUpdate rUpdate := by
  intro S H a d d' rt ds vs Q al ns t r e q
  unfold mUpdate at e
  split at e
  · split at e
    · rename_i kvs more hz
      cases e
      obtain ⟨ts, h1, p1, p2⟩ := t
      obtain ⟨v, rfl, rv⟩ := r.one
      cases rv with
      | dct hs h2 k2 r2 =>
        rename_i b us
        have kv1 : KvR K S H ts kvs := ⟨p1, p2⟩
        have kv2 : KvR K S H us more := ⟨k2, r2⟩
        have m := KvR.merge kv2 kv1
        have u := uph_at (H := H) ns (.dK (mergeK ts us))
        exact ⟨a, b, ts, us, rfl, rfl, fun z => ns (z ▸ hs), h1, h2, by rw [← kv1.len, ← kv2.len]; exact lim_line hz, q _ _ ⟨_, upd_same, m.1, m.2.up u⟩ .non⟩
    · cases e
  · cases e
end

/-! ### d.get -/
def isDct : PyData → Bool
  | .dict _ => true | _ => false
def getK (o k : PyData) : Option (Option PyData) := match o with
  | .dict kvs => (keyOf? k).map fun k => lookD (keyD k) kvs
  | _ => none
/-- d.get(k, x) -/
def xGet2 (f fk fx : Mo Rs) : Mo Rs := bindM f fun r => bindM (rdR r) fun o0 => if isDct o0 = true then bindM fk fun rk => bindM fx fun rx => bindM (rdR rk) fun k => bindM (rdR r) fun o => bindM (keepR rx) fun x => bindM (optM (getK o k)) fun y => retM (.kept (y.getD x)) else fun _ => none
/-- d.get(k) -/
def xGet1 (f fk : Mo Rs) : Mo Rs := bindM f fun r => bindM (rdR r) fun o0 => if isDct o0 = true then bindM fk fun rk => bindM (rdR rk) fun k => bindM (rdR r) fun o => bindM (optM (getK o k)) fun y => retM (.kept (y.getD .none)) else fun _ => none
theorem Rdb.more {K : PySem.W.Frag} {S S' : Addr → Prop} {H : Hp} {v : V} {d : PyData} (sh : ∀ b, S b → S' b) (r : Rdb K S H v d) : Rdb K S' H v d := by
  have u : Uph S H S' H := ⟨sh, fun _ _ _ h => h⟩
  rcases r with r | ⟨a, e, r⟩
  · exact .inl (Rp.up u r)
  · exact .inr ⟨a, e, TopR.up u (fun _ e => e) r⟩
theorem Rdb.isD {K : PySem.W.Frag} {S : Addr → Prop} {H : Hp} {v : V} {d : PyData} (r : Rdb K S H v d) (h : isDct d = true) : ∃ a, v = .ref a ∧ IsD H a := by
  cases d with
  | dict kvs => obtain ⟨a, ts, rfl, h1, _⟩ := r.dct; exact ⟨a, rfl, .inl ⟨ts, h1⟩⟩
  | _ => cases h
theorem getK_run {K : PySem.W.Frag} {S : Addr → Prop} {H : Hp} {v w : V} {o k : PyData} {y : Option PyData} (r : Rdb K S H v o) (rk : Rdb K S H w k) (e : getK o k = some y) : ∃ a z, v = .ref a ∧ DGet H a w z ∧ ((z = none ∧ y = none) ∨ ∃ zv yd, z = some zv ∧ y = some yd ∧ Rp K S H zv yd) := by
  unfold getK at e
  split at e
  · obtain ⟨kk, hk, rfl⟩ := Option.map_eq_some_iff.mp e
    obtain ⟨a, ts, rfl, h1, p1, p2⟩ := r.dct
    obtain rfl := rk.key hk
    refine ⟨a, _, rfl, DGet.of h1, ?_⟩
    rcases look_of kk p1 p2 with ⟨n1, n2⟩ | ⟨w, d', n1, n2, n3⟩
    · exact .inl ⟨n1, n2⟩
    · exact .inr ⟨w, d', n1, n2, n3⟩
  · cases e
section
variable {X : Cx} {o e f : Expr} {fo fk fx : Mo Rs} {apos cpos : Pos}
theorem pd_get2 (hu : X.A.units + 64 < cLine) (ho : PD X o fo) (he : PD X e fk) (hf : PD X f fx) (m : M2 X o "get" apos e f cpos) : PD X (.Call (.Attribute o "get" apos) [e, f] [] cpos) (xGet2 fo fk fx) := PE.to (pe_dget2 (by omega) ho he hf m) fun σ H Q h => by
  obtain ⟨S, ρ, r, ρ', G, e, q⟩ := h
  obtain ⟨r0, ρ1, e1, a1⟩ := bindM_some e
  obtain ⟨o0, ρ2, e2, a2⟩ := bindM_some a1
  obtain rfl := rdR_same e2
  split at a2
  · rename_i hd
    obtain ⟨rk, ρ3, e3, a3⟩ := bindM_some a2
    obtain ⟨rx, ρ4, e4, a4⟩ := bindM_some a3
    obtain ⟨k, ρ5, e5, a5⟩ := bindM_some a4
    obtain ⟨o1, ρ6, e6, a6⟩ := bindM_some a5
    obtain ⟨x, ρ7, e7, a7⟩ := bindM_some a6
    obtain ⟨y, ρ8, e8, a8⟩ := bindM_some a7
    cases retM_some a8
    obtain rfl := rdR_same e5
    obtain rfl := rdR_same e6
    obtain ⟨b1, b2⟩ := optM_some e8
    simp only at b1 b2
    subst b2
    refine ⟨S, ρ, r0, _, G, e1, fun v S1 H1 F1 G1 R1 => ?_⟩
    obtain ⟨a, rfl, hD⟩ := ((R1.rd G1 e2).1).isD hd
    refine ⟨a, rfl, hD, S1, _, rk, ρ3, G1, e3, fun w S2 H2 F2 G2 R2 => ⟨S2, ρ3, rx, _, G2, e4, fun z S3 H3 F3 G3 R3 => ?_⟩⟩
    have n1 : Now X.K σ S ρ H S1 _ H1 := ⟨G, F1, G1⟩
    have n2 := n1.step F2 G2
    have n3 := n2.step F3 G3
    obtain ⟨S4, n4, p4, sh4⟩ := (R3.pre n2).w.keep n3 e7
    obtain ⟨rdk, _⟩ := ((R2.pre n1).fm n2 F3).rd G3 e5
    obtain ⟨rdo, _⟩ := ((R1.fm n1 F2).fm n2 F3).rd G3 e6
    obtain ⟨b, zz, hb, dg, hz⟩ := getK_run (rdo.more sh4) (rdk.more sh4) b1
    cases hb
    refine ⟨zz, dg, q _ S4 H3 n4.f n4.g ?_⟩
    rcases hz with ⟨rfl, rfl⟩ | ⟨zv, yd, rfl, rfl, hr⟩
    · exact p4
    · exact hr
  · cases a2
theorem pd_get1 (hu : X.A.units + 64 < cLine) (ho : PD X o fo) (he : PD X e fk) (m : M1 X o "get" apos e cpos) : PD X (.Call (.Attribute o "get" apos) [e] [] cpos) (xGet1 fo fk) := PE.to (pe_dget1 (by omega) ho he m) fun σ H Q h => by
  obtain ⟨S, ρ, r, ρ', G, e, q⟩ := h
  obtain ⟨r0, ρ1, e1, a1⟩ := bindM_some e
  obtain ⟨o0, ρ2, e2, a2⟩ := bindM_some a1
  obtain rfl := rdR_same e2
  split at a2
  · rename_i hd
    obtain ⟨rk, ρ3, e3, a3⟩ := bindM_some a2
    obtain ⟨k, ρ5, e5, a5⟩ := bindM_some a3
    obtain ⟨o1, ρ6, e6, a6⟩ := bindM_some a5
    obtain ⟨y, ρ8, e8, a8⟩ := bindM_some a6
    cases retM_some a8
    obtain rfl := rdR_same e5
    obtain rfl := rdR_same e6
    obtain ⟨b1, b2⟩ := optM_some e8
    simp only at b1 b2
    subst b2
    refine ⟨S, ρ, r0, _, G, e1, fun v S1 H1 F1 G1 R1 => ?_⟩
    obtain ⟨a, rfl, hD⟩ := ((R1.rd G1 e2).1).isD hd
    refine ⟨a, rfl, hD, S1, _, rk, _, G1, e3, fun w S2 H2 F2 G2 R2 => ?_⟩
    have n1 : Now X.K σ S ρ H S1 _ H1 := ⟨G, F1, G1⟩
    have n2 := n1.step F2 G2
    obtain ⟨rdk, _⟩ := (R2.pre n1).rd G2 e5
    obtain ⟨rdo, _⟩ := (R1.fm n1 F2).rd G2 e6
    obtain ⟨b, zz, hb, dg, hz⟩ := getK_run rdo rdk b1
    cases hb
    refine ⟨zz, dg, q _ S2 H2 n2.f n2.g ?_⟩
    rcases hz with ⟨rfl, rfl⟩ | ⟨zv, yd, rfl, rfl, hr⟩
    · exact .non
    · exact hr
  · cases a2
end

/-! ### t[::-1] of a tuple, l[::-1] of a list -/
theorem adj_rev (n : Nat) : Builtin.Slice.sliceAdjust none none (-1) (n : Int) = ((n : Int) - 1, -1) := by
  unfold Builtin.Slice.sliceAdjust
  simp
theorem places_rev (n : Nat) : Builtin.Slice.slicePlaces ((n : Int) - 1) (-1) (-1) = n := by
  unfold Builtin.Slice.slicePlaces
  simp
  split <;> omega
theorem fm_map {α β : Type} (f : α → Option β) (g : α → β) : ∀ l : List α, (∀ m ∈ l, f m = some (g m)) → l.filterMap f = l.map g
  | [], _ => rfl
  | x :: r, h => by
    rw [List.filterMap_cons, h x List.mem_cons_self, List.map_cons, fm_map f g r fun m hm => h m (List.mem_cons_of_mem _ hm)]
theorem pick_rev : ∀ (xs : Array Value), ((List.range xs.size).filterMap fun (m : Nat) => xs[(((xs.size : Int) - 1) + (m : Int) * (-1)).toNat]?) = xs.toList.reverse := by
  intro xs
  apply List.ext_getElem?
  intro i
  have all : ∀ m ∈ List.range xs.size, xs[(((xs.size : Int) - 1) + (m : Int) * (-1)).toNat]? = some (xs.toList.reverse.getD m .none) := by
    intro m hm
    have hm' : m < xs.size := List.mem_range.mp hm
    have e : (((xs.size : Int) - 1) + (m : Int) * (-1)).toNat = xs.size - 1 - m := by omega
    rw [e, ← Array.getElem?_toList, List.getD_eq_getElem?_getD, List.getElem?_reverse (by simpa using hm'), Array.length_toList]
    rw [List.getElem?_eq_getElem (by rw [Array.length_toList]; omega)]
    rfl
  have e2 : ((List.range xs.size).filterMap fun (m : Nat) => xs[(((xs.size : Int) - 1) + (m : Int) * (-1)).toNat]?) = (List.range xs.size).map fun m => xs.toList.reverse.getD m .none := by
    exact fm_map _ _ _ all
  rw [e2, List.getElem?_map]
  by_cases hi : i < xs.size
  · rw [List.getElem?_range hi, List.getElem?_eq_getElem (by simpa using hi)]
    simp [List.getD_eq_getElem?_getD, hi]
  · rw [List.getElem?_eq_none (by simpa using hi), List.getElem?_eq_none (by simpa using hi)]
    rfl
section
open PySem.SeqAt PySem.MeetsSeq PyProof.Rows
variable {prog : Program} {w : World} {A : Around} {E : Value → Shared → Prop} {s : Shared}
theorem sapp_rev {sl : Addr} {vl vu vt : Value} {n : Nat} {Q : Int × Int × Nat → Shared → Prop} (hs : s.heap.IsSliceOf sl vl vu vt) (pl : IsPart vl none) (pu : IsPart vu none) (pt : IsPart vt (some (-1))) (h : Q ((n : Int) - 1, -1, n) s) : wpAny (model prog w) A (Builtin.Slice.sliceApplied (.ref sl) (pure (n : Int))) Q E s := by
  obtain ⟨os, g1, g2, g3⟩ := id hs
  unfold Builtin.Slice.sliceApplied Builtin.Slice.sliceFields
  refine wpAny_bind (wpAny_bind (wpAny_field g1 g3 (x := vl) rfl (wpAny_bind (wpAny_field g1 g3 (x := vu) rfl (wpAny_bind (wpAny_field g1 g3 (x := vt) rfl (wpAny_pure ?_)))))))
  refine wpAny_bind (HT.slicePart_ pt ?_)
  show wpAny _ _ (if (((-1) : Int) == 0) = true then _ else _) _ _ s
  rw [if_neg (by decide)]
  refine wpAny_bind (HT.slicePart_ pl (wpAny_bind (HT.slicePart_ pu (wpAny_bind (wpAny_pure ?_)))))
  show wpAny _ _ (match Builtin.Slice.sliceAdjust none none (-1) (n : Int) with | (lo, hi) => pure (lo, (-1 : Int), Builtin.Slice.slicePlaces lo hi (-1))) _ _ s
  rw [adj_rev n]
  show wpAny _ _ (pure ((n : Int) - 1, (-1 : Int), Builtin.Slice.slicePlaces ((n : Int) - 1) (-1) (-1))) _ _ s
  rw [places_rev]
  exact wpAny_pure h
theorem item_rev {t sl : Addr} {items : Array Value} {vl vu vt : Value} {Q : Value → Shared → Prop} (ht : IsTup s.heap t items) (hs : s.heap.IsSliceOf sl vl vu vt) (pl : IsPart vl none) (pu : IsPart vu none) (pt : IsPart vt (some (-1))) (hsz : items.size ≤ sizeLine)
    (h : Q (.ref s.heap.objs.size) { s with heap := s.heap.push { cls := .type "tuple", data := .seq items.toList.reverse.toArray } }) : wpAny (model prog w) A (getItem (.ref t) (.ref sl)) Q E s := by
  have ok : sizeOk (.seq items.toList.reverse.toArray) := by
    show items.toList.reverse.toArray.size ≤ sizeLine
    simpa using hsz
  obtain ⟨os, g1, g2, g3⟩ := id hs
  have hT : s.TypeIs (.ref sl) "slice" := ⟨os, g1, g2⟩
  unfold getItem
  try with_reducible refine wpAny_holding ?_
  first | refine wpAny_bind (wpAny_pure ?_) | skip
  refine wpAny_bind (wpAny_sequenceKey ht.typeIs (by decide) ?_)
  refine wpAny_bind (wpAny_callSpecial?_slot (name := Str.ofString "__getitem__") ht.typeIs PyProof.Rows.slot_tuple_getitem (wpAny_call_entry PyProof.Rows.slot_tuple_getitem ht.typeIs entry_tuple_getitem ?_ (args_tuple_getitem _ _)))
  show wpAny _ _ (Builtin.Tuple.tupleItemsOf (.ref t) >>= _) _ _ s
  refine wpAny_bind (tupleItemsOf_ ht (wpAny_bind (wpAny_typeOf hT ?_)))
  rw [if_pos (by decide)]
  refine wpAny_bind (sapp_rev hs pl pu pt ?_)
  have hno : ¬ (((((items.size : Nat) : Int) - 1) == 0 && ((-1) : Int) == 1 && items.size == items.size) = true) := by
    simp
  show wpAny _ _ (if ((((items.size : Nat) : Int) - 1) == 0 && ((-1) : Int) == 1 && items.size == items.size) = true then _ else _) _ _ s
  rw [if_neg hno, pick_rev]
  first
    | exact wpAny_bind (m := Builtin.Tuple.tupleExact _) (wpAny_newObj_type (wpAny_pure ⟨_, rfl, wpAny_pure h⟩) ok)
    | exact wpAny_bind (wpAny_bind (m := Builtin.Tuple.tupleExact _) (wpAny_newObj_type (wpAny_pure (wpAny_pure ⟨_, rfl, wpAny_pure h⟩)) ok))
    | exact wpAny_bind (m := Builtin.Tuple.tupleExact _) (wpAny_newObj_type (wpAny_bind (wpAny_pure (wpAny_pure ⟨_, rfl, wpAny_pure h⟩))) ok)
    | exact wpAny_bind (wpAny_bind (m := Builtin.Tuple.tupleExact _) (wpAny_newObj_type (wpAny_pure ⟨_, rfl, wpAny_pure h⟩) ok))
end
def tRevA (K : PySem.W.Frag) (te : TE) : TE := fun σ H Q => te σ H fun x H1 => ∃ a xs, x = .ref a ∧ ((H1 a = some (.lst xs) ∧ ∀ p, H1 p = none → Q (.ref p) (upd H1 p (.lst xs.reverse))) ∨ (SqT K H1 a xs ∧ ∀ p, H1 p = none → Q (.ref p) (upd H1 p (.tup xs.reverse))))
section
variable {X : Cx} {e : Expr} {te : TE} {f : Mo Rs} {k : Nat} {p1 p2 p3 pos : Pos}
theorem pe_revT (he : PE X e te) : PE X (.Subscript e (.Slice none none (some (.UnaryOp .USub (.Constant (.int 1) k p1) p2)) p3) pos) (tRevA X.K te) := by
  refine ⟨fun pins s σ H Q I h => ?_⟩
  refine PyProof.Rows.Subscript_ (thn (he.run pins s σ H _ I h) fun v s1 ⟨x, H1, I1, r1, a, xs, ex, q⟩ => ?_)
  subst ex
  cases r1
  have step : PO X (some (.UnaryOp .USub (.Constant (.int 1) k p1) p2)) (tPart (tUn (rU fun i => .int (-i)) (tC (.int 1)))) := po_some (pe_un un_neg pe_int)
  refine wpAny_Slice (thn (po_none.run pins s1 σ H1 (fun o H2 => o = none ∧ H2 = H1) I1 ⟨rfl, rfl⟩) fun vl s2 ⟨l, H2, I2, pl, el, e2⟩ => ?_)
  subst el e2
  refine thn (po_none.run pins s2 σ H2 (fun o H3 => o = none ∧ H3 = H2) I2 ⟨rfl, rfl⟩) fun vu s3 ⟨u, H3, I3, pu, eu, e3⟩ => ?_
  subst eu e3
  refine thn (step.run pins s3 σ H3 (fun o H4 => o = some (-1) ∧ H4 = H3) I3 ⟨1, rfl, -1, rfl, rfl, rfl⟩) fun vt s4 ⟨o, H4, I4, pt, eo, e4⟩ => ?_
  subst eo e4
  have I5 : Inv X pins σ H4 { s4 with heap := s4.heap.push { cls := .type "slice", data := .fields #[vl, vu, vt] } } := I4.kept (t' := s4.toks) fun b ob z => Heap.get?_push_of_some _ z
  show wpAny (model X.prog X.w) X.A (PyProof.Rows.subscriptTail e (.Slice none none (some (.UnaryOp .USub (.Constant (.int 1) k p1) p2)) p3) (.ref a) (.ref s4.heap.objs.size)) (EP X pins σ Q) X.xe { s4 with heap := s4.heap.push { cls := .type "slice", data := .fields #[vl, vu, vt] } }
  rcases q with ⟨hx, q⟩ | ⟨hx, q⟩
  · obtain ⟨its, r, ht, hz⟩ := I5.list (SqL.of hx)
    have hlen := r.length
    refine PyProof.Rows.tail_any (ops := [.ref a, .ref s4.heap.objs.size]) ht.isList.typeIs (PySem.slot_list_getitem.lookup) ?_ (by with_unfolding_all rfl)
    refine wpAny_getItem_list_slice ht.isList (Heap.IsSliceOf.new _ vl vu vt) pl pu pt (by decide) ?_ (by rw [List.size_toArray]; omega)
    rw [PySem.W.krv_pick]
    exact ⟨.ref _, _, I5.laid (t' := s4.toks) (o := .lst xs.reverse) (fun b ob z => Heap.get?_push_of_some _ z) (Nat.le_refl _) ⟨by rw [List.length_reverse]; exact hz, _, 0, r.reverse, Heap.get?_push_size _ rfl⟩, rfl, q _ (I5.hok.fresh (Nat.le_refl _))⟩
  · obtain ⟨its, r, ht, hz⟩ := I5.tuple hx
    have hlen := r.length
    refine PyProof.Rows.tail_any (ops := [.ref a, .ref s4.heap.objs.size]) ht.typeIs PyProof.Rows.slot_tuple_getitem.lookup ?_ (by with_unfolding_all rfl)
    refine item_rev ht (Heap.IsSliceOf.new _ vl vu vt) pl pu pt (by rw [List.size_toArray]; omega) ?_
    exact ⟨.ref _, _, I5.laid (t' := s4.toks) (o := .tup xs.reverse) (fun b ob z => Heap.get?_push_of_some _ z) (Nat.le_refl _) (show ObjOk X.prog X.w _ _ _ (.tup xs.reverse) from ⟨by rw [List.length_reverse]; exact hz, _, r.reverse, PyProof.Rows.IsTup.new _ _⟩), rfl, q _ (I5.hok.fresh (Nat.le_refl _))⟩
def opRev : PyData → Option PyData
  | .list ds => some (.list ds.reverse)
  | .tuple ds => some (.tuple ds.reverse)
  | _ => none
theorem pd_rev (he : PD X e f) : PD X (.Subscript e (.Slice none none (some (.UnaryOp .USub (.Constant (.int 1) k p1) p2)) p3) pos) (x1 opRev f) := PE.to (pe_revT he) fun σ H Q h => by
  obtain ⟨S, ρ, r, ρ', G, e, q⟩ := h
  obtain ⟨r1, ρ1, e1, e2⟩ := bindM_some e
  obtain ⟨d, ρ2, e3, e4⟩ := bindM_some e2
  obtain ⟨d', ρ3, e5, e6⟩ := bindM_some e4
  obtain ⟨b1, b2⟩ := optM_some e5
  simp only at b1 b2
  cases retM_some e6
  refine ⟨S, ρ, r1, ρ1, G, e1, fun v S1 H1 F1 G1 R1 => ?_⟩
  obtain ⟨rd, rfl⟩ := R1.rd G1 e3
  subst b2
  have n1 : Now X.K σ S ρ H S1 _ H1 := ⟨G, F1, G1⟩
  unfold opRev at b1
  split at b1
  · cases b1
    obtain ⟨a, vs, rfl, h1, p1⟩ := rd.lst
    exact ⟨a, vs, rfl, .inl ⟨h1, fun p hp => q _ S1 _ (n1.grow (Gw.lay G1.al hp)).f (n1.grow (Gw.lay G1.al hp)).g (lay_lst G1.al p1.rev hp (n1.none0 hp))⟩⟩
  · cases b1
    obtain ⟨a, vs, rfl, h1, p1⟩ := rd.tup
    exact ⟨a, vs, rfl, .inr ⟨h1.sq, fun p hp => q _ _ _ (n1.grow (Gw.layS G1.al hp)).f (n1.grow (Gw.layS G1.al hp)).g (lay_tup G1.al p1.rev hp)⟩⟩
  · cases b1
end
end PyI

/-! PyI, part K: dicts walked: they are locked meanwhile. -/
namespace PyI
open PySem PySem.Spec L2

/-! ### the dict at d, locked or not -/
structure Tw (d : Addr) (ts : List (Key × V)) (H H' : Hp) : Prop where
  ne : ∀ a, a ≠ d → H' a = H a
  h1 : Rd H d (.dK ts)
  h2 : Rd H' d (.dK ts)
theorem rd_inj {H : Hp} {d : Addr} {ts us : List (Key × V)} (h : Rd H d (.dK ts)) (k : Rd H d (.dK us)) : us = ts := by
  rcases h with h | ⟨o, h⟩ <;> rcases k with k | ⟨o', k⟩ <;> (rw [h] at k; cases k; try rfl)
theorem rd_not {H : Hp} {d : Addr} {ts : List (Key × V)} {u : HO} (h : Rd H d (.dK ts)) (k : H d = some u) : u = .dK ts ∨ ∃ o, u = .frz o (.dK ts) := by
  rcases h with h | ⟨o, h⟩
  · rw [h] at k; cases k; exact .inl rfl
  · rw [h] at k; cases k; exact .inr ⟨o, rfl⟩
section
variable {K : PySem.W.Frag} {S S' : Addr → Prop} {ρ ρ' : Rho} {σ σ' : L2.St} {H H' : Hp} {d a : Addr} {ts : List (Key × V)} {v : V} {x : PyData}
theorem Tw.other {u : HO} (t : Tw d ts H H') (h : H a = some u) (h1 : u ≠ .dK ts) (h2 : ∀ o, u ≠ .frz o (.dK ts)) : a ≠ d := by
  rintro rfl
  rcases rd_not t.h1 h with e | ⟨o, e⟩
  · exact h1 e
  · exact h2 o e
theorem Tw.at' {u : HO} (t : Tw d ts H H') (h : H a = some u) (h1 : u ≠ .dK ts) (h2 : ∀ o, u ≠ .frz o (.dK ts)) : H' a = some u := by rw [t.ne a (t.other h h1 h2)]; exact h
theorem Tw.rd {us : List (Key × V)} (t : Tw d ts H H') (h : Rd H a (.dK us)) : Rd H' a (.dK us) := by
  by_cases e : a = d
  · subst e
    rw [rd_inj t.h1 h]; exact t.h2
  · rcases h with h | ⟨o, h⟩
    · exact .inl (by rw [t.ne a e]; exact h)
    · exact .inr ⟨o, by rw [t.ne a e]; exact h⟩
theorem Tw.stup {vs : List V} (t : Tw d ts H H') (h : STup K S H a vs) : STup K S H' a vs := by
  rcases h with ⟨h1, h2⟩ | h
  · exact .inl ⟨h1, t.at' h2 (by simp) (by simp)⟩
  · exact .inr h
mutual
theorem Rp.tw (t : Tw d ts H H') : ∀ {v : V} {x : PyData}, Rp K S H v x → Rp K S H' v x
  | _, _, .non => .non
  | _, _, .bl b => .bl b
  | _, _, .int i => .int i
  | _, _, .str x => .str x
  | _, _, .tup h r => .tup (t.stup h) (RpL.tw t r)
  | _, _, .lst hs h r => .lst hs (t.at' h (by simp) (by simp)) (RpL.tw t r)
  | _, _, .dct hs h k r => .dct hs (t.rd h) k (RpL.tw t r)
theorem RpL.tw (t : Tw d ts H H') : ∀ {vs : List V} {ds : List PyData}, RpL K S H vs ds → RpL K S H' vs ds
  | _, _, .nil => .nil
  | _, _, .cons h r => .cons (Rp.tw t h) (RpL.tw t r)
end
theorem TopX.tw (t : Tw d ts H H') (ne : a ≠ d) (h : TopX K S H a x) : TopX K S H' a x := by
  cases x with
  | list ds => obtain ⟨vs, h1, h2⟩ := h; exact ⟨vs, by rw [t.ne a ne]; exact h1, h2.tw t⟩
  | dict kvs => obtain ⟨us, h1, h2, h3⟩ := h; exact ⟨us, by rw [t.ne a ne]; exact h1, h2, h3.tw t⟩
  | _ => exact h.elim
theorem TopR.tw (t : Tw d ts H H') (h : TopR K S H a x) : TopR K S H' a x := by
  cases x with
  | list ds => obtain ⟨vs, h1, h2⟩ := h; exact ⟨vs, t.at' h1 (by simp) (by simp), h2.tw t⟩
  | dict kvs => obtain ⟨us, h1, h2, h3⟩ := h; exact ⟨us, t.rd h1, h2, h3.tw t⟩
  | _ => exact h.elim
theorem Tw.there (t : Tw d ts H H') (h : H a ≠ none) : H' a ≠ none := by
  by_cases e : a = d
  · subst e
    rcases t.h2 with q | ⟨o, q⟩ <;> rw [q] <;> simp
  · rw [t.ne a e]; exact h
theorem Tw.back (t : Tw d ts H H') : Tw d ts H' H := ⟨fun a h => (t.ne a h).symm, t.h2, t.h1⟩
theorem Tw.gone (t : Tw d ts H H') (h : H' a = none) : H a = none := by
  cases e : H a with
  | none => rfl
  | some o => exact absurd h (t.there (by rw [e]; simp))
theorem Gd.tw (t : Tw d ts H H') (nm : ¬ Mu ρ σ d) (g : Gd K S ρ σ H) : Gd K S ρ σ H' := by
  refine ⟨g.len, fun i st x h => ?_, g.ne, fun a h => t.there (g.al a h)⟩
  obtain ⟨v, h1, h2⟩ := g.sl i st x h
  refine ⟨v, h1, ?_⟩
  cases st with
  | shr => exact Rp.tw t h2
  | own => obtain ⟨a, rfl, ns, q⟩ := h2; exact ⟨a, rfl, ns, TopX.tw t (fun z => nm (z ▸ ⟨i, .own, x, h, rfl, h1⟩)) q⟩
  | lent => obtain ⟨a, rfl, ns, q⟩ := h2; exact ⟨a, rfl, ns, TopX.tw t (fun z => nm (z ▸ ⟨i, .lent, x, h, rfl, h1⟩)) q⟩
  | bor => obtain ⟨a, rfl, ns, q⟩ := h2; exact ⟨a, rfl, ns, TopR.tw t q⟩
  | scr =>
    obtain ⟨a, ns, rfl, e1, k⟩ := h2
    exact ⟨a, ns, rfl, e1, KLst.keep (fun o e => t.at' e (by simp) (by simp)) k⟩
theorem RR.tw {H0 : Hp} {r : Rs} (t : Tw d ts H H') (h0 : H0 d ≠ none) (h : RR K H0 S H ρ σ v r) : RR K H0 S H' ρ σ v r := by
  cases r with
  | kept x => exact Rp.tw t h
  | fresh x => obtain ⟨a, rfl, e, ns, q⟩ := h; exact ⟨a, rfl, e, ns, TopX.tw t (fun z => h0 (z ▸ e)) q⟩
  | slot i => exact h
/-- under the lock, and behind it -/
theorem Fs.unlock {od : Obj} (h0 : H d = some (.dK ts)) (f : Fs S ρ σ (upd H d (.frz od (.dK ts))) S' ρ' σ' H') : Fs S ρ σ H S' ρ' σ' (upd H' d (.dK ts)) := by
  have non : ∀ a, (upd H d (.frz od (.dK ts))) a = none → H a = none := fun a e => by
    by_cases z : a = d
    · rw [z, upd_same] at e; cases e
    · rw [upd_ne z] at e; exact e
  refine ⟨fun a h => ?_, fun a o e nm => ?_, f.sh, fun a h => ?_, fun i x a h1 h2 => (f.own i x a h1 h2).imp_left (non a), f.lent, f.len⟩
  · by_cases z : a = d
    · rw [z, upd_same]; simp
    · rw [upd_ne z]; exact f.dom a (by rw [upd_ne z]; exact h)
  · by_cases z : a = d
    · subst z
      rw [h0] at e; cases e
      exact upd_same
    · rw [upd_ne z]; exact f.keep a o (by rw [upd_ne z]; exact e) nm
  · rcases f.new a h with z | z | z
    · exact .inl z
    · exact .inr (.inl z)
    · exact .inr (.inr (non a z))
theorem Fm.unlock {od : Obj} (h0 : H d = some (.dK ts)) (f : Fm S ρ σ (upd H d (.frz od (.dK ts))) S' ρ' H') : Fm S ρ σ H S' ρ' (upd H' d (.dK ts)) := by
  have q := f.fs.unlock h0
  exact ⟨q.dom, q.keep, q.sh, q.new, f.len, f.non, f.sts⟩
theorem tw_lock {od : Obj} (h0 : H d = some (.dK ts)) : Tw d ts H (upd H d (.frz od (.dK ts))) := ⟨fun a h => upd_ne h, .inl h0, .inr ⟨od, upd_same⟩⟩
theorem tw_unlock {od : Obj} (h0 : H d = some (.frz od (.dK ts))) : Tw d ts H (upd H d (.dK ts)) := ⟨fun a h => upd_ne h, .inr ⟨od, h0⟩, .inl upd_same⟩
end

/-! ### what is walked -/
inductive Wm | keys | vals | itms
def selD : Wm → List (PyData × PyData) → List PyData
  | .keys, kvs => kvs.map (·.1)
  | .vals, kvs => kvs.map (·.2)
  | .itms, kvs => kvs.map fun p => .tuple [p.1, p.2]
def iDict (m : Wm) (i : Nat) : Mo (List PyData) := fun ρ => match ρ[i]? with
  | some (some (.shr, .dict kvs)) => some (selD m kvs, ρ)
  | some (some (.bor, .dict kvs)) => some (selD m kvs, ρ)
  | some (some (.own, .dict kvs)) => some (selD m kvs, ρ.set i (some (.shr, .dict kvs)))
  | _ => none
def wiD (m : Wm) (i : Nat) : TI := match m with
  | .keys => iKeys (tVar i)
  | .vals => iVals (tVar i)
  | .itms => iItems (tVar i)
section
variable {K : PySem.W.Frag} {S S' : Addr → Prop} {ρ ρ' ρ1 : Rho} {σ σ' : L2.St} {H H' : Hp} {d a : Addr} {ts : List (Key × V)} {v : V} {m : Wm} {i : Nat} {ds : List PyData}
theorem KvR.get : ∀ {ts : List (Key × V)} {kvs : List (PyData × PyData)} {n : Nat} {k : Key} {v : V}, KvR K S H ts kvs → ts[n]? = some (k, v) → ∃ x, kvs[n]? = some (keyD k, x) ∧ Rp K S H v x
  | [], _, n, k, v, _, e => by simp at e
  | _ :: _, [], _, _, _, h, _ => by have := h.len; simp at this
  | p :: ts, q :: kvs, 0, k, v, h, e => by
    obtain ⟨a, b, c⟩ := h.cons_inv
    simp at e
    subst e
    exact ⟨q.2, by rw [← a]; rfl, b⟩
  | p :: ts, q :: kvs, n + 1, k, v, h, e => by
    obtain ⟨a, b, c⟩ := h.cons_inv
    rw [List.getElem?_cons_succ] at e ⊢
    exact KvR.get c e
theorem iDict_some (e : iDict m i ρ = some (ds, ρ1)) : ∃ kvs, ds = selD m kvs ∧ iDict m i ρ1 = some (ds, ρ1) ∧ ((ρ1 = ρ ∧ (ρ[i]? = some (some (.shr, .dict kvs)) ∨ ρ[i]? = some (some (.bor, .dict kvs)))) ∨ (ρ[i]? = some (some (.own, .dict kvs)) ∧ ρ1 = ρ.set i (some (.shr, .dict kvs)))) := by
  have e0 := e
  unfold iDict at e
  split at e
  · cases e; exact ⟨_, rfl, e0, .inl ⟨rfl, .inl ‹_›⟩⟩
  · cases e; exact ⟨_, rfl, e0, .inl ⟨rfl, .inr ‹_›⟩⟩
  · rename_i kvs h
    cases e
    refine ⟨kvs, rfl, ?_, .inr ⟨h, rfl⟩⟩
    unfold iDict
    rw [List.getElem?_set_self (List.getElem?_eq_some_iff.mp h).1]
  · cases e
/-- the dict is there, shared or borrowed -/
theorem iDict_at (g : Gd K S ρ σ H) (e : iDict m i ρ = some (ds, ρ1)) : ∃ S1 a ts kvs, Gd K S1 ρ1 σ H ∧ Fm S ρ σ H S1 ρ1 H ∧ σ[i]? = some (some (V.ref a)) ∧ Rd H a (.dK ts) ∧ ¬ Mu ρ1 σ a ∧ KvR K S1 H ts kvs ∧ ds = selD m kvs ∧ (S1 a ∨ ρ1[i]? = some (some (.bor, .dict kvs))) := by
  obtain ⟨kvs, e1, e2, q⟩ := iDict_some e
  rcases q with ⟨rfl, h | h⟩ | ⟨h, rfl⟩
  · obtain ⟨v, hv, hr⟩ := g.sl i .shr _ h
    cases hr with
    | dct hs h1 k r => exact ⟨S, _, _, kvs, g, Fm.refl, hv, h1, g.notMu hs, ⟨k, r⟩, e1, .inl hs⟩
  · obtain ⟨v, hv, a, rfl, ns, ts, h1, k, r⟩ := g.sl i .bor _ h
    refine ⟨S, a, ts, kvs, g, Fm.refl, hv, h1, ?_, ⟨k, r⟩, e1, .inr h⟩
    rintro ⟨j, st, d2, z1, z2, z3⟩
    have hold : st.hold = true := by cases st <;> first | rfl | cases z2
    have := g.ne j i a st d2 .bor _ z1 h hold rfl z3 hv
    subst this
    rw [h] at z1
    cases z1
    cases z2
  · obtain ⟨v, hv, _⟩ := g.sl i .own _ h
    have rw0 : RRw K H S H ρ σ v (.slot i) := ⟨hv, _, h⟩
    have ek : keepR (.slot i) ρ = some (PyData.dict kvs, ρ.set i (some (.shr, .dict kvs))) := by
      unfold keepR
      simp only [h]
    obtain ⟨S1, n1, p1, _⟩ := rw0.keep (Now.start g) ek
    cases p1 with
    | dct hs h1 k r => exact ⟨S1, _, _, kvs, n1.g, n1.f, hv, h1, n1.g.notMu hs, ⟨k, r⟩, e1, .inl hs⟩
theorem selD_len {kvs : List (PyData × PyData)} : (selD m kvs).length = kvs.length := by
  cases m <;> simp [selD]
theorem walk_keys {T : Addr → Prop} {od : Obj} {kvs : List (PyData × PyData)} (h : H a = some (.frz od (.dK ts))) (kv : KvR K S H ts kvs) (ht : S a ∨ T a) : Walk K (Itk a od ts) (selD .keys kvs) T S H := by
  intro S2 H2 n u t al
  have hH : H2 a = some (.frz od (.dK ts)) := ht.elim (fun z => u.at' a _ z h) fun z => t a _ z h
  rw [selD_len, kv.len]
  refine ⟨fun hn => ⟨⟨hH, hn⟩, fun x H' y => ?_⟩, fun hn => ⟨hH, hn⟩⟩
  obtain ⟨rfl, k, w, e, rfl⟩ := y
  obtain ⟨xd, e1, e2⟩ := kv.get e
  exact ⟨S2, keyD k, Gw.refl al, by unfold selD; rw [List.getElem?_map, e1]; rfl, Rp.key k⟩
theorem walk_vals {T : Addr → Prop} {od : Obj} {kvs : List (PyData × PyData)} (h : H a = some (.frz od (.dK ts))) (kv : KvR K S H ts kvs) (ht : S a ∨ T a) : Walk K (Itd a od ts) (selD .vals kvs) T S H := by
  intro S2 H2 n u t al
  have hH : H2 a = some (.frz od (.dK ts)) := ht.elim (fun z => u.at' a _ z h) fun z => t a _ z h
  rw [selD_len, kv.len]
  refine ⟨fun hn => ⟨⟨hH, hn⟩, fun x H' y => ?_⟩, fun hn => ⟨hH, hn⟩⟩
  obtain ⟨rfl, k, e⟩ := y
  obtain ⟨xd, e1, e2⟩ := kv.get e
  exact ⟨S2, xd, Gw.refl al, by unfold selD; rw [List.getElem?_map, e1]; rfl, Rp.up u e2⟩
theorem walk_itms {T : Addr → Prop} {od : Obj} {kvs : List (PyData × PyData)} (h : H a = some (.frz od (.dK ts))) (kv : KvR K S H ts kvs) (ht : S a ∨ T a) : Walk K (Iti a od ts) (selD .itms kvs) T S H := by
  intro S2 H2 n u t al
  have hH : H2 a = some (.frz od (.dK ts)) := ht.elim (fun z => u.at' a _ z h) fun z => t a _ z h
  rw [selD_len, kv.len]
  refine ⟨fun hn => ⟨⟨hH, hn⟩, fun x H' y => ?_⟩, fun hn => ⟨hH, hn⟩⟩
  obtain ⟨T0, k, w, e, rfl, hn0, rfl⟩ := y
  obtain ⟨xd, e1, e2⟩ := kv.get e
  have r : RpL K S2 H2 [kV k, w] [keyD k, xd] := .cons (Rp.key k) (.cons (Rp.up u e2) .nil)
  exact ⟨_, _, Gw.layS al hn0, by unfold selD; rw [List.getElem?_map, e1]; rfl, lay_tup al r hn0⟩
/-- the dict is locked: the walk -/
theorem wiD_of {R : It → Hp → Prop} (hl : ∃ a od ts, σ[i]? = some (some (V.ref a)) ∧ H a = some (.frz od (.dK ts))) (h : tI K (iDict m i) σ H R) : wiD m i σ H R := by
  obtain ⟨S, ρ, ds, ρ1, g, e, q⟩ := h
  obtain ⟨a, od, ts, hv, hf⟩ := hl
  obtain ⟨S1, b, us, kvs, g1, f1, hb, hr, nm, kv, rfl, hs⟩ := iDict_at g e
  rw [hv] at hb; cases hb
  obtain rfl : us = ts := rd_inj (.inr ⟨od, hf⟩) hr
  have hT : ∀ b, b = a → H b ≠ none ∧ ¬ Mu ρ1 σ b := fun b hb => by subst hb; exact ⟨by rw [hf]; simp, nm⟩
  cases m with
  | keys => exact ⟨_, hv, a, od, rfl, .inl ⟨us, hf, q _ S1 H (fun b => b = a) f1 g1 hT (walk_keys hf kv (.inr rfl))⟩⟩
  | vals => exact ⟨_, hv, a, od, us, rfl, hf, q _ S1 H (fun b => b = a) f1 g1 hT (walk_vals hf kv (.inr rfl))⟩
  | itms => exact ⟨_, hv, a, od, us, rfl, hf, q _ S1 H (fun b => b = a) f1 g1 hT (walk_itms hf kv (.inr rfl))⟩
end
section
variable {X : Cx} {e : Expr} {st : Stmt} {m : Wm} {i : Nat}
/-- an expression that walks a dict -/
theorem pd_lockD {C : TI → TE} {F : Mo Rs} (h : PE X e (C (wiD m i))) (mono : ∀ wi' σ H Q, (∀ R, wi' σ H R → wiD m i σ H R) → C wi' σ H Q → C (wiD m i) σ H Q) (ok : ∀ σ H Q, tD X.K F σ H Q → C (tI X.K (iDict m i)) σ H Q)
    (first : ∀ ρ r ρ', F ρ = some (r, ρ') → ∃ ds ρ1, iDict m i ρ = some (ds, ρ1) ∧ (iDict m i ρ1 = some (ds, ρ1) → F ρ1 = some (r, ρ'))) : PD X e F := by
  have both : PE X e fun σ H Q => C (wiD m i) σ H Q ∨ tLockE (C (wiD m i)) σ H Q := ⟨fun pins s σ H Q I q => q.elim (h.run pins s σ H Q I) ((pe_lock h).run pins s σ H Q I)⟩
  refine PE.to both fun σ H Q hD => ?_
  obtain ⟨S, ρ, r, ρ', G, e0, q⟩ := hD
  obtain ⟨ds, ρ1, e1, e2⟩ := first ρ r ρ' e0
  obtain ⟨_, _, e3, _⟩ := iDict_some e1
  obtain ⟨S1, a, ts, kvs, G1, F1, hv, hr, nm, kv, _, _⟩ := iDict_at G e1
  have e4 := e2 e3
  have n1 : Now X.K σ S ρ H S1 ρ1 H := ⟨G, F1, G1⟩
  rcases hr with hr | ⟨od, hr⟩
  · refine .inr ⟨a, .dK ts, hr, True.intro, fun od => ?_⟩
    refine mono _ σ _ _ (fun R => wiD_of ⟨a, od, ts, hv, upd_same⟩) (ok σ _ _ ⟨S1, ρ1, r, ρ', Gd.tw (tw_lock hr) nm G1, e4, fun v S' H' f' g' r' => ?_⟩)
    have hk := f'.keep a _ upd_same nm
    refine ⟨hk, q v S' _ (F1.trans (f'.unlock hr)) (Gd.tw (tw_unlock hk) (fun z => nm (f'.mu z)) g') ?_⟩
    have r2 := RR.tw (tw_unlock hk) (H0 := upd H a (.frz od (.dK ts))) (by rw [upd_same]; simp) r'
    have dom : ∀ b, (upd H a (.frz od (.dK ts))) b = none → H b = none := fun b z => by
      by_cases y : b = a
      · rw [y, upd_same] at z; cases z
      · rw [upd_ne y] at z; exact z
    cases r with
    | kept x => exact r2
    | fresh x => obtain ⟨b, h1, h2, h3⟩ := r2; exact ⟨b, h1, dom b h2, h3⟩
    | slot j => exact r2
  · refine .inl (mono _ σ _ _ (fun R => wiD_of ⟨a, od, ts, hv, hr⟩) (ok σ _ _ ⟨S1, ρ1, r, ρ', G1, e4, fun v S' H' f' g' r' => q v S' H' (F1.trans f') g' (r'.pre n1)⟩))
/-- a statement that walks a dict -/
theorem sd_lockD {C : TI → TS} {F : Mo Fl} (h : PS X st (C (wiD m i))) (mono : ∀ wi' D σ H, (∀ R, wi' σ H R → wiD m i σ H R) → C wi' D σ H → C (wiD m i) D σ H) (ok : ∀ D σ H, tS X.K F D σ H → C (tI X.K (iDict m i)) D σ H)
    (first : ∀ ρ r ρ', F ρ = some (r, ρ') → ∃ ds ρ1, iDict m i ρ = some (ds, ρ1) ∧ (iDict m i ρ1 = some (ds, ρ1) → F ρ1 = some (r, ρ'))) : SD X st F := by
  have both : PS X st fun D σ H => C (wiD m i) D σ H ∨ tLock (C (wiD m i)) D σ H := ⟨fun pins s σ H D I q => q.elim (h.run pins s σ H D I) ((ps_lock h).run pins s σ H D I)⟩
  refine PS.to both fun D σ H hD => ?_
  obtain ⟨S, ρ, fl, ρ', G, e0, q⟩ := hD
  obtain ⟨ds, ρ1, e1, e2⟩ := first ρ fl ρ' e0
  obtain ⟨_, _, e3, _⟩ := iDict_some e1
  obtain ⟨S1, a, ts, kvs, G1, F1, hv, hr, nm, kv, _, _⟩ := iDict_at G e1
  have e4 := e2 e3
  rcases hr with hr | ⟨od, hr⟩
  · refine .inr ⟨a, .dK ts, hr, True.intro, fun od => ?_⟩
    refine mono _ _ σ _ (fun R => wiD_of ⟨a, od, ts, hv, upd_same⟩) (ok _ σ _ ⟨S1, ρ1, fl, ρ', Gd.tw (tw_lock hr) nm G1, e4, fun σ' S' H' f' g' => ?_⟩)
    have hk := f'.keep a _ upd_same nm
    have nm' : ¬ Mu ρ' σ' a := fun z => (f'.mu z).elim nm fun y => by rw [upd_same] at y; cases y
    have fin := q σ' S' _ (F1.fs.trans (f'.unlock hr)) (Gd.tw (tw_unlock hk) nm' g')
    cases fl with
    | nx => exact ⟨hk, fin⟩
    | bk => exact ⟨hk, fin⟩
    | ct => exact ⟨hk, fin⟩
    | ret r =>
      intro v r'
      refine ⟨hk, fin v ?_⟩
      have r2 := RR.tw (tw_unlock hk) (H0 := upd H a (.frz od (.dK ts))) (by rw [upd_same]; simp) r'
      have dom : ∀ b, (upd H a (.frz od (.dK ts))) b = none → H b = none := fun b z => by
        by_cases y : b = a
        · rw [y, upd_same] at z; cases z
        · rw [upd_ne y] at z; exact z
      cases r with
      | kept x => exact r2
      | fresh x => obtain ⟨b, h1, h2, h3⟩ := r2; exact ⟨b, h1, dom b h2, h3⟩
      | slot j => exact r2
  · refine .inl (mono _ _ σ _ (fun R => wiD_of ⟨a, od, ts, hv, hr⟩) (ok _ σ _ ⟨S1, ρ1, fl, ρ', G1, e4, fun σ' S' H' f' g' => (q σ' S' H' (F1.fs.trans f') g').pre fun b hb => hb⟩))
end
section
variable {X : Cx} {x : Str} {tg elt : Expr} {ifs : List Expr} {scope : Scope} {g : G1} {t : Mo Bool} {fe : Mo Rs} {b : Mo Fl} {body : List Stmt} {np apos cpos pos : Pos} {elts : List Expr} {kk : Nat} {tpos : Pos}
theorem PI.keysV (i : Nat) (hN : X.N[i]? = some x := by rfl) (hv : Vis X.env.scope x := by first | exact Or.inl rfl | exact Or.inr (Or.inl rfl) | exact Or.inr (Or.inr rfl)) (hd : (x == ("__debug__" : Str)) = false := by decide) (hcd : (x == ("__classdict__" : Str)) = false := by decide) :
    PI X tg (.Name x np) (wiD .keys i) := pi_keys (pe_var hN hv hd hcd)
theorem PI.valsV (i : Nat) (hN : X.N[i]? = some x := by rfl) (hv : Vis X.env.scope x := by first | exact Or.inl rfl | exact Or.inr (Or.inl rfl) | exact Or.inr (Or.inr rfl)) (hd : (x == ("__debug__" : Str)) = false := by decide) (hcd : (x == ("__classdict__" : Str)) = false := by decide)
    (hbase : attributeBase (.Name x np) "values" X.env (eval (.Name x np) X.env) = eval (.Name x np) X.env := by rfl) (hline : (apos.endLine == cpos.line) = true := by rfl) :
    PI X tg (.Call (.Attribute (.Name x np) "values" apos) [] [] cpos) (wiD .vals i) := pi_values (pe_var hN hv hd hcd) hbase hline
theorem PI.itmsV (i : Nat) (hN : X.N[i]? = some x := by rfl) (hv : Vis X.env.scope x := by first | exact Or.inl rfl | exact Or.inr (Or.inl rfl) | exact Or.inr (Or.inr rfl)) (hd : (x == ("__debug__" : Str)) = false := by decide) (hcd : (x == ("__classdict__" : Str)) = false := by decide)
    (hbase : attributeBase (.Name x np) "items" X.env (eval (.Name x np) X.env) = eval (.Name x np) X.env := by rfl) (hline : (apos.endLine == cpos.line) = true := by rfl) :
    PI X (.Tuple elts kk tpos) (.Call (.Attribute (.Name x np) "items" apos) [] [] cpos) (wiD .itms i) := pi_items (pe_var hN hv hd hcd) hbase hline
variable {iter : Expr} {m : Wm} {i : Nat}
theorem sd_forD (hc : X.calm = true) (hi : PI X tg iter (wiD m i)) (hg : GD X tg g) (hb : BD X body b) (hp : PassesOwn (model X.prog X.w) X.A X.env X.xe := by exact PassesOwn.never)
    (hs : ∀ x, foldedSetIterable iter X.env x = pure x := by intro _; rfl) : SD X (.For tg iter body [] pos) (sFor (iDict m i) g b) :=
  sd_lockD (C := fun wi => tFor wi (tG X.K g) (tS X.K b)) (ps_for hp hc hi hg hb hs) (fun wi' D σ H hm h => hm _ h) (fun D σ H h => for_ok h) fun ρ r ρ' h => by
    obtain ⟨ds, ρ1, e1, e2⟩ := bindM_some h
    refine ⟨ds, ρ1, e1, fun e3 => ?_⟩
    unfold sFor bindM
    rw [e3]
    exact e2
theorem pd_lcD (own : List (Str × Nat)) (hc : X.calm = true) (hN : X.N.Nodup) (hi : PI X tg iter (wiD m i)) (ok : BlkOk X.N X.env.scope scope own) (hv : g.vs = own.map (·.2))
    (hg : ∀ (s : Shared) (H : Hp) (C : Addr) (cl : List (Str × Addr)) (fp : List Addr), GD (X.blk s H scope (compEnvC scope cl C X.env) fp) tg g) (ht : ∀ (s : Shared) (H : Hp) (C : Addr) (cl : List (Str × Addr)) (fp : List Addr), TsD (X.blk s H scope (compEnvC scope cl C X.env) fp) ifs t)
    (he : ∀ (s : Shared) (H : Hp) (C : Addr) (cl : List (Str × Addr)) (fp : List Addr), PD (X.blk s H scope (compEnvC scope cl C X.env) fp) elt fe) (hs : ∀ x, foldedSetIterable iter X.env x = pure x := by intro _; rfl) :
    PD X (.ListComp elt [⟨tg, iter, ifs, 0⟩] scope pos) (xLc (own.map (·.2)) (iDict m i) g t fe) :=
  pd_lockD (C := fun wi => tLc wi (tG X.K g) (tT X.K t) (tD X.K fe) (own.map fun p : Str × Nat => p.2)) (pe_lc hc hN hi ok hg ht he hs) (fun wi' σ H Q hm h => hm _ h) (fun σ H Q h => lc_ok hv h) fun ρ r ρ' h => by
    unfold xLc at h
    cases e1 : iDict m i ρ with
    | none => rw [e1] at h; cases h
    | some p =>
      obtain ⟨ds, ρ1⟩ := p
      refine ⟨ds, ρ1, rfl, fun e3 => ?_⟩
      rw [e1] at h
      unfold xLc
      rw [e3]
      exact h
end
end PyI

set_option maxHeartbeats 3200000
/-! PyI, part L: set(texts), and sorted of it. -/
namespace PyI
namespace SetT
open PySem PySem.Spec PyProof.Rows L2

/-- the text of an entry -/
def txt (e : Int × Value) : Str := match e.2 with
  | .str k _ => k
  | _ => Str.empty
def Fine (w : World) (e : Int × Value) : Prop := ∃ k tk, e.2 = Value.str k tk ∧ e.1 = hashStr w k
/-- the set of the texts l at a -/
structure At (w : World) (h : Heap) (a : Addr) (l : List Str) (es : Array (Int × Value)) (ep : Nat) (t : SetTable) (o : Obj) : Prop where
  ob : h.get? a = some o
  ex : o.ExactSet
  dt : o.data = .set es ep t
  fine : ∀ e ∈ es.toList, Fine w e
  nd : l.Nodup
  pm : l.Perm (es.toList.map txt)
  sz : es.size < scanBound
  fit : t.fits es.size = true
  ris : Ris t.place.toList
  led : w.params.followText "set-order" = true ∨ t.led = true
def Is (w : World) (h : Heap) (a : Addr) (l : List Str) : Prop := ∃ es ep t o, At w h a l es ep t o
section
variable {P : Program} {w : World} {h h' : Heap} {a : Addr} {l : List Str} {es : Array (Int × Value)} {ep : Nat} {t : SetTable} {o : Obj}
theorem elems {L : List (Int × Value)} (g : ∀ e ∈ L, Fine w e) : ElemsOf (PySem.strKind P w) L := fun e he => by
  obtain ⟨k, tk, x, y⟩ := g e he
  exact ⟨⟨k, by rw [x]; exact strKind_is P w k tk, y⟩, by rw [x]; rfl⟩
theorem is_iff {e : Int × Value} (g : Fine w e) (k : Str) : (PySem.strKind P w).is k e.2 = true ↔ txt e = k := by
  obtain ⟨k0, tk, x, _⟩ := g
  unfold txt
  rw [x]
  exact ⟨fun q => (PySem.strKind P w).inj (.str k0 tk) k0 k (strKind_is P w k0 tk) q, fun q => by subst q; exact strKind_is P w k0 tk⟩
theorem find_none {L : List (Int × Value)} {k : Str} (g : ∀ e ∈ L, Fine w e) (q : List.findIdx? (fun e => (PySem.strKind P w).is k e.2) L = none) : k ∉ L.map txt := fun z => by
  obtain ⟨e, he, y⟩ := List.mem_map.mp z
  have c := List.findIdx?_eq_none_iff.mp q e he
  rw [(is_iff (P := P) (g e he) k).mpr y] at c
  cases c
theorem find_some {L : List (Int × Value)} {k : Str} {j : Nat} (g : ∀ e ∈ L, Fine w e) (q : List.findIdx? (fun e => (PySem.strKind P w).is k e.2) L = some j) : k ∈ L.map txt := by
  obtain ⟨hj, pj, _⟩ := List.findIdx?_eq_some_iff_getElem.mp q
  exact List.mem_map.mpr ⟨L[j], List.getElem_mem hj, (is_iff (P := P) (g _ (List.getElem_mem hj)) k).mp pj⟩
end
/-- one text more -/
def add1 (l : List Str) (k : Str) : List Str := if k ∈ l then l else l ++ [k]
section
variable {P : Program} {w : World} {A : Around} {E : Value → Shared → Prop} {s : Shared} {a : Addr} {l : List Str}
theorem lay_tail {gv : Bool → Sem Unit} (hg : ∀ (b : Bool) (s₁ : Shared) (Q' : Unit → Shared → Prop), Q' () s₁ → wpAny (model P w) A (gv b) Q' E s₁) {o : Obj} {es es1 : Array (Int × Value)} {ep : Nat} {t t2 : SetTable} (ob : s.heap.get? a = some o) (ex : o.ExactSet) (dt : o.data = .set es ep t)
    (fine : ∀ e ∈ es1.toList, Fine w e) (nd : l.Nodup) (pm : l.Perm (es1.toList.map txt)) (sz : es1.size < scanBound) (fit : t2.fits es1.size = true) (ris : Ris t2.place.toList) (led : w.params.followText "set-order" = true ∨ t2.led = true) {wd : Bool} {R : Option Bool → Shared → Prop}
    (hR : ∀ h', Heap.SameBut a s.heap h' → Is w h' a l → R (some true) { s with heap := h' }) :
    wpAny (model P w) A (do
        storeSet a es1 t2
        if (!wd && t2.tooFull) = true then do
            gv (relayAll t2 es1 (SetTable.grown es1.size)).2.2
            storeSet a (relayAll t2 es1 (SetTable.grown es1.size)).1 (relayAll t2 es1 (SetTable.grown es1.size)).2.1
            pure (some true)
          else pure (some true)) R E s := by
  have o1 := store_at (es' := es1) (t' := t2) ob dt
  have b1 := Heap.SameBut.update s.heap a (Obj.putSet es1 t2)
  refine wpAny_bind (wpAny_storeSet_of ob dt ?_ (fits_of_scanBound sz))
  split
  · have q1 := relayAll_perm t2 es1 (SetTable.grown es1.size)
    have q2 := relayAll_fits t2 es1 (SetTable.grown es1.size)
    have q3 := relayAll_ris t2 es1 (SetTable.grown es1.size)
    have q4 := relayAll_led t2 es1 (SetTable.grown es1.size)
    generalize relayAll t2 es1 (SetTable.grown es1.size) = Y at q1 q2 q3 q4 ⊢
    obtain ⟨es2, t3, gave⟩ := Y
    dsimp only at q1 q2 q3 q4 ⊢
    have z2 : es2.size = es1.size := by rw [← Array.length_toList, q1.length_eq, Array.length_toList]
    refine wpAny_bind (hg _ _ _ (wpAny_bind (wpAny_storeSet_of o1 rfl ?_ (fits_of_scanBound (by rw [z2]; exact sz)))))
    exact wpAny_pure (hR _ (b1.trans (Heap.SameBut.update _ a _)) ⟨es2, _, t3, _, store_at (es' := es2) (t' := t3) o1 rfl, ex, rfl, fun e he => fine e (q1.mem_iff.mp he), nd, pm.trans (q1.map txt).symm, by rw [z2]; exact sz, by rw [z2] at q2 ⊢; exact q2, q3, led.imp id fun y => by rw [q4]; exact y⟩)
  · exact wpAny_pure (hR _ b1 ⟨es1, _, t2, _, o1, ex, rfl, fine, nd, pm, sz, fit, ris, led⟩)
theorem add_hashed {k : Str} {tk : Tok} {Q : Bool → Shared → Prop} (R : Is w s.heap a l) (room : l.length + 1 < scanBound) (hQ : ∀ (b : Bool) h', Heap.SameBut a s.heap h' → Is w h' a (add1 l k) → Q b { s with heap := h' }) :
    wpAny (model P w) A (setAddHashed a (.str k tk) ((PySem.strKind P w).hash k)) Q E s := by
  obtain ⟨es, ep, t, o, ob, ex, dt, fine, nd, pm, sz, fit, ris, led⟩ := R
  have key : (PySem.strKind P w).is k (.str k tk) = true := strKind_is P w k tk
  have sc : (Value.str k tk).scannable = true := rfl
  have el : ElemsOf (PySem.strKind P w) es.toList := elems fine
  have hn : es.size = l.length := by rw [pm.length_eq, List.length_map, Array.length_toList]
  unfold setAddHashed setAddHashedIn
  refine wpAny_holding (wpAny_bind (wpAny_setState_of ob dt fit ?_))
  dsimp only
  rw [byScan_of sc sz el]
  simp only [↓reduceIte]
  unfold setAddByScan
  refine wpAny_bind (wpAny_bind (wpAny_rule (wpAny_bind (wpAny_setScan_of key ob dt fit el ?_))))
  cases q : List.findIdx? (fun e => (PySem.strKind P w).is k e.2) es.toList with
  | some j =>
    dsimp only
    have m : k ∈ l := pm.mem_iff.mpr (find_some (P := P) fine q)
    have e1 : add1 l k = l := if_pos m
    exact wpAny_pure (wpAny_pure (hQ _ s.heap (Heap.SameBut.refl a s.heap) (by rw [e1]; exact ⟨es, ep, t, o, ob, ex, dt, fine, nd, pm, sz, fit, ris, led⟩)))
  | none =>
    dsimp only
    have m : k ∉ l := fun z => find_none (P := P) fine q (pm.mem_iff.mp z)
    have e1 : add1 l k = l ++ [k] := if_neg m
    have nd1 : (l ++ [k]).Nodup := List.nodup_append.mpr ⟨nd, by simp, fun x hx y hy z => by rw [List.mem_singleton] at hy; subst hy; subst z; exact m hx⟩
    have q1 := layNew_perm t es ((PySem.strKind P w).hash k) (.str k tk)
    have q2 := layNew_fits t es ((PySem.strKind P w).hash k) (.str k tk)
    have q3 := layNew_ris t es ((PySem.strKind P w).hash k) (.str k tk) ris
    have q4 := layNew_led t es ((PySem.strKind P w).hash k) (.str k tk)
    generalize layNew t es ((PySem.strKind P w).hash k) (.str k tk) = Y at q1 q2 q3 q4 ⊢
    obtain ⟨es1, t1, wd, gave⟩ := Y
    dsimp only at q1 q2 q3 q4 ⊢
    rw [Array.toList_push] at q1
    have f1 : ∀ e ∈ es1.toList, Fine w e := fun e he => by
      rcases List.mem_append.mp (q1.mem_iff.mp he) with y | y
      · exact fine e y
      · rw [List.mem_singleton.mp y]; exact ⟨k, tk, rfl, rfl⟩
    have p1 : (l ++ [k]).Perm (es1.toList.map txt) := by
      refine List.Perm.trans ?_ (q1.map txt).symm
      rw [List.map_append]
      exact pm.append_right _
    have z1 : es1.size = l.length + 1 := by rw [← Array.length_toList, q1.length_eq, List.length_append, Array.length_toList, hn]; rfl
    have s1 : es1.size < scanBound := by rw [z1]; exact room
    have l1 : w.params.followText "set-order" = true ∨ t1.led = true := led.imp id fun y => by rw [q4]; exact y
    have gw : ∀ (b : Bool) {s₁ : Shared} {Q' : Unit → Shared → Prop}, Q' () s₁ → wpAny (model P w) A (match b with | true => rule "set.scan.the-table-gave-way" | false => pure ()) Q' E s₁ := fun b _ _ y => by
      cases b
      · exact wpAny_pure y
      · exact wpAny_rule y
    refine wpAny_bind (gw _ ?_)
    split
    · refine wpAny_bind ?_
      rw [hashByValue_scannable 8 sc]
      refine wpAny_pure (lay_tail (l := l ++ [k]) ?_ ob ex dt f1 nd1 p1 s1 ?_ ?_ ?_ fun h' sb r => ?_)
      · intro b _ _ y
        cases b
        · first | exact wpAny_pure y | exact wpAny_rule y
        · first | exact wpAny_rule y | exact wpAny_pure y
      · first | exact SetTable.fits_plain_off q2 | exact q2
      · exact q3
      · exact l1
      · dsimp only
        exact wpAny_pure (hQ _ h' sb (by rw [e1]; exact r))
    · refine wpAny_bind (wpAny_pure ?_)
      simp only [↓reduceIte]
      refine lay_tail (l := l ++ [k]) ?_ ob ex dt f1 nd1 p1 s1 q2 q3 l1 fun h' sb r => ?_
      · intro b _ _ y
        cases b
        · first | exact wpAny_pure y | exact wpAny_rule y
        · first | exact wpAny_rule y | exact wpAny_pure y
      · dsimp only
        exact wpAny_pure (hQ _ h' sb (by rw [e1]; exact r))
end

/-! ### set(xs) -/
/-- the texts of the first i items, each once -/
def upTo (xs : List Str) (i : Nat) : List Str := (xs.take i).foldl add1 []
theorem upTo_zero (xs : List Str) : upTo xs 0 = [] := by simp [upTo]
theorem upTo_succ {xs : List Str} {i : Nat} {k : Str} (h : xs[i]? = some k) : upTo xs (i + 1) = add1 (upTo xs i) k := by
  unfold upTo
  rw [List.take_add_one, h, Option.toList_some, List.foldl_append]
  rfl
theorem add1_len (l : List Str) (k : Str) : (add1 l k).length ≤ l.length + 1 := by
  unfold add1
  split
  · omega
  · simp
theorem upTo_len (xs : List Str) (i : Nat) : (upTo xs i).length ≤ i := by
  induction i with
  | zero => rw [upTo_zero]; exact Nat.le_refl _
  | succ i ih =>
    cases h : xs[i]? with
    | some k =>
      rw [upTo_succ h]
      have := add1_len (upTo xs i) k
      omega
    | none =>
      have e : upTo xs (i + 1) = upTo xs i := by
        unfold upTo
        rw [List.take_add_one, h]
        simp
      rw [e]
      omega
section
variable {prog : Program} {w : World} {A : Around} {R : Result → Shared → Prop} {I : Addr} {fp wr : List Addr} {G : Array GenState → Array GenState → Prop} {n : Nat} {P : Nat → Value → Prop} {St : Nat → Shared → Prop}
theorem Is.moved {h h' : Heap} {a : Addr} {l : List Str} (x : Is w h a l) (k : ∀ o, h.get? a = some o → h'.get? a = some o) : Is w h' a l := by
  obtain ⟨es, ep, t, o, y⟩ := x
  exact ⟨es, ep, t, o, k _ y.ob, y.ex, y.dt, y.fine, y.nd, y.pm, y.sz, y.fit, y.ris, y.led⟩
theorem turns (W : WalksS prog w A.in1 I fp wr G n P St) (S : Addr) (off : S ∉ fp) (xs : List Str) (val : ∀ i v, P i v → ∃ k t, xs[i]? = some k ∧ v = .str k t) (few : n + 1 < scanBound) :
    ∀ (k i : Nat) (s : Shared), n - i = k → i ≤ n → St i s → Is w s.heap S (upTo xs i) → (∀ s', Moved (S :: wr) G s s' → Is w s'.heap S (upTo xs n) → R (.ok (.ret .none)) s') →
      codeAny (model prog w) A (.builtin "set.update.loop" ⟨[.ref S, .ref I], []⟩) R s := by
  have offw : S ∉ wr := fun h => off (W.sub _ h)
  have wide : ∀ b ∈ wr, b ∈ S :: wr := fun b hb => List.mem_cons_of_mem _ hb
  intro k
  induction k with
  | zero =>
    intro i s hk hi st is fin
    obtain rfl : i = n := by omega
    refine codeAny_builtin PyProof.Rows.F.entry_set_update_loop ?_
    rw [Around.under_plainId PyProof.Rows.F.plain_set_update_loop _]
    show wpAny _ A.in1 (pyNext (.ref I) >>= _) _ _ s
    refine wpAny_bind (W.done s _ _ st fun s' hm => ?_)
    show wpAny _ A.in1 (ret Value.none) _ _ s'
    exact wpAny_pure (fin s' (hm.mono wide) (is.moved fun o e => hm.heap S o offw e))
  | succ k ih =>
    intro i s hk hi st is fin
    have hlt : i < n := by omega
    refine codeAny_builtin PyProof.Rows.F.entry_set_update_loop ?_
    rw [Around.under_plainId PyProof.Rows.F.plain_set_update_loop _]
    show wpAny _ A.in1 (pyNext (.ref I) >>= _) _ _ s
    refine wpAny_bind (W.item i s _ _ hlt st fun v s' hP st' hm => ?_)
    obtain ⟨x, t, hx, rfl⟩ := val i v hP
    have is' : Is w s'.heap S (upTo xs i) := is.moved fun o e => hm.heap S o offw e
    show wpAny _ A.in1 (holding [Value.str x t] (setAdd S (.str x t)) >>= _) _ _ s'
    refine wpAny_bind (wpAny_holding ?_)
    unfold setAdd
    refine wpAny_holding (wpAny_bind ((PySem.strKind prog w).pyHash (k := x) (strKind_is _ _ _ _) ?_))
    have room : (upTo xs i).length + 1 < scanBound := by have := upTo_len xs i; omega
    refine add_hashed (s := { s' with toks := s'.toks + 1 }) is' room fun b h' sb is2 => ?_
    rw [← upTo_succ hx] at is2
    refine wpAny_pure ⟨plainId_quiet PyProof.Rows.F.plain_set_update_loop _, ih (i + 1) _ (by omega) hlt (W.frame _ s' _ _ st' (Nat.le_succ _) fun b hb o e => ?_) is2 fun s'' hm2 is3 => ?_⟩
    · exact (sb.2 b fun z => off (z ▸ hb)).trans e
    · exact fin s'' (Moved.trans W.gtrans ((hm.mono wide).then_heap (Nat.le_succ _) fun b o hb e => (sb.2 b fun z => hb (by rw [z]; exact List.mem_cons_self)).trans e) hm2) is3
end
section
variable {prog : Program} {w : World} {A : Around} {E : Value → Shared → Prop} {s : Shared}
theorem fresh_is {h : Heap} {a : Addr} (ho : h.get? a = some { cls := .type "set", dict := none, data := .set #[] 0 (.fresh 0 0 (!w.params.followText "set-order")) }) : Is w h a [] :=
  ⟨#[], 0, _, _, ho, ⟨rfl, rfl, rfl⟩, rfl, (fun e he => by simp at he), List.nodup_nil, .refl _, (by decide), (by rfl), List.Pairwise.nil, by
    show _ ∨ (!w.params.followText "set-order") = true
    cases w.params.followText "set-order"
    · exact .inr rfl
    · exact .inl rfl⟩
theorem made {l : Addr} {items : Array Value} {xs : List Str} {Q : Value → Shared → Prop} (hh : A.handled = none) (hl : s.heap.IsList l items) (hi : StrsAre items.toList xs) (few : xs.length + 1 < scanBound)
    (fin : ∀ (h' : Heap) (tk : Nat), Is w h' s.heap.objs.size (upTo xs xs.length) → (∀ b o, b < s.heap.objs.size → s.heap.get? b = some o → h'.get? b = some o) → Q (.ref s.heap.objs.size) { s with heap := h', toks := tk }) :
    wpAny (model prog w) A (call (.type "set") [.ref l]) Q E s := by
  have hsz : items.size = xs.length := by rw [← StrsAre.len_eq hi, Array.length_toList]
  obtain ⟨c, tl, hmro⟩ := PySem.F.called_set.mro
  have r1 := PySem.F.called_set.made
  have r2 := PySem.F.called_set.sub
  refine wpAny_call (codeAny_of_tree ?_)
  show wpAny _ _ (callAny (.type "set") _) _ _ _
  refine wpAny_pure ⟨Code.quiet_builtin _ (by decide +kernel), codeAny_builtin PySem.F.entry_type_call ?_⟩
  rw [Around.under_plain (weight_type_call_type "set" [.ref l] []) rfl]
  have r3 := PySem.F.called_set.notType
  have r4 := PySem.F.called_set.canCreate
  have r5 := PySem.F.typeCall_set_1 (.ref l)
  repeat (any_goals (first | assumption | wp_step))
  obtain ⟨N, hN⟩ : ∃ N : Obj, N = { cls := .type "set", dict := none, data := .set #[] 0 (.fresh 0 0 (!w.params.followText "set-order")) } := ⟨_, rfl⟩
  have fr : N.isFreed = false := by rw [hN]; rfl
  refine codeAny_mono (code_set_led1 (.ref l) (E := E) (Q₁ := fun ob s₁ => ob = .ref s.heap.objs.size ∧ s₁ = { s with heap := s.heap.push N }) ⟨rfl, by rw [hN]⟩) fun r s₁ hr => ?_
  cases r with
  | error e => exact hr
  | ok fl =>
    cases fl with
    | ret ob =>
      obtain ⟨rfl, rfl⟩ := hr
      have g0 : (s.heap.push N).get? s.heap.objs.size = some N := Heap.get?_push_size _ fr
      have hT : Shared.TypeIs { s with heap := s.heap.push N } (.ref s.heap.objs.size) "set" := ⟨_, g0, by rw [hN]⟩
      have r6 := PySem.F.called_set.init.lookup
      have r7 := PySem.F.called_set.init.bind (.ref s.heap.objs.size)
      repeat (any_goals (first | assumption | wp_step))
      refine codeAny_mono (codeAny_call_builtin (R := wants (fun r s₂ => r = .none ∧ ∃ h' tk, s₂ = { s with heap := h', toks := tk } ∧ Is w h' s.heap.objs.size (upTo xs xs.length) ∧ (∀ b o, b < s.heap.objs.size → s.heap.get? b = some o → h'.get? b = some o)) E)
        PySem.F.called_set.init.plain PySem.F.entry_set_init (check_set_init_1 hT ?_)) fun r₂ s₂ hr₂ => ?_
      · obtain ⟨ol, hol, hcl, nl, hdl⟩ := hl
        obtain ⟨ocls, odict, odata, oslots⟩ := ol
        simp only at hcl hdl
        subst hcl; subst hdl
        have hol' : (s.heap.push N).get? l = some { cls := .type "list", dict := odict, data := .seq items nl, slots := oslots } := Heap.get?_push_of_some _ hol
        have r8 := PySem.F.sub_list_set
        have r9 := PySem.F.sub_list_frozenset
        have hne : (Value.type "list" == Value.type "dict") = false := by decide
        have hl1 : (s.heap.push N).IsList l items := ⟨_, hol', rfl, nl, rfl⟩
        have lt : l < s.heap.objs.size := Heap.lt_size hol
        have z1 : (s.heap.push N).objs.size = s.heap.objs.size + 1 := Heap.size_push ..
        subst hN
        unfold Builtin.«set.__init__» noKeywords Builtin.Frozenset.updateFrom
        generalize hPI : pyIter = PI
        wp_walk
        subst hPI
        refine wpAny_pyIter_list hl1 ?_
        refine wpAny_bind (wpAny_runValue ?_)
        have hh3 : A.in1.in1.in1.handled = none := by simp [hh]
        have ne := z1 ▸ (show l ≠ s.heap.objs.size + 1 from Nat.ne_of_lt (Nat.lt_succ_of_lt lt))
        have off : s.heap.objs.size ∉ [s.heap.objs.size + 1, l] := by
          simp only [List.mem_cons, List.not_mem_nil, or_false, not_or]
          exact ⟨Nat.ne_of_lt (Nat.lt_succ_self _), Nat.ne_of_gt lt⟩
        have val : ∀ (i : Nat) (v : Value), items[i]? = some v → ∃ k t, xs[i]? = some k ∧ v = .str k t := fun i v hv => by
          obtain ⟨t, e⟩ := SS.strs_at hi i v (by rw [Array.getElem?_toList]; exact hv)
          have hi' : i < xs.length := by rw [← hsz]; exact (Array.getElem?_eq_some_iff.mp hv).1
          refine ⟨xs[i], t, List.getElem?_eq_getElem hi', ?_⟩
          rw [e, List.getD_eq_getElem?_getD, List.getElem?_eq_getElem hi']; rfl
        refine turns ((Walks.list hh3 _ l ne items).toS) s.heap.objs.size (by rw [z1]; exact off) xs val (by rw [hsz]; exact few) (items.size - 0) 0 _ (by omega) (Nat.zero_le _) ⟨⟨_, Heap.get?_push_size _ rfl, rfl, rfl⟩, (hl1.push _)⟩ ?_ fun s' hm is => ?_
        · rw [upTo_zero]
          exact fresh_is (Heap.get?_push_of_some _ g0)
        · obtain ⟨h', g', d', tk', os'⟩ := s'
          have e1 : g' = s.gens := hm.gens
          have e2 : d' = s.drawn := hm.drawn
          have e3 : os' = s.os := hm.os
          subst e1; subst e2; subst e3
          rw [hsz] at is
          show wpAny _ _ _ _ _ _
          refine wpAny_pure ?_
          show wpAny _ _ (ret Value.none) _ _ _
          refine wpAny_pure ⟨rfl, h', tk', rfl, is, fun b o hb e => hm.heap b o ?_ (Heap.get?_push_of_some _ (Heap.get?_push_of_some _ e))⟩
          simp only [List.mem_cons, List.not_mem_nil, or_false, not_or]
          exact ⟨Nat.ne_of_lt hb, by rw [z1]; exact Nat.ne_of_lt (Nat.lt_succ_of_lt hb)⟩
      · cases r₂ with
        | error e => exact hr₂
        | ok fl₂ =>
          cases fl₂ with
          | ret r =>
            obtain ⟨rfl, h', tk, rfl, is, kp⟩ := hr₂
            repeat (any_goals (first | assumption | wp_step))
            exact fin _ _ is kp
          | _ => exact hr₂.elim
    | _ => exact hr.elim
end

/-! ### sorted of it -/
section
variable {P : Program} {w : World} {A : Around} {E : Value → Shared → Prop} {s : Shared} {a : Addr} {l : List Str}
theorem strs_of_fine : ∀ {L : List (Int × Value)}, (∀ e ∈ L, Fine w e) → StrsAre (L.map (·.2)) (L.map txt)
  | [], _ => .nil
  | e :: L, g => by
    obtain ⟨k, tk, x, _⟩ := g e List.mem_cons_self
    rw [List.map_cons, List.map_cons]
    have e1 : txt e = k := by unfold txt; rw [x]
    rw [e1, x]
    exact .cons k tk (strs_of_fine fun e he => g e (List.mem_cons_of_mem _ he))
theorem strs_any : ∀ (vs : List Value), (∀ v ∈ vs, ∃ k tk, v = Value.str k tk) → StrsAre vs (vs.map fun v => txt (0, v))
  | [], _ => .nil
  | v :: vs, g => by
    obtain ⟨k, tk, rfl⟩ := g v List.mem_cons_self
    exact .cons k tk (strs_any vs fun v hv => g v (List.mem_cons_of_mem _ hv))
theorem sorted_is {Q : Value → Shared → Prop} (R : Is w s.heap a l) (hh : A.handled = none) (h64 : l.length < 64)
    (fin : ∀ s' p (out : Array Value) (c : Nat) (ys : List Str), (∀ b o, s.heap.get? b = some o → s'.heap.get? b = some o) → s'.gens = s.gens → s'.os = s.os → s.heap.objs.size ≤ p → s'.heap.get? p = some (seqObj "list" out c) → StrsAre out.toList ys → ys.Perm l → sortedS ys = true → Q (.ref p) s') :
    wpAny (model P w) A (call (.builtin "sorted") [.ref a]) Q E s := by
  obtain ⟨es, ep, t, o, ob, ex, dt, fine, nd, pm, sz, fit, ris, led⟩ := R
  refine Calls.call_function_entry kind_sorted plain_sorted entry_sorted (args_sorted1 _) ?_
  unfold Builtin.«sorted»
  refine wpAny_bind (m := checkCount "sorted" 1 1 _) (wpAny_pure ?_)
  refine wpAny_bind (collect_set (A := A.in1) hh ⟨o, ob, ex.1, dt⟩ fit sz ris led fun s1 vs k1 hz g1 o1 pv => ?_)
  have hvl : vs.length = l.length := by rw [pv.length_eq, List.length_map, pm.length_eq, List.length_map]
  have hS : StrsAre vs (vs.map fun v => txt (0, v)) := strs_any vs fun v hv => by
    obtain ⟨e, he, q⟩ := List.mem_map.mp (pv.mem_iff.mp hv)
    obtain ⟨k, tk, x, _⟩ := fine e he
    exact ⟨k, tk, by rw [← q]; exact x⟩
  have pk : (vs.map fun v => txt (0, v)).Perm l := by
    have q := pv.map fun v => txt (0, v)
    rw [List.map_map] at q
    exact q.trans pm.symm
  refine wpAny_bind (wpAny_newList ?_ (by rw [hvl, sizeLine_eq]; omega))
  have ho : (s1.heap.push (seqObj "list" vs.toArray 0)).get? s1.heap.objs.size = some (seqObj "list" vs.toArray 0) := Heap.get?_push_size _ rfl
  show wpAny _ _ _ _ _ { s1 with heap := s1.heap.push (seqObj "list" vs.toArray 0) }
  refine wpAny_bind (wpAny_holding (wpAny_call_entry slot_list_sort ⟨_, ho, rfl⟩ entry_list_sort
    (list_sort_treeK strKind_oneLt (s := { s1 with heap := s1.heap.push (seqObj "list" vs.toArray 0) }) ho hS.keysOf (fun v₁ v₂ rest e => keyKind_strs (by rw [← e]; exact hS)) (by rw [hvl]; exact h64) fun st' hp hs => ⟨_, rfl, ?_⟩) (args_list_sort _)))
  obtain ⟨ys, y1, y2, y3⟩ := sorted_out_str hS hp hs
  obtain ⟨c, hc⟩ := sortedHeap_at (vs := vs) (out := (arrOf st').map (·.2)) ho
  refine wpAny_pure ⟨_, rfl, fin _ s1.heap.objs.size ((arrOf st').map (·.2)) c ys (fun b u e => ?_) g1 o1 hz hc y1 (y2.trans pk) y3⟩
  have q := k1 b u e
  have lt := Heap.lt_size q
  show (sortedHeap (s1.heap.push (seqObj "list" vs.toArray 0)) s1.heap.objs.size vs ((arrOf st').map (·.2))).get? b = some u
  rw [sortedHeap_old (Nat.ne_of_lt lt) (by rw [size_push']; exact Nat.lt_succ_of_lt lt)]
  exact Heap.get?_push_of_some _ q
end
end SetT
end PyI

/-! PyI, part M: sorted(set(..)), list(script). -/
namespace PyI
open PySem PySem.Spec L2

def dedupS (xs : List Str) : List Str := xs.foldl SetT.add1 []
theorem upTo_all (xs : List Str) : SetT.upTo xs xs.length = dedupS xs := by
  unfold SetT.upTo dedupS
  rw [List.take_length]
def soSet : PyData → Option PyData
  | .list ds => (strsD ds).bind fun xs => if (dedupS xs).length < 64 ∧ xs.length < 1000 then some (.list ((sortS (dedupS xs)).map .str)) else none
  | _ => none
def tSoSet (K : PySem.W.Frag) (ta : TE) : TE := fun σ H Q => ta σ H fun x H1 => ∃ a, ∃ xs : List Str, x = .ref a ∧ SqL K H1 a (xs.map V.str) ∧ (dedupS xs).length < 64 ∧ xs.length < 1000 ∧ ∀ p, H1 p = none → Q (.ref p) (upd H1 p (.lst ((sortS (dedupS xs)).map V.str)))
theorem scan1000 {n : Nat} (h : n < 1000) : n + 1 < scanBound := by
  have : (1001 : Nat) ≤ scanBound := by decide
  omega
theorem vals_strs : ∀ {us : List Value} {ys : List Str}, PyProof.Rows.StrsAre us ys → Vals (ys.map V.str) us
  | _, _, .nil => .nil
  | _, _, .cons k t h => .cons ⟨t, rfl⟩ (vals_strs h)
section
variable {X : Cx} {a : Expr} {ta : TE} {f : Mo Rs} {p p2 q pos : Pos}
theorem pe_soSet (hc : X.calm = true) (hg : Gl X "sorted") (hm : X.mg "sorted" = none) (hv : bootBuiltins "sorted" = some (.builtin "sorted")) (hg2 : Gl X "set") (hm2 : X.mg "set" = none) (hv2 : bootBuiltins "set" = some (.type "set")) (ha : PE X a ta)
    (na : starEach [a] X.env = (false, eval a X.env) :: starEach [] X.env := by rfl) : PE X (.Call (.Name "sorted" p) [.Call (.Name "set" p2) [a] [] q] [] pos) (tSoSet X.K ta) := by
  refine ⟨fun pins s σ H Q I h => ?_⟩
  refine PyProof.Rows.Call_ (ld_blt I hg hm hv ?_)
  refine PyProof.Rows.callWith_builtin1 (PyProof.Rows.args_cons ?_ rfl) rfl rfl
  refine PyProof.Rows.Call_ (ld_blt I hg2 hm2 hv2 ?_)
  refine PyProof.Rows.callWith_type1 (PyProof.Rows.args_cons (thn (ha.run pins s σ H _ I h) fun v s1 ⟨x, H1, I1, r1, b, xs, ex, hx, h64, hk, q1⟩ => PyProof.Rows.args_nil ?_) na) na rfl
  subst ex
  cases r1
  obtain ⟨its, r, pl, hz⟩ := I1.list hx
  refine SetT.made (I1.ok.hd hc) pl.isList (by simpa using strsAre_of r) (scan1000 hk) fun h' tk is kp => PyProof.Rows.args_nil ?_
  rw [upTo_all] at is
  have I2 : Inv X pins σ H1 { s1 with heap := h', toks := tk } := I1.kept fun b o e => kp b o (Heap.lt_size e) e
  refine SetT.sorted_is (s := { s1 with heap := h', toks := tk }) is (I1.ok.hd hc) h64 fun s3 pp out c ys k3 g3 o3 hp ho hy py sy => ?_
  have hlen : ((sortS (dedupS xs)).map V.str).length ≤ sizeLine := by
    rw [List.length_map, (sortS_perm _).length_eq, sizeLine_eq]; omega
  have hn : H1 pp = none := I2.hok.fresh hp
  rw [sortS_of py sy] at hy
  have ok := I2.hok.laid k3 hp (o := .lst ((sortS (dedupS xs)).map V.str)) ⟨hlen, out.toList, c, vals_strs hy, ho⟩
  have J : Inv X pins σ (upd H1 pp (.lst ((sortS (dedupS xs)).map V.str))) { ({ s1 with heap := h', toks := tk } : Shared) with heap := s3.heap, gens := s3.gens, drawn := s3.drawn, toks := s3.toks } :=
    I2.call (ch := []) (Un.laid k3 hp hn) ok (by rw [g3]; exact I2.bare) (fun _ z => nomatch z)
  have e : s3 = { s1 with heap := s3.heap, gens := s3.gens, drawn := s3.drawn, toks := s3.toks } := by
    cases s3
    cases o3
    rfl
  rw [e]
  exact ⟨.ref pp, _, J, rfl, q1 pp hn⟩
def xSoSet (f : Mo Rs) : Mo Rs := x1 soSet f
theorem pd_soSet (hc : X.calm = true) (hg : Gl X "sorted") (hm : X.mg "sorted" = none) (hv : bootBuiltins "sorted" = some (.builtin "sorted")) (hg2 : Gl X "set") (hm2 : X.mg "set" = none) (hv2 : bootBuiltins "set" = some (.type "set")) (ha : PD X a f)
    (na : starEach [a] X.env = (false, eval a X.env) :: starEach [] X.env := by rfl) : PD X (.Call (.Name "sorted" p) [.Call (.Name "set" p2) [a] [] q] [] pos) (xSoSet f) := PE.to (pe_soSet hc hg hm hv hg2 hm2 hv2 ha na) fun σ H Q h => by
  obtain ⟨S, ρ, r, ρ', G, e, q⟩ := h
  obtain ⟨r1, ρ1, e1, e2⟩ := bindM_some e
  obtain ⟨d, ρ2, e3, e4⟩ := bindM_some e2
  obtain ⟨d', ρ3, e5, e6⟩ := bindM_some e4
  obtain ⟨b1, b2⟩ := optM_some e5
  simp only at b1 b2
  cases retM_some e6
  refine ⟨S, ρ, r1, ρ1, G, e1, fun v S1 H1 F1 G1 R1 => ?_⟩
  obtain ⟨rd, rfl⟩ := R1.rd G1 e3
  subst b2
  have n1 : Now X.K σ S ρ H S1 _ H1 := ⟨G, F1, G1⟩
  unfold soSet at b1
  split at b1
  · obtain ⟨xs, hx, b1⟩ := Option.bind_eq_some_iff.mp b1
    split at b1
    · rename_i hl
      cases b1
      obtain rfl := strsD_eq hx
      obtain ⟨a, vs, rfl, h1, p1⟩ := rd.lst
      obtain rfl := p1.strs_eq
      exact ⟨a, xs, rfl, SqL.of h1, hl.1, hl.2, fun p hp => q _ S1 _ (n1.grow (Gw.lay G1.al hp)).f (n1.grow (Gw.lay G1.al hp)).g (lay_lst G1.al (RpL.strs _) hp (n1.none0 hp))⟩
    · cases b1
  · cases b1
end

/-! ### list(script) -/
/-- the script, copied -/
def xScr (i : Nat) : Mo Rs := fun ρ => match ρ[i]? with
  | some (some (.scr, d)) => some (.fresh d, ρ)
  | _ => none
section
variable {X : Cx} {x : Str} {p np pos : Pos}
theorem pd_scr (i : Nat) (hg : Gl X "list") (hm : X.mg "list" = none) (hv : bootBuiltins "list" = some (.type "list")) (hN : X.N[i]? = some x := by rfl) (hvis : Vis X.env.scope x := by first | exact Or.inl rfl | exact Or.inr (Or.inl rfl) | exact Or.inr (Or.inr rfl)) (hd : (x == ("__debug__" : Str)) = false := by decide)
    (hcd : (x == ("__classdict__" : Str)) = false := by decide) (he : starEach [.Name x np] X.env = (false, eval (.Name x np) X.env) :: starEach [] X.env := by rfl) (hpl : (backTo pos (starEach [] X.env)).any (·.1) = false := by rfl) :
    PD X (.Call (.Name "list" p) [.Name x np] [] pos) (xScr i) := PE.to (pe_callTy call_list_of hg hm hv (pa_cons (pe_var hN hvis hd hcd) pa_nil he) (he := he) (hpl := hpl)) fun σ H Q h => by
  obtain ⟨S, ρ, r, ρ', G, e, q⟩ := h
  unfold xScr at e
  split at e
  · rename_i d hs
    cases e
    obtain ⟨v, hv, a, ns, rfl, rfl, k, _⟩ := G.sl i .scr _ hs
    exact ⟨_, hv, a, _, rfl, .inl k, fun p hp => q _ S _ (Gw.lay G.al hp).fr (G.ext (Gw.lay G.al hp)) (lay_lst G.al (RpL.ints ns) hp hp)⟩
  · cases e
end

/-! ### is True, is not True; constants of the module -/
def opIsB : PyData → PyData → Option PyData
  | .bool a, .bool b => some (.bool (decide (a = b)))
  | _, _ => none
def opNotB : PyData → PyData → Option PyData
  | .bool a, .bool b => some (.bool (!decide (a = b)))
  | _, _ => none
section
variable {X : Cx}
theorem o_isB : OpR X (compareOp .Is) (rD X.K opIsB) := by
  intro pins s σ H x y v u Q I rx ry q
  obtain ⟨S, d1, d2, d, al, r1, r2, e, q⟩ := q
  unfold opIsB at e
  split at e
  · cases e
    exact op_isBl pins s σ H x y v u Q I rx ry ⟨_, _, r1.bl, r2.bl, q _ S H (Gw.refl al) (.bl _)⟩
  · cases e
theorem o_notB : OpR X (compareOp .IsNot) (rD X.K opNotB) := by
  intro pins s σ H x y v u Q I rx ry q
  obtain ⟨S, d1, d2, d, al, r1, r2, e, q⟩ := q
  unfold opNotB at e
  split at e
  · cases e
    exact op_notBl pins s σ H x y v u Q I rx ry ⟨_, _, r1.bl, r2.bl, q _ S H (Gw.refl al) (.bl _)⟩
  · cases e
/-- a tuple of texts that the module holds -/
def ConstT (K : PySem.W.Frag) (mg : Str → Option Value) (x : Str) (xs : List Str) : Prop := ∃ a, mg x = some (.ref a) ∧ KTup K a (xs.map V.str)
theorem pd_gc {x : Str} {xs : List Str} {pos : Pos} (c : ConstT X.K X.mg x xs) (hg : Gl X x) (hd : (x == ("__debug__" : Str)) = false := by decide) : PD X (.Name x pos) (xC (.tuple (xs.map .str))) := by
  obtain ⟨a, hm, k⟩ := c
  exact pd_of_tC (pe_glob hg hm (v := .ref a) rfl hd) fun S H => .tup (.inr k) (RpL.strs xs)
end
section
variable {P : Program} {w : World} {K : PySem.W.Frag} {mg : Str → Option Value} {base : Heap} {f : Addr} {fd : FuncData} {ps : List Str} {x : Str} {fn : Fn} {k : Nat}
theorem Cl.of (F : FnOk P w K mg base CX0 k f fd ps (spI K fn)) (hm : mg x = some (.ref f)) (hk : PySem.W.keepIn K (.ref f) = true) (hb : Binds K fd ps []) : Cl P w K mg base k x fn := ⟨f, fd, ps, F, hm, hk, hb⟩
theorem fn_none : FnOk P w K mg base CX0 k f fd ps (spI K fun _ => none) := by
  refine ⟨fun vs H Q E h => ?_, fun A outer s H args us vs Q E hr he hb hv hs => ?_⟩
  · obtain ⟨_, _, _, _, _, e, _⟩ := h; cases e
  · obtain ⟨_, _, _, _, _, e, _⟩ := hs; cases e
end
/-- what a comprehension's block asks of its scope, counted -/
def blkB (N : List Str) (sc scope : Scope) (own : List (Str × Nat)) : Bool :=
  decide (scope.kind = .function) && scope.names.all (fun y => decide (scope.names.lookup y.1 = some y.2)) && own.all (fun p => decide (N[p.2]? = some p.1)) &&
    scope.names.all (fun y => !decide (y.2 = .free) || (decide (sc.names.lookup y.1 = some .cell) || decide (sc.names.lookup y.1 = some .free))) &&
    scope.names.all (fun y => !(decide (y.2 = .local) || decide (y.2 = .cell)) || (decide (y.1 ∈ own.map (·.1)) || !decide (y.1 ∈ N)))
theorem blk_ok (N : List Str) (sc : Scope) {scope : Scope} {own : List (Str × Nat)} (h : blkB N sc scope own = true) : BlkOk N sc scope own := by
  unfold blkB at h
  simp only [Bool.and_eq_true, List.all_eq_true, decide_eq_true_eq, Bool.or_eq_true, Bool.not_eq_true', decide_eq_false_iff_not, Bool.or_eq_false_iff] at h
  obtain ⟨⟨⟨⟨h1, h2⟩, h3⟩, h4⟩, h5⟩ := h
  refine ⟨h1, fun y hy => h2 y hy, fun p hp => h3 p hp, fun y hy hf => ?_, fun y hy hl => ?_⟩
  · rcases h4 y hy with z | z
    · exact absurd hf z
    · exact z
  · rcases h5 y hy with ⟨z1, z2⟩ | z
    · rcases hl with z | z
      · exact absurd z z1
      · exact absurd z z2
    · exact z
end PyI

/-! PyI, part N: the evaluator by small equations (for simp). -/
namespace PyI
open PySem PySem.Spec L2

/-! ### stages -/
def rdD (r : Rs) (ρ : Rho) : Option PyData := match r with
  | .kept d => some d
  | .fresh d => some d
  | .slot i => match ρ[i]? with
    | some (some (.scr, _)) => none
    | some (some (_, d)) => some d
    | _ => none
theorem rdR_rd (r : Rs) (ρ : Rho) : rdR r ρ = (rdD r ρ).map fun d => (d, ρ) := by
  unfold rdR rdD
  cases r with
  | kept d => rfl
  | fresh d => rfl
  | slot i =>
    dsimp only
    cases ρ[i]? with
    | none => rfl
    | some x =>
      cases x with
      | none => rfl
      | some p => obtain ⟨st, d⟩ := p; cases st <;> rfl
def rda : Option (Option (Stt × PyData)) → Option PyData
  | some (some (.scr, _)) => none
  | some (some (_, d)) => some d
  | _ => none
@[simp] theorem e_rk (d : PyData) (ρ : Rho) : rdD (.kept d) ρ = some d := (rfl)
@[simp] theorem e_rf (d : PyData) (ρ : Rho) : rdD (.fresh d) ρ = some d := (rfl)
theorem e_rs (i : Nat) (ρ : Rho) : rdD (.slot i) ρ = rda ρ[i]? := by
  unfold rdD rda
  dsimp only
@[simp] theorem e_rs0 (x : Option (Stt × PyData)) (ρ : Rho) : rdD (.slot 0) (x :: ρ) = rda (some x) := e_rs 0 _
@[simp] theorem e_rsS (i : Nat) (x : Option (Stt × PyData)) (ρ : Rho) : rdD (.slot (i + 1)) (x :: ρ) = rdD (.slot i) ρ := by rw [e_rs, e_rs]; rfl
@[simp] theorem e_ra1 (d : PyData) : rda (some (some (.shr, d))) = some d := (rfl)
@[simp] theorem e_ra2 (d : PyData) : rda (some (some (.own, d))) = some d := (rfl)
@[simp] theorem e_ra3 (d : PyData) : rda (some (some (.lent, d))) = some d := (rfl)
@[simp] theorem e_ra4 (d : PyData) : rda (some (some (.bor, d))) = some d := (rfl)
def xVa : Option (Option (Stt × PyData)) → Nat → Rho → Option (Rs × Rho)
  | some (some _), i, ρ => some (.slot i, ρ)
  | _, _, _ => none
def gi (ρ : Rho) (i : Nat) : Option (Option (Stt × PyData)) := ρ[i]?
@[simp] theorem e_g0 (x : Option (Stt × PyData)) (ρ : Rho) : gi (x :: ρ) 0 = some x := (rfl)
@[simp] theorem e_gS (i : Nat) (x : Option (Stt × PyData)) (ρ : Rho) : gi (x :: ρ) (i + 1) = gi ρ i := (rfl)
@[simp] theorem e_xV (i : Nat) (ρ : Rho) : xV i ρ = xVa (gi ρ i) i ρ := by
  unfold xV xVa gi
  cases ρ[i]? with
  | none => rfl
  | some x => cases x <;> rfl
@[simp] theorem e_xVa (p : Stt × PyData) (i : Nat) (ρ : Rho) : xVa (some (some p)) i ρ = some (.slot i, ρ) := (rfl)
@[simp] theorem e_xC (d : PyData) (ρ : Rho) : xC d ρ = some (.kept d, ρ) := (rfl)
def x2a (k : Bool) (x : Option (Rs × Rho)) (g : Mo Rs) (op : PyData → PyData → Option PyData) : Option (Rs × Rho) := match x with
  | some (r1, ρ) => (bindM g fun r2 => bindM (rdR r1) fun d1 => bindM (rdR r2) fun d2 => bindM (optM (op d1 d2)) fun d => retM (if k = true then resN d else .kept d)) ρ
  | none => none
def x2b (k : Bool) (r1 : Rs) (x : Option (Rs × Rho)) (op : PyData → PyData → Option PyData) : Option (Rs × Rho) := match x with
  | some (r2, ρ) => (bindM (rdR r1) fun d1 => bindM (rdR r2) fun d2 => bindM (optM (op d1 d2)) fun d => retM (if k = true then resN d else .kept d)) ρ
  | none => none
def x2c (k : Bool) (d1 d2 : Option PyData) (op : PyData → PyData → Option PyData) (ρ : Rho) : Option (Rs × Rho) := match d1, d2 with
  | some d1, some d2 => match op d1 d2 with
    | some d => some ((if k = true then resN d else .kept d), ρ)
    | none => none
  | _, _ => none
def x2d (k : Bool) (d : Option PyData) (ρ : Rho) : Option (Rs × Rho) := match d with
  | some d => some ((if k = true then resN d else .kept d), ρ)
  | none => none
@[simp] theorem e_x2 (f g : Mo Rs) (op : PyData → PyData → Option PyData) (ρ : Rho) : x2 f g op ρ = x2a true (f ρ) g op := by
  unfold x2 x2a
  conv => lhs; unfold bindM
  cases f ρ <;> rfl
@[simp] theorem e_x2i (f g : Mo Rs) (op : PyData → PyData → Option PyData) (ρ : Rho) : x2i f g op ρ = x2a false (f ρ) g op := by
  unfold x2i x2a
  conv => lhs; unfold bindM
  cases f ρ <;> rfl
@[simp] theorem e_x2a (k : Bool) (r : Rs) (ρ : Rho) (g : Mo Rs) (op : PyData → PyData → Option PyData) : x2a k (some (r, ρ)) g op = x2b k r (g ρ) op := by
  unfold x2a x2b
  dsimp only
  conv => lhs; unfold bindM
  cases g ρ <;> rfl
@[simp] theorem e_x2b (k : Bool) (r r2 : Rs) (ρ : Rho) (op : PyData → PyData → Option PyData) : x2b k r (some (r2, ρ)) op = x2c k (rdD r ρ) (rdD r2 ρ) op ρ := by
  unfold x2b x2c
  dsimp only
  unfold bindM
  rw [rdR_rd]
  cases rdD r ρ with
  | none => rfl
  | some d1 =>
    dsimp only [Option.map]
    rw [rdR_rd]
    cases rdD r2 ρ with
    | none => rfl
    | some d2 =>
      dsimp only [Option.map]
      unfold optM
      cases op d1 d2 <;> rfl
@[simp] theorem e_x2c (k : Bool) (d1 d2 : PyData) (op : PyData → PyData → Option PyData) (ρ : Rho) : x2c k (some d1) (some d2) op ρ = x2d k (op d1 d2) ρ := (rfl)
@[simp] theorem e_x2dt (d : PyData) (ρ : Rho) : x2d true (some d) ρ = some (resN d, ρ) := (rfl)
@[simp] theorem e_x2df (d : PyData) (ρ : Rho) : x2d false (some d) ρ = some (.kept d, ρ) := (rfl)
@[simp] theorem e_rn1 (i : Int) : resN (.int i) = .kept (.int i) := (rfl)
@[simp] theorem e_rn2 (b : Bool) : resN (.bool b) = .kept (.bool b) := (rfl)
@[simp] theorem e_rn3 (x : Str) : resN (.str x) = .kept (.str x) := (rfl)
@[simp] theorem e_rn4 : resN .none = .kept .none := (rfl)
@[simp] theorem e_rn5 (l : List PyData) : resN (.list l) = .fresh (.list l) := (rfl)
@[simp] theorem e_rn6 (l : List PyData) : resN (.tuple l) = .kept (.tuple l) := (rfl)
@[simp] theorem e_rn7 (l : List (PyData × PyData)) : resN (.dict l) = .fresh (.dict l) := (rfl)
/-! tests -/
def tVa (x : Option (Rs × Rho)) : Option (Bool × Rho) := match x with
  | some (r, ρ) => match rdD r ρ with
    | some (.bool b) => some (b, ρ)
    | _ => none
  | none => none
def tVb (d : Option PyData) (ρ : Rho) : Option (Bool × Rho) := match d with
  | some (.bool b) => some (b, ρ)
  | _ => none
@[simp] theorem e_tV (f : Mo Rs) (ρ : Rho) : tV f ρ = tVa (f ρ) := by
  unfold tV tVa bindM
  cases f ρ with
  | none => rfl
  | some p =>
    dsimp only
    rw [rdR_rd]
    cases rdD p.1 p.2 with
    | none => rfl
    | some d =>
      dsimp only [Option.map]
      unfold optM boolD
      cases d <;> rfl
@[simp] theorem e_tVa (r : Rs) (ρ : Rho) : tVa (some (r, ρ)) = tVb (rdD r ρ) ρ := (rfl)
@[simp] theorem e_tVb (b : Bool) (ρ : Rho) : tVb (some (.bool b)) ρ = some (b, ρ) := (rfl)
def tNa : Option (Bool × Rho) → Option (Bool × Rho)
  | some (b, ρ) => some (!b, ρ)
  | none => none
@[simp] theorem e_tN (f : Mo Bool) (ρ : Rho) : tNotM f ρ = tNa (f ρ) := by
  unfold tNotM tNa bindM
  cases f ρ <;> rfl
@[simp] theorem e_tNa (b : Bool) (ρ : Rho) : tNa (some (b, ρ)) = some (!b, ρ) := (rfl)
def tAa (x : Option (Bool × Rho)) (g : Mo Bool) : Option (Bool × Rho) := match x with
  | some (b, ρ) => if b = true then g ρ else some (false, ρ)
  | none => none
def tOa (x : Option (Bool × Rho)) (g : Mo Bool) : Option (Bool × Rho) := match x with
  | some (b, ρ) => if b = true then some (true, ρ) else g ρ
  | none => none
@[simp] theorem e_tA (f g : Mo Bool) (ρ : Rho) : tAndM f g ρ = tAa (f ρ) g := by
  unfold tAndM tAa bindM
  cases f ρ with
  | none => rfl
  | some p => dsimp only; split <;> rfl
@[simp] theorem e_tO (f g : Mo Bool) (ρ : Rho) : tOrM f g ρ = tOa (f ρ) g := by
  unfold tOrM tOa bindM
  cases f ρ with
  | none => rfl
  | some p => dsimp only; split <;> rfl
@[simp] theorem e_tAt (ρ : Rho) (g : Mo Bool) : tAa (some (true, ρ)) g = g ρ := (rfl)
@[simp] theorem e_tAf (ρ : Rho) (g : Mo Bool) : tAa (some (false, ρ)) g = some (false, ρ) := (rfl)
@[simp] theorem e_tOt (ρ : Rho) (g : Mo Bool) : tOa (some (true, ρ)) g = some (true, ρ) := (rfl)
@[simp] theorem e_tOf (ρ : Rho) (g : Mo Bool) : tOa (some (false, ρ)) g = g ρ := (rfl)
@[simp] theorem e_tY (ρ : Rho) : tYesM ρ = some (true, ρ) := (rfl)
/-! and, or, not, if -/
def xAa (x : Option (Bool × Rho)) (g : Mo Rs) : Option (Rs × Rho) := match x with
  | some (b, ρ) => if b = true then g ρ else some (.kept (.bool false), ρ)
  | none => none
def xOa (x : Option (Bool × Rho)) (g : Mo Rs) : Option (Rs × Rho) := match x with
  | some (b, ρ) => if b = true then some (.kept (.bool true), ρ) else g ρ
  | none => none
def xNa : Option (Bool × Rho) → Option (Rs × Rho)
  | some (b, ρ) => some (.kept (.bool (!b)), ρ)
  | none => none
def xIa (x : Option (Bool × Rho)) (f g : Mo Rs) : Option (Rs × Rho) := match x with
  | some (b, ρ) => if b = true then f ρ else g ρ
  | none => none
@[simp] theorem e_xA (f g : Mo Rs) (ρ : Rho) : xAnd f g ρ = xAa (tV f ρ) g := by
  unfold xAnd xAa bindM
  cases tV f ρ with
  | none => rfl
  | some p => dsimp only; split <;> rfl
@[simp] theorem e_xO (f g : Mo Rs) (ρ : Rho) : xOr f g ρ = xOa (tV f ρ) g := by
  unfold xOr xOa bindM
  cases tV f ρ with
  | none => rfl
  | some p => dsimp only; split <;> rfl
@[simp] theorem e_xN (f : Mo Rs) (ρ : Rho) : xNot f ρ = xNa (tV f ρ) := by
  unfold xNot xNa bindM
  cases tV f ρ <;> rfl
@[simp] theorem e_xI (t : Mo Bool) (f g : Mo Rs) (ρ : Rho) : xIf t f g ρ = xIa (t ρ) f g := by
  unfold xIf xIa bindM
  cases t ρ with
  | none => rfl
  | some p => dsimp only; split <;> rfl
@[simp] theorem e_xAt (ρ : Rho) (g : Mo Rs) : xAa (some (true, ρ)) g = g ρ := (rfl)
@[simp] theorem e_xAf (ρ : Rho) (g : Mo Rs) : xAa (some (false, ρ)) g = some (.kept (.bool false), ρ) := (rfl)
@[simp] theorem e_xOt (ρ : Rho) (g : Mo Rs) : xOa (some (true, ρ)) g = some (.kept (.bool true), ρ) := (rfl)
@[simp] theorem e_xOf (ρ : Rho) (g : Mo Rs) : xOa (some (false, ρ)) g = g ρ := (rfl)
@[simp] theorem e_xNa (b : Bool) (ρ : Rho) : xNa (some (b, ρ)) = some (.kept (.bool (!b)), ρ) := (rfl)
@[simp] theorem e_xIt (ρ : Rho) (f g : Mo Rs) : xIa (some (true, ρ)) f g = f ρ := (rfl)
@[simp] theorem e_xIf (ρ : Rho) (f g : Mo Rs) : xIa (some (false, ρ)) f g = g ρ := (rfl)
/-! arguments, displays, built-ins -/
def aCa (x : Option (Rs × Rho)) (g : Mo (List Rs)) : Option (List Rs × Rho) := match x with
  | some (r, ρ) => match g ρ with
    | some (rs, ρ') => some (r :: rs, ρ')
    | none => none
  | none => none
def aCb (r : Rs) (x : Option (List Rs × Rho)) : Option (List Rs × Rho) := match x with
  | some (rs, ρ') => some (r :: rs, ρ')
  | none => none
@[simp] theorem e_aN (ρ : Rho) : aN ρ = some ([], ρ) := (rfl)
@[simp] theorem e_aC (f : Mo Rs) (g : Mo (List Rs)) (ρ : Rho) : aC f g ρ = aCa (f ρ) g := by
  unfold aC aCa bindM
  cases f ρ with
  | none => rfl
  | some p => dsimp only; cases g p.2 <;> rfl
@[simp] theorem e_aCa (r : Rs) (ρ : Rho) (g : Mo (List Rs)) : aCa (some (r, ρ)) g = aCb r (g ρ) := (rfl)
@[simp] theorem e_aCb (r : Rs) (rs : List Rs) (ρ : Rho) : aCb r (some (rs, ρ)) = some (r :: rs, ρ) := (rfl)
def rdDs (ρ : Rho) : List Rs → Option (List PyData)
  | [] => some []
  | r :: rs => match rdD r ρ, rdDs ρ rs with
    | some d, some ds => some (d :: ds)
    | _, _ => none
@[simp] theorem e_rds0 (ρ : Rho) : rdDs ρ [] = some [] := (rfl)
def cns : Option PyData → Option (List PyData) → Option (List PyData)
  | some d, some ds => some (d :: ds)
  | _, _ => none
@[simp] theorem e_rdsS (r : Rs) (rs : List Rs) (ρ : Rho) : rdDs ρ (r :: rs) = cns (rdD r ρ) (rdDs ρ rs) := (rfl)
@[simp] theorem e_cns (d : PyData) (ds : List PyData) : cns (some d) (some ds) = some (d :: ds) := (rfl)
theorem rdL_rd (rs : List Rs) (ρ : Rho) : rdL rs ρ = (rdDs ρ rs).map fun d => (d, ρ) := by
  induction rs with
  | nil => rfl
  | cons r rs ih =>
    unfold rdL rdDs bindM
    rw [rdR_rd]
    cases rdD r ρ with
    | none => rfl
    | some d =>
      dsimp only [Option.map]
      rw [ih]
      cases rdDs ρ rs <;> rfl
def xBa (op : List PyData → Option PyData) (x : Option (List Rs × Rho)) : Option (Rs × Rho) := match x with
  | some (rs, ρ) => match rdDs ρ rs with
    | some ds => x2d true (op ds) ρ
    | none => none
  | none => none
def xBb (op : List PyData → Option PyData) (x : Option (List PyData)) (ρ : Rho) : Option (Rs × Rho) := match x with
  | some ds => x2d true (op ds) ρ
  | none => none
@[simp] theorem e_xB (op : List PyData → Option PyData) (g : Mo (List Rs)) (ρ : Rho) : xB op g ρ = xBa op (g ρ) := by
  unfold xB xBa bindM
  cases g ρ with
  | none => rfl
  | some p =>
    dsimp only
    rw [rdL_rd]
    cases rdDs p.2 p.1 with
    | none => rfl
    | some ds =>
      dsimp only [Option.map]
      unfold optM x2d
      cases op ds <;> rfl
@[simp] theorem e_xBa (op : List PyData → Option PyData) (rs : List Rs) (ρ : Rho) : xBa op (some (rs, ρ)) = xBb op (rdDs ρ rs) ρ := (rfl)
@[simp] theorem e_xBb (op : List PyData → Option PyData) (ds : List PyData) (ρ : Rho) : xBb op (some ds) ρ = x2d true (op ds) ρ := (rfl)
def x1a (op : PyData → Option PyData) (x : Option (Rs × Rho)) : Option (Rs × Rho) := match x with
  | some (r, ρ) => match rdD r ρ with
    | some d => x2d true (op d) ρ
    | none => none
  | none => none
def x1b (op : PyData → Option PyData) (x : Option PyData) (ρ : Rho) : Option (Rs × Rho) := match x with
  | some d => x2d true (op d) ρ
  | none => none
@[simp] theorem e_x1 (op : PyData → Option PyData) (f : Mo Rs) (ρ : Rho) : x1 op f ρ = x1a op (f ρ) := by
  unfold x1 x1a bindM
  cases f ρ with
  | none => rfl
  | some p =>
    dsimp only
    rw [rdR_rd]
    cases rdD p.1 p.2 with
    | none => rfl
    | some d =>
      dsimp only [Option.map]
      unfold optM x2d
      cases op d <;> rfl
@[simp] theorem e_x1a (op : PyData → Option PyData) (r : Rs) (ρ : Rho) : x1a op (some (r, ρ)) = x1b op (rdD r ρ) ρ := (rfl)
@[simp] theorem e_x1b (op : PyData → Option PyData) (d : PyData) (ρ : Rho) : x1b op (some d) ρ = x2d true (op d) ρ := (rfl)
@[simp] theorem e_so (f : Mo Rs) (ρ : Rho) : xSoSet f ρ = x1a soSet (f ρ) := e_x1 _ _ _
def xIsa (T : String) (x : Option (Rs × Rho)) : Option (Rs × Rho) := match x with
  | some (r, ρ) => match rdD r ρ with
    | some d => some (.kept (.bool (isSub (tyD d) T)), ρ)
    | none => none
  | none => none
def xIsb (T : String) (x : Option PyData) (ρ : Rho) : Option (Rs × Rho) := match x with
  | some d => some (.kept (.bool (isSub (tyD d) T)), ρ)
  | none => none
@[simp] theorem e_is (T : String) (f : Mo Rs) (ρ : Rho) : xIsi T f ρ = xIsa T (f ρ) := by
  unfold xIsi xIsa bindM
  cases f ρ with
  | none => rfl
  | some p =>
    dsimp only
    rw [rdR_rd]
    cases rdD p.1 p.2 <;> rfl
@[simp] theorem e_isa (T : String) (r : Rs) (ρ : Rho) : xIsa T (some (r, ρ)) = xIsb T (rdD r ρ) ρ := (rfl)
@[simp] theorem e_isb (T : String) (d : PyData) (ρ : Rho) : xIsb T (some d) ρ = some (.kept (.bool (isSub (tyD d) T)), ρ) := (rfl)
/-! handed on -/
def kpa : Option (Option (Stt × PyData)) → Nat → Rho → Option (PyData × Rho)
  | some (some (.shr, d)), _, ρ => some (d, ρ)
  | some (some (.own, d)), i, ρ => some (d, ρ.set i (some (.shr, d)))
  | _, _, _ => none
@[simp] theorem e_kk (d : PyData) (ρ : Rho) : keepR (.kept d) ρ = some (d, ρ) := (rfl)
@[simp] theorem e_kf (d : PyData) (ρ : Rho) : keepR (.fresh d) ρ = some (d, ρ) := (rfl)
@[simp] theorem e_ks (i : Nat) (ρ : Rho) : keepR (.slot i) ρ = kpa (gi ρ i) i ρ := by
  unfold keepR kpa gi
  dsimp only
  cases ρ[i]? with
  | none => rfl
  | some x =>
    cases x with
    | none => rfl
    | some p => obtain ⟨st, d⟩ := p; cases st <;> rfl
@[simp] theorem e_kp1 (d : PyData) (i : Nat) (ρ : Rho) : kpa (some (some (.shr, d))) i ρ = some (d, ρ) := (rfl)
@[simp] theorem e_kp2 (d : PyData) (i : Nat) (ρ : Rho) : kpa (some (some (.own, d))) i ρ = some (d, ρ.set i (some (.shr, d))) := (rfl)
def kLa (x : Option (PyData × Rho)) (rs : List Rs) : Option (List PyData × Rho) := match x with
  | some (d, ρ) => match keepL rs ρ with
    | some (ds, ρ') => some (d :: ds, ρ')
    | none => none
  | none => none
def kLb (d : PyData) (x : Option (List PyData × Rho)) : Option (List PyData × Rho) := match x with
  | some (ds, ρ') => some (d :: ds, ρ')
  | none => none
@[simp] theorem e_kL0 (ρ : Rho) : keepL [] ρ = some ([], ρ) := (rfl)
@[simp] theorem e_kLS (r : Rs) (rs : List Rs) (ρ : Rho) : keepL (r :: rs) ρ = kLa (keepR r ρ) rs := by
  show bindM (keepR r) _ ρ = _
  unfold kLa bindM
  cases keepR r ρ with
  | none => rfl
  | some p => dsimp only; cases keepL rs p.2 <;> rfl
@[simp] theorem e_kLa (d : PyData) (ρ : Rho) (rs : List Rs) : kLa (some (d, ρ)) rs = kLb d (keepL rs ρ) := (rfl)
@[simp] theorem e_kLb (d : PyData) (ds : List PyData) (ρ : Rho) : kLb d (some (ds, ρ)) = some (d :: ds, ρ) := (rfl)
/-! displays -/
def dsa (lst : Bool) (x : Option (List Rs × Rho)) : Option (Rs × Rho) := match x with
  | some (rs, ρ) => match keepL rs ρ with
    | some (ds, ρ') => if lenOk ds = true then some ((if lst = true then .fresh (.list ds) else .kept (.tuple ds)), ρ') else none
    | none => none
  | none => none
def dsb (lst : Bool) (x : Option (List PyData × Rho)) : Option (Rs × Rho) := match x with
  | some (ds, ρ') => if lenOk ds = true then some ((if lst = true then .fresh (.list ds) else .kept (.tuple ds)), ρ') else none
  | none => none
theorem few_ok {α : Type} {l : List α} (h : l.length ≤ 1000) : lenOk l = true := decide_eq_true (Nat.le_trans h (by rw [sizeLine_eq]; decide))
@[simp] theorem e_tup (g : Mo (List Rs)) (ρ : Rho) : xTup g ρ = dsa false (g ρ) := by
  unfold xTup dsa bindM
  cases g ρ with
  | none => rfl
  | some p =>
    dsimp only
    cases keepL p.1 p.2 with
    | none => rfl
    | some q => dsimp only; split <;> rfl
@[simp] theorem e_lst (g : Mo (List Rs)) (ρ : Rho) : xLst g ρ = dsa true (g ρ) := by
  unfold xLst dsa bindM
  cases g ρ with
  | none => rfl
  | some p =>
    dsimp only
    cases keepL p.1 p.2 with
    | none => rfl
    | some q => dsimp only; split <;> rfl
@[simp] theorem e_dsa (l : Bool) (rs : List Rs) (ρ : Rho) : dsa l (some (rs, ρ)) = dsb l (keepL rs ρ) := (rfl)
theorem e_dsbt (ds : List PyData) (ρ : Rho) (h : ds.length ≤ 1000) : dsb true (some (ds, ρ)) = some (.fresh (.list ds), ρ) := by
  unfold dsb
  dsimp only
  rw [if_pos (few_ok h)]; rfl
theorem e_dsbf (ds : List PyData) (ρ : Rho) (h : ds.length ≤ 1000) : dsb false (some (ds, ρ)) = some (.kept (.tuple ds), ρ) := by
  unfold dsb
  dsimp only
  rw [if_pos (few_ok h)]; rfl
@[simp] theorem e_l0 (ρ : Rho) : dsb true (some ([], ρ)) = some (.fresh (.list []), ρ) := e_dsbt _ _ (by decide)
@[simp] theorem e_l1 (a : PyData) (ρ : Rho) : dsb true (some ([a], ρ)) = some (.fresh (.list [a]), ρ) := e_dsbt _ _ (by simp)
@[simp] theorem e_l2 (a b : PyData) (ρ : Rho) : dsb true (some ([a, b], ρ)) = some (.fresh (.list [a, b]), ρ) := e_dsbt _ _ (by simp)
@[simp] theorem e_l3 (a b c : PyData) (ρ : Rho) : dsb true (some ([a, b, c], ρ)) = some (.fresh (.list [a, b, c]), ρ) := e_dsbt _ _ (by simp)
@[simp] theorem e_l4 (a b c d : PyData) (ρ : Rho) : dsb true (some ([a, b, c, d], ρ)) = some (.fresh (.list [a, b, c, d]), ρ) := e_dsbt _ _ (by simp)
@[simp] theorem e_t0 (ρ : Rho) : dsb false (some ([], ρ)) = some (.kept (.tuple []), ρ) := e_dsbf _ _ (by decide)
@[simp] theorem e_t1 (a : PyData) (ρ : Rho) : dsb false (some ([a], ρ)) = some (.kept (.tuple [a]), ρ) := e_dsbf _ _ (by simp)
@[simp] theorem e_t2 (a b : PyData) (ρ : Rho) : dsb false (some ([a, b], ρ)) = some (.kept (.tuple [a, b]), ρ) := e_dsbf _ _ (by simp)
@[simp] theorem e_t3 (a b c : PyData) (ρ : Rho) : dsb false (some ([a, b, c], ρ)) = some (.kept (.tuple [a, b, c]), ρ) := e_dsbf _ _ (by simp)
@[simp] theorem e_t4 (a b c d : PyData) (ρ : Rho) : dsb false (some ([a, b, c, d], ρ)) = some (.kept (.tuple [a, b, c, d]), ρ) := e_dsbf _ _ (by simp)
@[simp] theorem e_d0 (ρ : Rho) : xDict0 ρ = some (.fresh (.dict []), ρ) := (rfl)
/-! statements -/
def sqa (x : Option (Fl × Rho)) (g : Mo Fl) : Option (Fl × Rho) := match x with
  | some (.nx, ρ) => g ρ
  | x => x
@[simp] theorem e_sq (f g : Mo Fl) (ρ : Rho) : sSeq f g ρ = sqa (f ρ) g := (rfl)
@[simp] theorem e_sqn (ρ : Rho) (g : Mo Fl) : sqa (some (.nx, ρ)) g = g ρ := (rfl)
@[simp] theorem e_sqr (r : Rs) (ρ : Rho) (g : Mo Fl) : sqa (some (.ret r, ρ)) g = some (.ret r, ρ) := (rfl)
@[simp] theorem e_sqb (ρ : Rho) (g : Mo Fl) : sqa (some (.bk, ρ)) g = some (.bk, ρ) := (rfl)
@[simp] theorem e_sqc (ρ : Rho) (g : Mo Fl) : sqa (some (.ct, ρ)) g = some (.ct, ρ) := (rfl)
def sIa (x : Option (Bool × Rho)) (f g : Mo Fl) : Option (Fl × Rho) := match x with
  | some (b, ρ) => if b = true then f ρ else g ρ
  | none => none
@[simp] theorem e_sI (t : Mo Bool) (f g : Mo Fl) (ρ : Rho) : sIf t f g ρ = sIa (t ρ) f g := by
  unfold sIf sIa bindM
  cases t ρ with
  | none => rfl
  | some p => dsimp only; split <;> rfl
@[simp] theorem e_sIt (ρ : Rho) (f g : Mo Fl) : sIa (some (true, ρ)) f g = f ρ := (rfl)
@[simp] theorem e_sIf (ρ : Rho) (f g : Mo Fl) : sIa (some (false, ρ)) f g = g ρ := (rfl)
@[simp] theorem e_sP (ρ : Rho) : sPass ρ = some (.nx, ρ) := (rfl)
@[simp] theorem e_sB (ρ : Rho) : sBreak ρ = some (.bk, ρ) := (rfl)
@[simp] theorem e_sC (ρ : Rho) : sCont ρ = some (.ct, ρ) := (rfl)
def sRa : Option (Rs × Rho) → Option (Fl × Rho)
  | some (r, ρ) => some (.ret r, ρ)
  | none => none
@[simp] theorem e_sR (f : Mo Rs) (ρ : Rho) : sRet f ρ = sRa (f ρ) := by
  unfold sRet sRa bindM
  cases f ρ <;> rfl
@[simp] theorem e_sRa (r : Rs) (ρ : Rho) : sRa (some (r, ρ)) = some (.ret r, ρ) := (rfl)
def sDa : Option (Rs × Rho) → Option (Fl × Rho)
  | some (_, ρ) => some (.nx, ρ)
  | none => none
@[simp] theorem e_sD (f : Mo Rs) (ρ : Rho) : sDrop f ρ = sDa (f ρ) := by
  unfold sDrop sDa bindM
  cases f ρ <;> rfl
@[simp] theorem e_sDa (r : Rs) (ρ : Rho) : sDa (some (r, ρ)) = some (.nx, ρ) := (rfl)
/-- a store at a name -/
def sto (i : Nat) (x : Option (Rs × Rho)) : Option (Fl × Rho) := match x with
  | some (.kept d, ρ) => if i < ρ.length then some (.nx, ρ.set i (some (.shr, d))) else none
  | some (.fresh d, ρ) => if i < ρ.length then some (.nx, ρ.set i (some (.own, d))) else none
  | some (.slot j, ρ) => match keepR (.slot j) ρ with
    | some (d, ρ') => if i < ρ'.length then some (.nx, ρ'.set i (some (.shr, d))) else none
    | none => none
  | none => none
def stk (i : Nat) (x : Option (PyData × Rho)) : Option (Fl × Rho) := match x with
  | some (d, ρ') => if i < ρ'.length then some (.nx, ρ'.set i (some (.shr, d))) else none
  | none => none
@[simp] theorem e_st (i : Nat) (f : Mo Rs) (ρ : Rho) : sSet i f ρ = sto i (f ρ) := by
  unfold sSet sto bindM
  cases f ρ with
  | none => rfl
  | some p =>
    obtain ⟨r, ρ1⟩ := p
    dsimp only
    unfold storeR
    cases r with
    | kept d =>
      dsimp only
      by_cases hc : i < ρ1.length
      · simp only [if_pos hc]; rfl
      · simp only [if_neg hc]
    | fresh d =>
      dsimp only
      by_cases hc : i < ρ1.length
      · simp only [if_pos hc]; rfl
      · simp only [if_neg hc]
    | slot j =>
      dsimp only
      cases keepR (.slot j) ρ1 with
      | none => rfl
      | some q =>
        dsimp only
        by_cases hc : i < q.2.length
        · simp only [if_pos hc]; rfl
        · simp only [if_neg hc]
@[simp] theorem e_stk (i : Nat) (d : PyData) (ρ : Rho) : sto i (some (.kept d, ρ)) = if i < ρ.length then some (.nx, ρ.set i (some (.shr, d))) else none := (rfl)
@[simp] theorem e_stf (i : Nat) (d : PyData) (ρ : Rho) : sto i (some (.fresh d, ρ)) = if i < ρ.length then some (.nx, ρ.set i (some (.own, d))) else none := (rfl)
@[simp] theorem e_sts (i j : Nat) (ρ : Rho) : sto i (some (.slot j, ρ)) = stk i (keepR (.slot j) ρ) := (rfl)
@[simp] theorem e_stks (i : Nat) (d : PyData) (ρ : Rho) : stk i (some (d, ρ)) = if i < ρ.length then some (.nx, ρ.set i (some (.shr, d))) else none := (rfl)
/-! stores in a list or dict -/
def mua (x : Option (Option (Stt × PyData))) (j : Nat) (op : PyData → Option PyData) (ρ : Rho) : Option (Fl × Rho) := match x with
  | some (some (st, d)) => if st.mut = true then match op d with
      | some d' => some (.nx, ρ.set j (some (st, d')))
      | none => none
    else none
  | _ => none
def mub (j : Nat) (st : Stt) (x : Option PyData) (ρ : Rho) : Option (Fl × Rho) := match x with
  | some d' => some (.nx, ρ.set j (some (st, d')))
  | none => none
theorem e_mu (j : Nat) (op : PyData → Option PyData) (ρ : Rho) : bindM (mutM j op) (fun _ => retM Fl.nx) ρ = mua (gi ρ j) j op ρ := by
  unfold bindM mutM mua gi
  cases ρ[j]? with
  | none => rfl
  | some x =>
    cases x with
    | none => rfl
    | some p =>
      obtain ⟨st, d⟩ := p
      dsimp only
      by_cases hc : st.mut = true
      · simp only [if_pos hc]
        cases op d <;> rfl
      · simp only [if_neg hc]
@[simp] theorem e_muo (j : Nat) (op : PyData → Option PyData) (d : PyData) (ρ : Rho) : mua (some (some (.own, d))) j op ρ = mub j .own (op d) ρ := (rfl)
@[simp] theorem e_mul (j : Nat) (op : PyData → Option PyData) (d : PyData) (ρ : Rho) : mua (some (some (.lent, d))) j op ρ = mub j .lent (op d) ρ := (rfl)
@[simp] theorem e_mub (j : Nat) (st : Stt) (d : PyData) (ρ : Rho) : mub j st (some d) ρ = some (.nx, ρ.set j (some (st, d))) := (rfl)
def spa (j : Nat) (fi : Mo Rs) (x : Option (Rs × Rho)) : Option (Fl × Rho) := match x with
  | some (rv, ρ) => match keepR rv ρ with
    | some (v, ρ1) => (bindM (xV j) fun _ => bindM fi fun ri => bindM (rdR ri) fun i => bindM (mutM j fun d => setD d i v) fun _ => retM .nx) ρ1
    | none => none
  | none => none
def spb (j : Nat) (fi : Mo Rs) (x : Option (PyData × Rho)) : Option (Fl × Rho) := match x with
  | some (v, ρ1) => (bindM (xV j) fun _ => bindM fi fun ri => bindM (rdR ri) fun i => bindM (mutM j fun d => setD d i v) fun _ => retM .nx) ρ1
  | none => none
def spc (j : Nat) (v : PyData) (fi : Mo Rs) (x : Option (Rs × Rho)) : Option (Fl × Rho) := match x with
  | some (_, ρ) => (bindM fi fun ri => bindM (rdR ri) fun i => bindM (mutM j fun d => setD d i v) fun _ => retM .nx) ρ
  | none => none
def spd (j : Nat) (v : PyData) (x : Option (Rs × Rho)) : Option (Fl × Rho) := match x with
  | some (ri, ρ) => (bindM (rdR ri) fun i => bindM (mutM j fun d => setD d i v) fun _ => retM .nx) ρ
  | none => none
def spe (j : Nat) (v : PyData) (x : Option PyData) (ρ : Rho) : Option (Fl × Rho) := match x with
  | some i => mua (gi ρ j) j (fun d => setD d i v) ρ
  | none => none
@[simp] theorem e_sp (j : Nat) (fi fv : Mo Rs) (ρ : Rho) : sPut j fi fv ρ = spa j fi (fv ρ) := by
  unfold sPut spa
  show bindM fv _ ρ = _
  unfold bindM
  cases fv ρ with
  | none => rfl
  | some p => dsimp only; cases keepR p.1 p.2 <;> rfl
@[simp] theorem e_spa (j : Nat) (fi : Mo Rs) (rv : Rs) (ρ : Rho) : spa j fi (some (rv, ρ)) = spb j fi (keepR rv ρ) := (rfl)
@[simp] theorem e_spb (j : Nat) (fi : Mo Rs) (v : PyData) (ρ : Rho) : spb j fi (some (v, ρ)) = spc j v fi (xV j ρ) := by
  unfold spb spc
  dsimp only
  show bindM (xV j) _ ρ = _
  unfold bindM
  cases xV j ρ <;> rfl
@[simp] theorem e_spc (j : Nat) (v : PyData) (fi : Mo Rs) (r : Rs) (ρ : Rho) : spc j v fi (some (r, ρ)) = spd j v (fi ρ) := by
  unfold spc spd
  dsimp only
  show bindM fi _ ρ = _
  unfold bindM
  cases fi ρ <;> rfl
@[simp] theorem e_spd (j : Nat) (v : PyData) (r : Rs) (ρ : Rho) : spd j v (some (r, ρ)) = spe j v (rdD r ρ) ρ := by
  unfold spd spe
  dsimp only
  show bindM (rdR r) _ ρ = _
  conv => lhs; unfold bindM
  rw [rdR_rd]
  cases rdD r ρ with
  | none => rfl
  | some i => exact e_mu j _ ρ
@[simp] theorem e_spe (j : Nat) (v i : PyData) (ρ : Rho) : spe j v (some i) ρ = mua (gi ρ j) j (fun d => setD d i v) ρ := (rfl)
/-! op= -/
def aua (j : Nat) (g : Int → Int → Int) (f : Mo Rs) (x : Option PyData) (ρ : Rho) : Option (Fl × Rho) := match x with
  | some a => match f ρ with
    | some (r, ρ1) => match rdD r ρ1 with
      | some b => sto j (x2d true (augI g a b) ρ1)
      | none => none
    | none => none
  | none => none
def aub (j : Nat) (g : Int → Int → Int) (a : PyData) (x : Option (Rs × Rho)) : Option (Fl × Rho) := match x with
  | some (r, ρ1) => match rdD r ρ1 with
      | some b => sto j (x2d true (augI g a b) ρ1)
      | none => none
  | none => none
def auc (j : Nat) (g : Int → Int → Int) (a : PyData) (x : Option PyData) (ρ : Rho) : Option (Fl × Rho) := match x with
  | some b => sto j (x2d true (augI g a b) ρ)
  | none => none
theorem augI_sto (j : Nat) (g : Int → Int → Int) (a b : PyData) (ρ : Rho) : (bindM (optM (augI g a b)) fun d => bindM (storeR j (.kept d)) fun _ => retM Fl.nx) ρ = sto j (x2d true (augI g a b) ρ) := by
  cases h : augI g a b with
  | none => unfold bindM optM x2d sto; rfl
  | some d =>
    obtain ⟨i, k, rfl, rfl, rfl⟩ := augI_some h
    show bindM (storeR j (.kept _)) _ ρ = _
    unfold bindM storeR
    dsimp only
    show _ = sto j (some (.kept _, ρ))
    unfold sto
    dsimp only
    by_cases hc : j < ρ.length
    · simp only [if_pos hc]; rfl
    · simp only [if_neg hc]
@[simp] theorem e_au (j : Nat) (g : Int → Int → Int) (f : Mo Rs) (ρ : Rho) : sAug j g f ρ = aua j g f (rda (gi ρ j)) ρ := by
  unfold sAug aua
  show bindM (xV j) _ ρ = _
  conv => lhs; unfold bindM
  rw [e_xV]
  have e0 : rda (gi ρ j) = rdD (.slot j) ρ := (e_rs j ρ).symm
  cases hg : gi ρ j with
  | none => rfl
  | some x =>
    cases x with
    | none => rfl
    | some p =>
      show bindM (rdR (.slot j)) _ ρ = _
      conv => lhs; unfold bindM
      rw [rdR_rd, ← hg, e0]
      cases rdD (.slot j) ρ with
      | none => rfl
      | some a =>
        show bindM f _ ρ = _
        conv => lhs; unfold bindM
        dsimp only
        cases f ρ with
        | none => rfl
        | some q =>
          obtain ⟨r, ρ1⟩ := q
          show bindM (rdR r) _ ρ1 = auc j g a (rdD r ρ1) ρ1
          unfold auc
          conv => lhs; unfold bindM
          rw [rdR_rd]
          cases rdD r ρ1 with
          | none => rfl
          | some b => exact augI_sto j g a b ρ1
@[simp] theorem e_aua (j : Nat) (g : Int → Int → Int) (f : Mo Rs) (a : PyData) (ρ : Rho) : aua j g f (some a) ρ = aub j g a (f ρ) := (rfl)
@[simp] theorem e_aub (j : Nat) (g : Int → Int → Int) (a : PyData) (r : Rs) (ρ : Rho) : aub j g a (some (r, ρ)) = auc j g a (rdD r ρ) ρ := (rfl)
@[simp] theorem e_auc (j : Nat) (g : Int → Int → Int) (a b : PyData) (ρ : Rho) : auc j g a (some b) ρ = sto j (x2d true (augI g a b) ρ) := (rfl)
@[simp] theorem e_augI (g : Int → Int → Int) (i j : Int) : augI g (.int i) (.int j) = some (.int (g i j)) := (rfl)
end PyI

/-! PyI, part O: more equations; calls; loops by invariants. -/
namespace PyI
open PySem PySem.Spec L2

/-! ### ints -/
@[simp] theorem o_lt1 (i j : Int) : opLt (.int i) (.int j) = some (.bool (decide (i < j))) := (rfl)
@[simp] theorem o_le1 (i j : Int) : opLe (.int i) (.int j) = some (.bool (decide (i ≤ j))) := (rfl)
@[simp] theorem o_gt1 (i j : Int) : opGt (.int i) (.int j) = some (.bool (decide (j < i))) := (rfl)
@[simp] theorem o_ge1 (i j : Int) : opGe (.int i) (.int j) = some (.bool (decide (j ≤ i))) := (rfl)
@[simp] theorem o_add1 (i j : Int) : opAdd (.int i) (.int j) = some (.int (i + j)) := (rfl)
@[simp] theorem o_sub1 (i j : Int) : opSub (.int i) (.int j) = some (.int (i - j)) := (rfl)
@[simp] theorem o_neg1 (i : Int) : opNeg (.int i) = some (.int (-i)) := (rfl)
@[simp] theorem o_int1 (i : Int) : oInt [.int i] = some (.int i) := (rfl)
@[simp] theorem o_len1 (l : List PyData) : oLen [.list l] = some (.int l.length) := (rfl)
@[simp] theorem o_len2 (l : List PyData) : oLen [.tuple l] = some (.int l.length) := (rfl)
@[simp] theorem o_len3 (l : List (PyData × PyData)) : oLen [.dict l] = some (.int l.length) := (rfl)
@[simp] theorem o_lst1 (l : List PyData) : oList [.list l] = some (.list l) := (rfl)
@[simp] theorem o_lst2 (l : List PyData) : oList [.tuple l] = some (.list l) := (rfl)
@[simp] theorem o_tup1 (l : List PyData) : oTuple [.list l] = some (.tuple l) := (rfl)
@[simp] theorem o_tup2 (l : List PyData) : oTuple [.tuple l] = some (.tuple l) := (rfl)
theorem o_mod1 {i j : Int} (h : 0 < j) : opMod (.int i) (.int j) = some (.int (i % j)) := if_pos h
theorem o_fdiv1 {i j : Int} (h : 0 < j) (h2 : j < 1073741824) : opFdiv (.int i) (.int j) = some (.int (i / j)) := if_pos ⟨h, h2⟩
theorem o_mul1 {i j : Int} (h : (-(2 ^ 64) < i ∧ i < 2 ^ 64) ∨ (-(2 ^ 64) < j ∧ j < 2 ^ 64)) : opMul (.int i) (.int j) = some (.int (i * j)) := if_pos h
@[simp] theorem o_eqI (i j : Int) : opEq (.int i) (.int j) = some (.bool (i == j)) := by unfold opEq; rw [eqD_int]; rfl
@[simp] theorem o_neI (i j : Int) : opNe (.int i) (.int j) = some (.bool (!(i == j))) := by unfold opNe; rw [eqD_int]; rfl
theorem eqD_str (x y : Str) : eqD (.str x) (.str y) = some (x == y) := by simp [eqD, PyData.plain, PyData.depth, PyData.eqv]
@[simp] theorem o_eqS (x y : Str) : opEq (.str x) (.str y) = some (.bool (x == y)) := by unfold opEq; rw [eqD_str]; rfl
@[simp] theorem o_neS (x y : Str) : opNe (.str x) (.str y) = some (.bool (!(x == y))) := by unfold opNe; rw [eqD_str]; rfl
@[simp] theorem o_isN1 (d : PyData) : opIsN d .none = some (.bool (isNone d)) := (rfl)
@[simp] theorem o_notN1 (d : PyData) : opNotN d .none = some (.bool (!isNone d)) := (rfl)
@[simp] theorem o_isB1 (a b : Bool) : opIsB (.bool a) (.bool b) = some (.bool (decide (a = b))) := (rfl)
@[simp] theorem o_notB1 (a b : Bool) : opNotB (.bool a) (.bool b) = some (.bool (!decide (a = b))) := (rfl)
theorem atI_nat' {α : Type} (l : List α) (i : Nat) : atI l (i : Int) = l[i]? := by
  unfold atI ixN
  rw [if_pos (by omega)]
  by_cases h : i < l.length
  · rw [if_pos (by omega)]; simp
  · rw [if_neg (by omega), List.getElem?_eq_none (by omega)]; rfl
@[simp] theorem o_ixL (l : List PyData) (i : Nat) : opIx (.list l) (.int (i : Int)) = l[i]? := atI_nat' l i
@[simp] theorem o_ixT (l : List PyData) (i : Nat) : opIx (.tuple l) (.int (i : Int)) = l[i]? := atI_nat' l i
@[simp] theorem o_ixL0 (l : List PyData) : opIx (.list l) (.int 0) = l[0]? := atI_nat' l 0
@[simp] theorem o_ixT0 (l : List PyData) : opIx (.tuple l) (.int 0) = l[0]? := atI_nat' l 0
@[simp] theorem o_ixL2 (l : List PyData) : opIx (.list l) (.int 2) = l[2]? := atI_nat' l 2
@[simp] theorem o_ixT2 (l : List PyData) : opIx (.tuple l) (.int 2) = l[2]? := atI_nat' l 2
@[simp] theorem o_ixL3 (l : List PyData) : opIx (.list l) (.int 3) = l[3]? := atI_nat' l 3
@[simp] theorem o_ixT3 (l : List PyData) : opIx (.tuple l) (.int 3) = l[3]? := atI_nat' l 3
@[simp] theorem o_ixL1 (l : List PyData) : opIx (.list l) (.int 1) = l[1]? := atI_nat' l 1
@[simp] theorem o_ixT1 (l : List PyData) : opIx (.tuple l) (.int 1) = l[1]? := atI_nat' l 1
/-! ### x[i] op= -/
def aS2 (j : Nat) (g : Int → Int → Int) (f : Mo Rs) (rj : Rs) (x : Option (Rs × Rho)) : Option (Fl × Rho) := match x with
  | some (ri, ρ) => match rdD rj ρ, rdD ri ρ with
    | some o, some i => match getD o i with
      | some a => match f ρ with
        | some (r, ρ1) => match rdD r ρ1 with
          | some b => match augI g a b with
            | some d => mua (gi ρ1 j) j (fun o' => setD o' i d) ρ1
            | none => none
          | none => none
        | none => none
      | none => none
    | _, _ => none
  | none => none
def aS3 (j : Nat) (g : Int → Int → Int) (f : Mo Rs) (o i : Option PyData) (ρ : Rho) : Option (Fl × Rho) := match o, i with
  | some o, some i => match getD o i with
      | some a => match f ρ with
        | some (r, ρ1) => match rdD r ρ1 with
          | some b => match augI g a b with
            | some d => mua (gi ρ1 j) j (fun o' => setD o' i d) ρ1
            | none => none
          | none => none
        | none => none
      | none => none
  | _, _ => none
def aS4 (j : Nat) (g : Int → Int → Int) (f : Mo Rs) (i : PyData) (a : Option PyData) (ρ : Rho) : Option (Fl × Rho) := match a with
      | some a => match f ρ with
        | some (r, ρ1) => match rdD r ρ1 with
          | some b => match augI g a b with
            | some d => mua (gi ρ1 j) j (fun o' => setD o' i d) ρ1
            | none => none
          | none => none
        | none => none
      | none => none
def aS5 (j : Nat) (g : Int → Int → Int) (i a : PyData) (x : Option (Rs × Rho)) : Option (Fl × Rho) := match x with
        | some (r, ρ1) => match rdD r ρ1 with
          | some b => match augI g a b with
            | some d => mua (gi ρ1 j) j (fun o' => setD o' i d) ρ1
            | none => none
          | none => none
        | none => none
def aS6 (j : Nat) (g : Int → Int → Int) (i a : PyData) (b : Option PyData) (ρ1 : Rho) : Option (Fl × Rho) := match b with
          | some b => match augI g a b with
            | some d => mua (gi ρ1 j) j (fun o' => setD o' i d) ρ1
            | none => none
          | none => none
def aS7 (j : Nat) (i : PyData) (d : Option PyData) (ρ1 : Rho) : Option (Fl × Rho) := match d with
            | some d => mua (gi ρ1 j) j (fun o' => setD o' i d) ρ1
            | none => none
def aS1 (j : Nat) (g : Int → Int → Int) (fi f : Mo Rs) (x : Option (Rs × Rho)) : Option (Fl × Rho) := match x with
  | some (rj, ρ) => aS2 j g f rj (fi ρ)
  | none => none
@[simp] theorem e_aS (j : Nat) (g : Int → Int → Int) (fi f : Mo Rs) (ρ : Rho) : sAugS j g fi f ρ = aS1 j g fi f (xV j ρ) := by
  unfold sAugS aS1
  show bindM (xV j) _ ρ = _
  conv => lhs; unfold bindM
  cases xV j ρ with
  | none => rfl
  | some p =>
    obtain ⟨rj, ρ0⟩ := p
    show bindM fi _ ρ0 = aS2 j g f rj (fi ρ0)
    unfold aS2
    conv => lhs; unfold bindM
    cases fi ρ0 with
    | none => rfl
    | some p =>
      obtain ⟨ri, ρ2⟩ := p
      show bindM (rdR rj) _ ρ2 = aS3 j g f (rdD rj ρ2) (rdD ri ρ2) ρ2
      unfold aS3
      conv => lhs; unfold bindM
      rw [rdR_rd]
      cases rdD rj ρ2 with
      | none => rfl
      | some o =>
        show bindM (rdR ri) _ ρ2 = _
        conv => lhs; unfold bindM
        rw [rdR_rd]
        cases rdD ri ρ2 with
        | none => rfl
        | some i =>
          show bindM (optM (getD o i)) _ ρ2 = aS4 j g f i (getD o i) ρ2
          unfold aS4
          conv => lhs; unfold bindM
          cases getD o i with
          | none => rfl
          | some a =>
            show bindM f _ ρ2 = aS5 j g i a (f ρ2)
            unfold aS5
            conv => lhs; unfold bindM
            cases f ρ2 with
            | none => rfl
            | some p =>
              obtain ⟨r, ρ3⟩ := p
              show bindM (rdR r) _ ρ3 = aS6 j g i a (rdD r ρ3) ρ3
              unfold aS6
              conv => lhs; unfold bindM
              rw [rdR_rd]
              cases rdD r ρ3 with
              | none => rfl
              | some b =>
                show bindM (optM (augI g a b)) _ ρ3 = aS7 j i (augI g a b) ρ3
                unfold aS7
                conv => lhs; unfold bindM
                cases augI g a b with
                | none => rfl
                | some d => exact e_mu j _ ρ3
@[simp] theorem e_aS1 (j : Nat) (g : Int → Int → Int) (fi f : Mo Rs) (rj : Rs) (ρ : Rho) : aS1 j g fi f (some (rj, ρ)) = aS2 j g f rj (fi ρ) := (rfl)
@[simp] theorem e_aS2 (j : Nat) (g : Int → Int → Int) (f : Mo Rs) (rj ri : Rs) (ρ : Rho) : aS2 j g f rj (some (ri, ρ)) = aS3 j g f (rdD rj ρ) (rdD ri ρ) ρ := (rfl)
@[simp] theorem e_aS3 (j : Nat) (g : Int → Int → Int) (f : Mo Rs) (o i : PyData) (ρ : Rho) : aS3 j g f (some o) (some i) ρ = aS4 j g f i (getD o i) ρ := (rfl)
@[simp] theorem e_aS4 (j : Nat) (g : Int → Int → Int) (f : Mo Rs) (i a : PyData) (ρ : Rho) : aS4 j g f i (some a) ρ = aS5 j g i a (f ρ) := (rfl)
@[simp] theorem e_aS5 (j : Nat) (g : Int → Int → Int) (i a : PyData) (r : Rs) (ρ : Rho) : aS5 j g i a (some (r, ρ)) = aS6 j g i a (rdD r ρ) ρ := (rfl)
@[simp] theorem e_aS6 (j : Nat) (g : Int → Int → Int) (i a b : PyData) (ρ : Rho) : aS6 j g i a (some b) ρ = aS7 j i (augI g a b) ρ := (rfl)
@[simp] theorem e_aS7 (j : Nat) (i d : PyData) (ρ : Rho) : aS7 j i (some d) ρ = mua (gi ρ j) j (fun o' => setD o' i d) ρ := (rfl)
/-! ### places of lists -/
theorem getD_nat (l : List PyData) (i : Nat) : getD (.list l) (.int (i : Int)) = l[i]? := atI_nat' l i
@[simp] theorem o_gd0 (l : List PyData) : getD (.list l) (.int 0) = l[0]? := getD_nat l 0
@[simp] theorem o_gd1 (l : List PyData) : getD (.list l) (.int 1) = l[1]? := getD_nat l 1
@[simp] theorem o_gd2 (l : List PyData) : getD (.list l) (.int 2) = l[2]? := getD_nat l 2
@[simp] theorem o_gd3 (l : List PyData) : getD (.list l) (.int 3) = l[3]? := getD_nat l 3
theorem setD_nat {l : List PyData} {i : Nat} (h : i < l.length) (v : PyData) : setD (.list l) (.int (i : Int)) v = some (.list (l.set i v)) := by
  show Option.map _ (ixN l.length (i : Int)) = _
  unfold ixN
  rw [if_pos (by omega), if_pos (by omega)]
  simp
theorem setD_0 {l : List PyData} (v : PyData) (h : 0 < l.length) : setD (.list l) (.int 0) v = some (.list (l.set 0 v)) := setD_nat h v
theorem setD_1 {l : List PyData} (v : PyData) (h : 1 < l.length) : setD (.list l) (.int 1) v = some (.list (l.set 1 v)) := setD_nat h v
theorem setD_2 {l : List PyData} (v : PyData) (h : 2 < l.length) : setD (.list l) (.int 2) v = some (.list (l.set 2 v)) := setD_nat h v
theorem setD_3 {l : List PyData} (v : PyData) (h : 3 < l.length) : setD (.list l) (.int 3) v = some (.list (l.set 3 v)) := setD_nat h v
/-! ### targets -/
def gca (x : Option (Unit × Rho)) (gs : G2) (ds : List PyData) : Option (Unit × Rho) := match x with
  | some (_, ρ) => gs.run ds ρ
  | none => none
@[simp] theorem e_gN (i : Nat) (d : PyData) (ρ : Rho) : (gN i).run d ρ = if i < ρ.length then some ((), ρ.set i (some (.shr, d))) else none := (rfl)
@[simp] theorem e_gT (gs : G2) (ds : List PyData) (ρ : Rho) : (gT gs).run (.tuple ds) ρ = gs.run ds ρ := (rfl)
@[simp] theorem e_gC (g : G1) (gs : G2) (d : PyData) (ds : List PyData) (ρ : Rho) : (gsC g gs).run (d :: ds) ρ = gca (g.run d ρ) gs ds := by
  show bindM (g.run d) _ ρ = _
  unfold bindM gca
  cases g.run d ρ <;> rfl
@[simp] theorem e_gca (ρ : Rho) (gs : G2) (ds : List PyData) : gca (some ((), ρ)) gs ds = gs.run ds ρ := (rfl)
@[simp] theorem e_gs0 (ρ : Rho) : gsN.run [] ρ = some ((), ρ) := (rfl)
def upa (g : G1) (x : Option (Rs × Rho)) : Option (Fl × Rho) := match x with
  | some (r, ρ) => match keepR r ρ with
    | some (d, ρ1) => match g.run d ρ1 with
      | some (_, ρ2) => some (.nx, ρ2)
      | none => none
    | none => none
  | none => none
def upb (g : G1) (x : Option (PyData × Rho)) : Option (Fl × Rho) := match x with
    | some (d, ρ1) => match g.run d ρ1 with
      | some (_, ρ2) => some (.nx, ρ2)
      | none => none
    | none => none
def upc (x : Option (Unit × Rho)) : Option (Fl × Rho) := match x with
      | some (_, ρ2) => some (.nx, ρ2)
      | none => none
@[simp] theorem e_up (f : Mo Rs) (g : G1) (ρ : Rho) : sUnp f g ρ = upa g (f ρ) := by
  unfold sUnp upa
  show bindM f _ ρ = _
  conv => lhs; unfold bindM
  cases f ρ with
  | none => rfl
  | some p =>
    obtain ⟨r, ρ0⟩ := p
    show bindM (keepR r) _ ρ0 = upb g (keepR r ρ0)
    unfold upb
    conv => lhs; unfold bindM
    cases keepR r ρ0 with
    | none => rfl
    | some q =>
      obtain ⟨d, ρ1⟩ := q
      show bindM (g.run d) _ ρ1 = upc (g.run d ρ1)
      unfold upc bindM
      cases g.run d ρ1 <;> rfl
@[simp] theorem e_upa (g : G1) (r : Rs) (ρ : Rho) : upa g (some (r, ρ)) = upb g (keepR r ρ) := (rfl)
@[simp] theorem e_upb (g : G1) (d : PyData) (ρ : Rho) : upb g (some (d, ρ)) = upc (g.run d ρ) := (rfl)
@[simp] theorem e_upc (ρ : Rho) : upc (some ((), ρ)) = some (.nx, ρ) := (rfl)
/-! ### d.get(k, x) -/
def gta (fk fx : Mo Rs) (x : Option (Rs × Rho)) : Option (Rs × Rho) := match x with
  | some (r, ρ) => xGet2 (fun _ => some (r, ρ)) fk fx ρ
  | none => none
def gtb (r : Rs) (o : Option PyData) (fk fx : Mo Rs) (ρ : Rho) : Option (Rs × Rho) := match o with
  | some (.dict _) => (bindM fk fun rk => bindM fx fun rx => bindM (rdR rk) fun k => bindM (rdR r) fun o => bindM (keepR rx) fun x => bindM (optM (getK o k)) fun y => retM (.kept (y.getD x))) ρ
  | _ => none
def gtc (r : Rs) (fx : Mo Rs) (x : Option (Rs × Rho)) : Option (Rs × Rho) := match x with
  | some (rk, ρ) => (bindM fx fun rx => bindM (rdR rk) fun k => bindM (rdR r) fun o => bindM (keepR rx) fun x => bindM (optM (getK o k)) fun y => retM (.kept (y.getD x))) ρ
  | none => none
def gtd (r rk : Rs) (x : Option (Rs × Rho)) : Option (Rs × Rho) := match x with
  | some (rx, ρ) => match rdD rk ρ, rdD r ρ with
    | some k, some o => match keepR rx ρ with
      | some (x, ρ1) => match getK o k with
        | some y => some (.kept (y.getD x), ρ1)
        | none => none
      | none => none
    | _, _ => none
  | none => none
def gte (k o : Option PyData) (rx : Rs) (ρ : Rho) : Option (Rs × Rho) := match k, o with
    | some k, some o => match keepR rx ρ with
      | some (x, ρ1) => match getK o k with
        | some y => some (.kept (y.getD x), ρ1)
        | none => none
      | none => none
    | _, _ => none
def gtf (k o : PyData) (x : Option (PyData × Rho)) : Option (Rs × Rho) := match x with
      | some (x, ρ1) => match getK o k with
        | some y => some (.kept (y.getD x), ρ1)
        | none => none
      | none => none
@[simp] theorem e_gt (f fk fx : Mo Rs) (ρ : Rho) : xGet2 f fk fx ρ = gta fk fx (f ρ) := by
  unfold gta xGet2
  conv => lhs; unfold bindM
  cases f ρ <;> rfl
theorem e_gta0 (fk fx : Mo Rs) (r : Rs) (ρ : Rho) : gta fk fx (some (r, ρ)) = gtb r (rdD r ρ) fk fx ρ := by
  unfold gta xGet2
  dsimp only
  show bindM (rdR r) _ ρ = _
  conv => lhs; unfold bindM
  rw [rdR_rd]
  unfold gtb
  cases rdD r ρ with
  | none => rfl
  | some o => cases o <;> rfl
@[simp] theorem e_gta (fk fx : Mo Rs) (r : Rs) (ρ : Rho) : gta fk fx (some (r, ρ)) = gtb r (rdD r ρ) fk fx ρ := e_gta0 _ _ _ _
@[simp] theorem e_gtb (r : Rs) (kvs : List (PyData × PyData)) (fk fx : Mo Rs) (ρ : Rho) : gtb r (some (.dict kvs)) fk fx ρ = gtc r fx (fk ρ) := by
  unfold gtb gtc
  dsimp only
  conv => lhs; unfold bindM
  cases fk ρ <;> rfl
@[simp] theorem e_gtc (r rk : Rs) (fx : Mo Rs) (ρ : Rho) : gtc r fx (some (rk, ρ)) = gtd r rk (fx ρ) := by
  unfold gtc
  dsimp only
  conv => lhs; unfold bindM
  cases fx ρ with
  | none => rfl
  | some p =>
    obtain ⟨rx, ρ0⟩ := p
    show bindM (rdR rk) _ ρ0 = gte (rdD rk ρ0) (rdD r ρ0) rx ρ0
    unfold gte
    conv => lhs; unfold bindM
    rw [rdR_rd]
    cases rdD rk ρ0 with
    | none => rfl
    | some k =>
      show bindM (rdR r) _ ρ0 = _
      conv => lhs; unfold bindM
      rw [rdR_rd]
      cases rdD r ρ0 with
      | none => rfl
      | some o =>
        show bindM (keepR rx) _ ρ0 = gtf k o (keepR rx ρ0)
        unfold gtf
        conv => lhs; unfold bindM
        cases keepR rx ρ0 with
        | none => rfl
        | some q =>
          obtain ⟨x, ρ1⟩ := q
          show bindM (optM (getK o k)) _ ρ1 = _
          unfold bindM
          cases getK o k <;> rfl
@[simp] theorem e_gtd (r rk rx : Rs) (ρ : Rho) : gtd r rk (some (rx, ρ)) = gte (rdD rk ρ) (rdD r ρ) rx ρ := (rfl)
@[simp] theorem e_gte (k o : PyData) (rx : Rs) (ρ : Rho) : gte (some k) (some o) rx ρ = gtf k o (keepR rx ρ) := (rfl)
def gtg (y : Option (Option PyData)) (x : PyData) (ρ : Rho) : Option (Rs × Rho) := match y with
        | some y => some (.kept (y.getD x), ρ)
        | none => none
@[simp] theorem e_gtf (k o x : PyData) (ρ : Rho) : gtf k o (some (x, ρ)) = gtg (getK o k) x ρ := (rfl)
@[simp] theorem e_gtg (y : Option PyData) (x : PyData) (ρ : Rho) : gtg (some y) x ρ = some (.kept (y.getD x), ρ) := (rfl)
@[simp] theorem e_gK (kvs : List (PyData × PyData)) (x : Str) : getK (.dict kvs) (.str x) = some (lookD (.str x) kvs) := (rfl)
@[simp] theorem o_ixD (kvs : List (PyData × PyData)) (x : Str) : opIx (.dict kvs) (.str x) = lookD (.str x) kvs := (rfl)
@[simp] theorem o_inD (kvs : List (PyData × PyData)) (x : Str) : opInA (.str x) (.dict kvs) = some (.bool (lookD (.str x) kvs).isSome) := (rfl)
@[simp] theorem o_ninD (kvs : List (PyData × PyData)) (x : Str) : opNotInA (.str x) (.dict kvs) = some (.bool (!(lookD (.str x) kvs).isSome)) := (rfl)
/-! ### the methods that change -/
def mta (T : String) (j : Nat) (op : PyData → List PyData → Option (PyData × PyData)) (g : Mo (List Rs)) (x : Option (Option (Stt × PyData))) (ρ : Rho) : Option (Rs × Rho) := match x with
  | some (some (st, d)) => if st.mut = true ∧ tyD d = T then match g ρ with
      | some (rs, ρ1) => match keepL rs ρ1 with
        | some (ds, ρ2) => mutR j (fun d => op d ds) ρ2
        | none => none
      | none => none
    else none
  | _ => none
def mtb (j : Nat) (op : PyData → List PyData → Option (PyData × PyData)) (x : Option (List Rs × Rho)) : Option (Rs × Rho) := match x with
      | some (rs, ρ1) => match keepL rs ρ1 with
        | some (ds, ρ2) => mutR j (fun d => op d ds) ρ2
        | none => none
      | none => none
def mtc (j : Nat) (op : PyData → List PyData → Option (PyData × PyData)) (x : Option (List PyData × Rho)) : Option (Rs × Rho) := match x with
        | some (ds, ρ2) => mutR j (fun d => op d ds) ρ2
        | none => none
def mtd (j : Nat) (op : PyData → List PyData → Option (PyData × PyData)) (ds : List PyData) (x : Option (Option (Stt × PyData))) (ρ : Rho) : Option (Rs × Rho) := match x with
  | some (some (st, d)) => if st.mut = true then match op d ds with
      | some (d', rt) => some (.kept rt, ρ.set j (some (st, d')))
      | none => none
    else none
  | _ => none
def mte (j : Nat) (st : Stt) (x : Option (PyData × PyData)) (ρ : Rho) : Option (Rs × Rho) := match x with
      | some (d', rt) => some (.kept rt, ρ.set j (some (st, d')))
      | none => none
@[simp] theorem e_mt (T : String) (j : Nat) (op : PyData → List PyData → Option (PyData × PyData)) (g : Mo (List Rs)) (ρ : Rho) : xMut T j op g ρ = mta T j op g (gi ρ j) ρ := by
  unfold xMut mta gi
  show bindM (chkT T j) _ ρ = _
  conv => lhs; unfold bindM chkT
  cases ρ[j]? with
  | none => rfl
  | some x =>
    cases x with
    | none => rfl
    | some p =>
      obtain ⟨st, d⟩ := p
      dsimp only
      by_cases hc : st.mut = true ∧ tyD d = T
      · simp only [if_pos hc]
        cases g ρ with
        | none => rfl
        | some q =>
          obtain ⟨rs, ρ1⟩ := q
          dsimp only
          cases keepL rs ρ1 with
          | none => rfl
          | some z => rfl
      · simp only [if_neg hc]
theorem e_mta0 (T : String) (j : Nat) (op : PyData → List PyData → Option (PyData × PyData)) (g : Mo (List Rs)) (st : Stt) (d : PyData) (ρ : Rho) (h1 : st.mut = true) (h2 : tyD d = T) : mta T j op g (some (some (st, d))) ρ = mtb j op (g ρ) := if_pos ⟨h1, h2⟩
@[simp] theorem e_mtal (j : Nat) (op : PyData → List PyData → Option (PyData × PyData)) (g : Mo (List Rs)) (l : List PyData) (ρ : Rho) : mta "list" j op g (some (some (.own, .list l))) ρ = mtb j op (g ρ) := e_mta0 _ _ _ _ _ _ _ rfl rfl
@[simp] theorem e_mtal2 (j : Nat) (op : PyData → List PyData → Option (PyData × PyData)) (g : Mo (List Rs)) (l : List PyData) (ρ : Rho) : mta "list" j op g (some (some (.lent, .list l))) ρ = mtb j op (g ρ) := e_mta0 _ _ _ _ _ _ _ rfl rfl
@[simp] theorem e_mtad (j : Nat) (op : PyData → List PyData → Option (PyData × PyData)) (g : Mo (List Rs)) (l : List (PyData × PyData)) (ρ : Rho) : mta "dict" j op g (some (some (.own, .dict l))) ρ = mtb j op (g ρ) := e_mta0 _ _ _ _ _ _ _ rfl rfl
@[simp] theorem e_mtb (j : Nat) (op : PyData → List PyData → Option (PyData × PyData)) (rs : List Rs) (ρ : Rho) : mtb j op (some (rs, ρ)) = mtc j op (keepL rs ρ) := (rfl)
@[simp] theorem e_mtc (j : Nat) (op : PyData → List PyData → Option (PyData × PyData)) (ds : List PyData) (ρ : Rho) : mtc j op (some (ds, ρ)) = mtd j op ds (gi ρ j) ρ := by
  unfold mtc mtd mutR gi
  dsimp only
  all_goals
    cases ρ[j]? with
    | none => rfl
    | some x =>
      cases x with
      | none => rfl
      | some p => rfl
@[simp] theorem e_mtd (j : Nat) (op : PyData → List PyData → Option (PyData × PyData)) (ds : List PyData) (d : PyData) (ρ : Rho) : mtd j op ds (some (some (.own, d))) ρ = mte j .own (op d ds) ρ := (rfl)
@[simp] theorem e_mtd2 (j : Nat) (op : PyData → List PyData → Option (PyData × PyData)) (ds : List PyData) (d : PyData) (ρ : Rho) : mtd j op ds (some (some (.lent, d))) ρ = mte j .lent (op d ds) ρ := (rfl)
@[simp] theorem e_mte (j : Nat) (st : Stt) (d rt : PyData) (ρ : Rho) : mte j st (some (d, rt)) ρ = some (.kept rt, ρ.set j (some (st, d))) := (rfl)
/-! ### calls of defs -/
def ava : Option (Option (Stt × PyData)) → Option (Stt × PyData)
  | some (some (.shr, d)) => some (.shr, d)
  | some (some (.own, d)) => some (.bor, d)
  | some (some (.lent, d)) => some (.bor, d)
  | some (some (.bor, d)) => some (.bor, d)
  | some (some (.scr, d)) => some (.scr, d)
  | _ => none
def ala : Option (Option (Stt × PyData)) → Option (Stt × PyData)
  | some (some (.own, d)) => some (.lent, d)
  | some (some (.lent, d)) => some (.lent, d)
  | _ => none
@[simp] theorem e_avk (d : PyData) (ρ : Rho) : argV (.kept d) ρ = some (.shr, d) := (rfl)
@[simp] theorem e_avf (d : PyData) (ρ : Rho) : argV (.fresh d) ρ = some (.shr, d) := (rfl)
@[simp] theorem e_avs (i : Nat) (ρ : Rho) : argV (.slot i) ρ = ava (gi ρ i) := by
  unfold argV ava gi
  dsimp only
  all_goals
    cases ρ[i]? with
    | none => rfl
    | some x =>
      cases x with
      | none => rfl
      | some p => obtain ⟨st, d⟩ := p; cases st <;> rfl
@[simp] theorem e_als (i : Nat) (ρ : Rho) : argL (.slot i) ρ = ala (gi ρ i) := by
  unfold argL ala gi
  dsimp only
  all_goals
    cases ρ[i]? with
    | none => rfl
    | some x =>
      cases x with
      | none => rfl
      | some p => obtain ⟨st, d⟩ := p; cases st <;> rfl
@[simp] theorem e_av1 (d : PyData) : ava (some (some (.shr, d))) = some (.shr, d) := (rfl)
@[simp] theorem e_av2 (d : PyData) : ava (some (some (.own, d))) = some (.bor, d) := (rfl)
@[simp] theorem e_av3 (d : PyData) : ava (some (some (.bor, d))) = some (.bor, d) := (rfl)
@[simp] theorem e_av4 (d : PyData) : ava (some (some (.lent, d))) = some (.bor, d) := (rfl)
@[simp] theorem e_al1 (d : PyData) : ala (some (some (.own, d))) = some (.lent, d) := (rfl)
@[simp] theorem e_al2 (d : PyData) : ala (some (some (.lent, d))) = some (.lent, d) := (rfl)
def acn : Option (Stt × PyData) → Option (List (Stt × PyData)) → Option (List (Stt × PyData))
  | some a, some l => some (a :: l)
  | _, _ => none
@[simp] theorem e_avs0 (ρ : Rho) (b : Bool) : argVs ρ b [] = some [] := (rfl)
@[simp] theorem e_avsS (ρ : Rho) (r : Rs) (rs : List Rs) : argVs ρ false (r :: rs) = acn (argV r ρ) (argVs ρ false rs) := (rfl)
@[simp] theorem e_avsL (ρ : Rho) (r : Rs) (rs : List Rs) : argVs ρ true (r :: rs) = acn (argL r ρ) (argVs ρ false rs) := (rfl)
@[simp] theorem e_acn (a : Stt × PyData) (l : List (Stt × PyData)) : acn (some a) (some l) = some (a :: l) := (rfl)
def hda : Option (Option (Stt × PyData)) → Bool
  | some (some (st, _)) => st.hold
  | _ => false
@[simp] theorem e_nc0 (ρ : Rho) : noClash ρ [] = true := (rfl)
@[simp] theorem e_ncS (ρ : Rho) (r : Rs) (rs : List Rs) : noClash ρ (r :: rs) = (rs.all (fun r' => !clash ρ r r') && noClash ρ rs) := (rfl)
@[simp] theorem e_clk (ρ : Rho) (d : PyData) (r : Rs) : clash ρ (.kept d) r = false := (rfl)
@[simp] theorem e_clf (ρ : Rho) (d : PyData) (r : Rs) : clash ρ (.fresh d) r = false := (rfl)
@[simp] theorem e_clsk (ρ : Rho) (d : PyData) (i : Nat) : clash ρ (.slot i) (.kept d) = false := (rfl)
@[simp] theorem e_clsf (ρ : Rho) (d : PyData) (i : Nat) : clash ρ (.slot i) (.fresh d) = false := (rfl)
@[simp] theorem e_cls (ρ : Rho) (i j : Nat) : clash ρ (.slot i) (.slot j) = (i == j && hda (gi ρ i)) := by
  unfold clash hda gi
  dsimp only
  all_goals
    cases ρ[i]? with
    | none => rfl
    | some x => cases x <;> rfl
@[simp] theorem e_hd1 (d : PyData) : hda (some (some (.shr, d))) = false := (rfl)
def cla (fn : Fn) (x : Option (List Rs × Rho)) : Option (Rs × Rho) := match x with
  | some (rs, ρ) => match argVs ρ false rs with
    | some args => if noClash ρ rs = true then match fn args with
        | some (.kept d, _) => some (.kept d, ρ)
        | some (.fresh d, _) => some (.fresh d, ρ)
        | _ => none
      else none
    | none => none
  | none => none
def clb (fn : Fn) (a : Option (List (Stt × PyData))) (nc : Bool) (ρ : Rho) : Option (Rs × Rho) := match a with
    | some args => if nc = true then match fn args with
        | some (.kept d, _) => some (.kept d, ρ)
        | some (.fresh d, _) => some (.fresh d, ρ)
        | _ => none
      else none
    | none => none
def clc (x : Option (Rs × Option PyData)) (ρ : Rho) : Option (Rs × Rho) := match x with
        | some (.kept d, _) => some (.kept d, ρ)
        | some (.fresh d, _) => some (.fresh d, ρ)
        | _ => none
@[simp] theorem e_cl (fn : Fn) (g : Mo (List Rs)) (ρ : Rho) : xCall fn g ρ = cla fn (g ρ) := by
  unfold xCall cla bindM
  cases g ρ with
  | none => rfl
  | some p =>
    obtain ⟨rs, ρ1⟩ := p
    dsimp only
    cases argVs ρ1 false rs with
    | none => rfl
    | some args =>
      dsimp only
      split
      · cases fn args with
        | none => rfl
        | some q => obtain ⟨r, l⟩ := q; cases r <;> rfl
      · rfl
@[simp] theorem e_cla (fn : Fn) (rs : List Rs) (ρ : Rho) : cla fn (some (rs, ρ)) = clb fn (argVs ρ false rs) (noClash ρ rs) ρ := (rfl)
@[simp] theorem e_clb (fn : Fn) (args : List (Stt × PyData)) (ρ : Rho) : clb fn (some args) true ρ = clc (fn args) ρ := (rfl)
@[simp] theorem e_clck (d : PyData) (l : Option PyData) (ρ : Rho) : clc (some (.kept d, l)) ρ = some (.kept d, ρ) := (rfl)
@[simp] theorem e_clcf (d : PyData) (l : Option PyData) (ρ : Rho) : clc (some (.fresh d, l)) ρ = some (.fresh d, ρ) := (rfl)
def dla (fn : Fn) (x : Option (List Rs × Rho)) : Option (Rs × Rho) := match x with
  | some (rs, ρ) => xCallL fn (fun _ => some (rs, ρ)) ρ
  | none => none
def stOf : Option (Option (Stt × PyData)) → Stt
  | some (some (st, _)) => st
  | _ => .shr
def dlb (fn : Fn) (i : Nat) (a : Option (List (Stt × PyData))) (nc : Bool) (ρ : Rho) : Option (Rs × Rho) := match a with
    | some args => if nc = true then match fn args, gi ρ i with
        | some (.kept d, some d'), some (some (st, _)) => some (.kept d, ρ.set i (some (st, d')))
        | some (.fresh d, some d'), some (some (st, _)) => some (.fresh d, ρ.set i (some (st, d')))
        | _, _ => none
      else none
    | none => none
def dlc (i : Nat) (x : Option (Rs × Option PyData)) (y : Option (Option (Stt × PyData))) (ρ : Rho) : Option (Rs × Rho) := match x, y with
        | some (.kept d, some d'), some (some (st, _)) => some (.kept d, ρ.set i (some (st, d')))
        | some (.fresh d, some d'), some (some (st, _)) => some (.fresh d, ρ.set i (some (st, d')))
        | _, _ => none
@[simp] theorem e_dl (fn : Fn) (g : Mo (List Rs)) (ρ : Rho) : xCallL fn g ρ = dla fn (g ρ) := by
  unfold dla xCallL
  conv => lhs; unfold bindM
  cases g ρ <;> rfl
@[simp] theorem e_dla (fn : Fn) (i : Nat) (rs : List Rs) (ρ : Rho) : dla fn (some (.slot i :: rs, ρ)) = dlb fn i (argVs ρ true (.slot i :: rs)) (noClash ρ (.slot i :: rs)) ρ := by
  unfold dla xCallL dlb gi
  dsimp only
  unfold bindM
  dsimp only
  cases argVs ρ true (.slot i :: rs) with
  | none => rfl
  | some args =>
    dsimp only
    split
    · cases fn args with
      | none => rfl
      | some q =>
        obtain ⟨r, l⟩ := q
        cases l with
        | none => cases r <;> rfl
        | some d' =>
          cases r with
          | slot k => rfl
          | kept d =>
            dsimp only
            cases ρ[i]? with
            | none => rfl
            | some x => cases x <;> rfl
          | fresh d =>
            dsimp only
            cases ρ[i]? with
            | none => rfl
            | some x => cases x <;> rfl
    · rfl
@[simp] theorem e_dlb (fn : Fn) (i : Nat) (args : List (Stt × PyData)) (ρ : Rho) : dlb fn i (some args) true ρ = dlc i (fn args) (gi ρ i) ρ := (rfl)
@[simp] theorem e_dlck (i : Nat) (d d' : PyData) (st : Stt) (z : PyData) (ρ : Rho) : dlc i (some (.kept d, some d')) (some (some (st, z))) ρ = some (.kept d, ρ.set i (some (st, d'))) := (rfl)
@[simp] theorem e_dlcf (i : Nat) (d d' : PyData) (st : Stt) (z : PyData) (ρ : Rho) : dlc i (some (.fresh d, some d')) (some (some (st, z))) ρ = some (.fresh d, ρ.set i (some (st, d'))) := (rfl)
/-! ### slices -/
def sla (f : Mo Rs) (x : Option (Rs × Rho)) (lo hi : Mo (Option Int)) : Option (Rs × Rho) := match x with
  | some (r, ρ) => (bindM lo fun l => bindM hi fun h => bindM (rdR r) fun d => bindM (optM (opSl d l h)) fun d' => retM (resN d')) ρ
  | none => none
def slb (r : Rs) (x : Option (Option Int × Rho)) (hi : Mo (Option Int)) : Option (Rs × Rho) := match x with
  | some (l, ρ) => (bindM hi fun h => bindM (rdR r) fun d => bindM (optM (opSl d l h)) fun d' => retM (resN d')) ρ
  | none => none
def slc (r : Rs) (l : Option Int) (x : Option (Option Int × Rho)) : Option (Rs × Rho) := match x with
  | some (h, ρ) => match rdD r ρ with
    | some d => x2d true (opSl d l h) ρ
    | none => none
  | none => none
def sld (l h : Option Int) (d : Option PyData) (ρ : Rho) : Option (Rs × Rho) := match d with
    | some d => x2d true (opSl d l h) ρ
    | none => none
@[simp] theorem e_sl (f : Mo Rs) (lo hi : Mo (Option Int)) (ρ : Rho) : xSl f lo hi ρ = sla f (f ρ) lo hi := by
  unfold xSl sla
  conv => lhs; unfold bindM
  cases f ρ <;> rfl
@[simp] theorem e_sla (f : Mo Rs) (r : Rs) (ρ : Rho) (lo hi : Mo (Option Int)) : sla f (some (r, ρ)) lo hi = slb r (lo ρ) hi := by
  unfold sla slb
  dsimp only
  conv => lhs; unfold bindM
  cases lo ρ <;> rfl
@[simp] theorem e_slb (r : Rs) (l : Option Int) (ρ : Rho) (hi : Mo (Option Int)) : slb r (some (l, ρ)) hi = slc r l (hi ρ) := by
  unfold slb
  dsimp only
  conv => lhs; unfold bindM
  cases hi ρ with
  | none => rfl
  | some p =>
    obtain ⟨h, ρ1⟩ := p
    show bindM (rdR r) _ ρ1 = sld l h (rdD r ρ1) ρ1
    unfold sld
    conv => lhs; unfold bindM
    rw [rdR_rd]
    cases rdD r ρ1 with
    | none => rfl
    | some d =>
      show bindM (optM (opSl d l h)) _ ρ1 = x2d true (opSl d l h) ρ1
      unfold bindM x2d
      cases opSl d l h <;> rfl
@[simp] theorem e_slc (r : Rs) (l h : Option Int) (ρ : Rho) : slc r l (some (h, ρ)) = sld l h (rdD r ρ) ρ := (rfl)
@[simp] theorem e_sld (l h : Option Int) (d : PyData) (ρ : Rho) : sld l h (some d) ρ = x2d true (opSl d l h) ρ := (rfl)
@[simp] theorem e_oN (ρ : Rho) : oN ρ = some (none, ρ) := (rfl)
def oSa (x : Option (Rs × Rho)) : Option (Option Int × Rho) := match x with
  | some (r, ρ) => match rdD r ρ with
    | some (.int i) => some (some i, ρ)
    | _ => none
  | none => none
def oSb (d : Option PyData) (ρ : Rho) : Option (Option Int × Rho) := match d with
    | some (.int i) => some (some i, ρ)
    | _ => none
@[simp] theorem e_oS (f : Mo Rs) (ρ : Rho) : oS f ρ = oSa (f ρ) := by
  unfold oS oSa
  conv => lhs; unfold bindM
  cases f ρ with
  | none => rfl
  | some p =>
    obtain ⟨r, ρ1⟩ := p
    show bindM (rdR r) _ ρ1 = oSb (rdD r ρ1) ρ1
    unfold oSb
    conv => lhs; unfold bindM
    rw [rdR_rd]
    cases rdD r ρ1 with
    | none => rfl
    | some d => cases d <;> rfl
@[simp] theorem e_oSa (r : Rs) (ρ : Rho) : oSa (some (r, ρ)) = oSb (rdD r ρ) ρ := (rfl)
@[simp] theorem e_oSb (i : Int) (ρ : Rho) : oSb (some (.int i)) ρ = some (some i, ρ) := (rfl)
/-! ### loops -/
theorem for_inv {ds : List PyData} {g : G1} {b : Mo Fl} (I : Nat → Rho → Prop) (P : Rs → Prop)
    (step : ∀ i d ρ, ds[i]? = some d → I i ρ → ∃ ρ1 fl ρ2, g.run d ρ = some ((), ρ1) ∧ b ρ1 = some (fl, ρ2) ∧ (((fl = .nx ∨ fl = .ct) ∧ I (i + 1) ρ2) ∨ ∃ r, fl = .ret r ∧ P r)) :
    ∀ ρ, I 0 ρ → (∃ ρ', forM ds g b ρ = some (.nx, ρ') ∧ I ds.length ρ') ∨ ∃ r ρ', forM ds g b ρ = some (.ret r, ρ') ∧ P r := by
  have go : ∀ (n i : Nat) (ρ : Rho), i + n = ds.length → I i ρ → (∃ ρ', forM (ds.drop i) g b ρ = some (.nx, ρ') ∧ I ds.length ρ') ∨ ∃ r ρ', forM (ds.drop i) g b ρ = some (.ret r, ρ') ∧ P r := by
    intro n
    induction n with
    | zero =>
      intro i ρ h hi
      obtain rfl : i = ds.length := by omega
      rw [List.drop_length]
      exact .inl ⟨ρ, rfl, hi⟩
    | succ n ih =>
      intro i ρ h hi
      have hlt : i < ds.length := by omega
      rw [List.drop_eq_getElem_cons hlt]
      obtain ⟨ρ1, fl, ρ2, e1, e2, q⟩ := step i _ ρ (List.getElem?_eq_getElem hlt) hi
      unfold forM
      rw [e1]
      dsimp only
      rw [e2]
      rcases q with ⟨rfl | rfl, q⟩ | ⟨r, rfl, q⟩
      · exact ih (i + 1) ρ2 (by omega) q
      · exact ih (i + 1) ρ2 (by omega) q
      · exact .inr ⟨r, ρ2, rfl, q⟩
  intro ρ hi
  have := go ds.length 0 ρ (by omega) hi
  rwa [List.drop_zero] at this
theorem for_all {ds : List PyData} {g : G1} {b : Mo Fl} (I : Nat → Rho → Prop)
    (step : ∀ i d ρ, ds[i]? = some d → I i ρ → ∃ ρ1 ρ2, g.run d ρ = some ((), ρ1) ∧ b ρ1 = some (.nx, ρ2) ∧ I (i + 1) ρ2) {ρ : Rho} (h : I 0 ρ) : ∃ ρ', forM ds g b ρ = some (.nx, ρ') ∧ I ds.length ρ' := by
  rcases for_inv I (fun _ => False) (fun i d ρ hd hi => by obtain ⟨ρ1, ρ2, e1, e2, q⟩ := step i d ρ hd hi; exact ⟨ρ1, .nx, ρ2, e1, e2, .inl ⟨.inl rfl, q⟩⟩) ρ h with z | ⟨r, ρ', _, z⟩
  · exact z
  · exact z.elim
/-- a comprehension whose parts change nothing -/
theorem lc_map {vs : List Nat} {g : G1} {t : Mo Bool} {fe : Mo Rs} {ρ0 : Rho} {p : PyData → Bool} {f : PyData → PyData} : ∀ (ds acc : List PyData), acc.length + ds.length ≤ LIM →
    (∀ d ∈ ds, ∃ ρ1, g.run d ρ0 = some ((), ρ1) ∧ ∃ ρ2, t ρ1 = some (p d, ρ2) ∧ (p d = false → wipeE ρ2 vs = ρ0) ∧ (p d = true → ∃ r ρ3 ρ4, fe ρ2 = some (r, ρ3) ∧ keepR r ρ3 = some (f d, ρ4) ∧ wipeE ρ4 vs = ρ0)) →
    lcM vs g t fe ds acc ρ0 = some (acc ++ (ds.filter p).map f, ρ0)
  | [], acc, _, _ => by simp [lcM, retM]
  | d :: ds, acc, hl, h => by
    obtain ⟨ρ1, e1, ρ2, e2, h1, h2⟩ := h d List.mem_cons_self
    have hl' : acc.length + ds.length + 1 ≤ LIM := by rw [List.length_cons] at hl; omega
    unfold lcM
    rw [e1]
    dsimp only
    rw [e2]
    cases hp : p d with
    | false =>
      dsimp only
      rw [h1 hp, lc_map ds acc (by omega) fun x hx => h x (List.mem_cons_of_mem _ hx), List.filter_cons_of_neg (by simp [hp])]
    | true =>
      obtain ⟨r, ρ3, ρ4, e3, e4, e5⟩ := h2 hp
      dsimp only
      have eb : bindM fe keepR ρ2 = some (f d, ρ4) := by unfold bindM; rw [e3]; exact e4
      rw [eb]
      dsimp only
      rw [if_pos (by omega), e5, lc_map ds (acc ++ [f d]) (by rw [List.length_append, List.length_singleton]; omega) fun x hx => h x (List.mem_cons_of_mem _ hx), List.filter_cons_of_pos hp]
      simp
theorem lc_eval {vs : List Nat} {fi : Mo (List PyData)} {g : G1} {t : Mo Bool} {fe : Mo Rs} {ρ ρ1 : Rho} {ds : List PyData} (p : PyData → Bool) (f : PyData → PyData) (hi : fi ρ = some (ds, ρ1)) (hl : ds.length ≤ LIM)
    (h : ∀ d ∈ ds, ∃ ρ2, g.run d (wipeE ρ1 vs) = some ((), ρ2) ∧ ∃ ρ3, t ρ2 = some (p d, ρ3) ∧ (p d = false → wipeE ρ3 vs = wipeE ρ1 vs) ∧ (p d = true → ∃ r ρ4 ρ5, fe ρ3 = some (r, ρ4) ∧ keepR r ρ4 = some (f d, ρ5) ∧ wipeE ρ5 vs = wipeE ρ1 vs)) :
    xLc vs fi g t fe ρ = some (.fresh (.list ((ds.filter p).map f)), restE ρ1 (wipeE ρ1 vs) vs) := by
  unfold xLc
  rw [hi]
  dsimp only
  rw [lc_map ds [] (by simpa using hl) h]
  rfl
end PyI

/-! PyI, part P: what is walked. -/
namespace PyI
open PySem PySem.Spec L2
def fora (x : Option (List PyData × Rho)) (g : G1) (b : Mo Fl) : Option (Fl × Rho) := match x with
  | some (ds, ρ) => forM ds g b ρ
  | none => none
@[simp] theorem e_for (f : Mo (List PyData)) (g : G1) (b : Mo Fl) (ρ : Rho) : sFor f g b ρ = fora (f ρ) g b := by
  unfold sFor fora bindM
  cases f ρ <;> rfl
@[simp] theorem e_fora (ds : List PyData) (ρ : Rho) (g : G1) (b : Mo Fl) : fora (some (ds, ρ)) g b = forM ds g b ρ := (rfl)
def ira (x : Option (Rs × Rho)) : Option (List PyData × Rho) := match x with
  | some (r, ρ) => match rdD r ρ with
    | some (.int j) => if smallI j = true then some (rngD 0 j.toNat, ρ) else none
    | _ => none
  | none => none
def irb (x : Option PyData) (ρ : Rho) : Option (List PyData × Rho) := match x with
    | some (.int j) => if smallI j = true then some (rngD 0 j.toNat, ρ) else none
    | _ => none
@[simp] theorem e_ir (f : Mo Rs) (ρ : Rho) : iR1 f ρ = ira (f ρ) := by
  unfold iR1 ira
  show bindM f _ ρ = _
  conv => lhs; unfold bindM
  cases f ρ with
  | none => rfl
  | some p =>
    obtain ⟨r, ρ1⟩ := p
    show bindM (rdR r) _ ρ1 = irb (rdD r ρ1) ρ1
    unfold irb
    conv => lhs; unfold bindM
    rw [rdR_rd]
    cases rdD r ρ1 with
    | none => rfl
    | some d =>
      cases d with
      | int j =>
        show (if smallI j = true then retM (rngD 0 j.toNat) else fun _ => none) ρ1 = _
        by_cases h : smallI j = true
        · rw [if_pos h]; simp only [if_pos h]; rfl
        · rw [if_neg h]; simp only [if_neg h]
      | _ => rfl
@[simp] theorem e_ira (r : Rs) (ρ : Rho) : ira (some (r, ρ)) = irb (rdD r ρ) ρ := (rfl)
theorem e_irb (n : Nat) (ρ : Rho) (h : n < 1000000) : irb (some (.int (n : Int))) ρ = some (rngD 0 n, ρ) := by
  show (if smallI (n : Int) = true then some (rngD 0 ((n : Int).toNat), ρ) else none) = _
  have hs : smallI (n : Int) = true := decide_eq_true (by omega)
  rw [if_pos hs]
  simp
def ita : Option (Option (Stt × PyData)) → Nat → Rho → Option (PyData × Rho)
  | some (some (.bor, d)), _, ρ => some (d, ρ)
  | x, i, ρ => kpa x i ρ
@[simp] theorem e_itk (d : PyData) (ρ : Rho) : iterR (.kept d) ρ = some (d, ρ) := (rfl)
@[simp] theorem e_itf (d : PyData) (ρ : Rho) : iterR (.fresh d) ρ = some (d, ρ) := (rfl)
@[simp] theorem e_its (i : Nat) (ρ : Rho) : iterR (.slot i) ρ = ita (gi ρ i) i ρ := by
  unfold iterR ita
  rw [e_ks]
  unfold gi
  dsimp only
  cases ρ[i]? with
  | none => rfl
  | some x =>
    cases x with
    | none => rfl
    | some p => obtain ⟨st, d⟩ := p; cases st <;> rfl
@[simp] theorem e_it1 (d : PyData) (i : Nat) (ρ : Rho) : ita (some (some (.shr, d))) i ρ = some (d, ρ) := (rfl)
@[simp] theorem e_it2 (d : PyData) (i : Nat) (ρ : Rho) : ita (some (some (.bor, d))) i ρ = some (d, ρ) := (rfl)
@[simp] theorem e_it3 (d : PyData) (i : Nat) (ρ : Rho) : ita (some (some (.own, d))) i ρ = some (d, ρ.set i (some (.shr, d))) := (rfl)
def isa (x : Option (Rs × Rho)) : Option (List PyData × Rho) := match x with
  | some (r, ρ) => match iterR r ρ with
    | some (d, ρ1) => match seqOf d with
      | some ds => some (ds, ρ1)
      | none => none
    | none => none
  | none => none
def isb (x : Option (PyData × Rho)) : Option (List PyData × Rho) := match x with
    | some (d, ρ1) => match seqOf d with
      | some ds => some (ds, ρ1)
      | none => none
    | none => none
@[simp] theorem e_iS (f : Mo Rs) (ρ : Rho) : iS f ρ = isa (f ρ) := by
  unfold iS isa
  show bindM f _ ρ = _
  conv => lhs; unfold bindM
  cases f ρ with
  | none => rfl
  | some p =>
    obtain ⟨r, ρ1⟩ := p
    show bindM (iterR r) _ ρ1 = isb (iterR r ρ1)
    unfold isb
    conv => lhs; unfold bindM
    cases iterR r ρ1 with
    | none => rfl
    | some q =>
      obtain ⟨d, ρ2⟩ := q
      show optM (seqOf d) ρ2 = _
      unfold optM
      cases h : seqOf d <;> simp only [h]
@[simp] theorem e_isa' (r : Rs) (ρ : Rho) : isa (some (r, ρ)) = isb (iterR r ρ) := (rfl)
@[simp] theorem e_isbL (l : List PyData) (ρ : Rho) : isb (some (.list l, ρ)) = some (l, ρ) := (rfl)
@[simp] theorem e_isbT (l : List PyData) (ρ : Rho) : isb (some (.tuple l, ρ)) = some (l, ρ) := (rfl)
/-! a walked dict -/
def ida (m : Wm) (x : Option (Option (Stt × PyData))) (i : Nat) (ρ : Rho) : Option (List PyData × Rho) := match x with
  | some (some (.shr, .dict kvs)) => some (selD m kvs, ρ)
  | some (some (.bor, .dict kvs)) => some (selD m kvs, ρ)
  | some (some (.own, .dict kvs)) => some (selD m kvs, ρ.set i (some (.shr, .dict kvs)))
  | _ => none
@[simp] theorem e_id (m : Wm) (i : Nat) (ρ : Rho) : iDict m i ρ = ida m (gi ρ i) i ρ := by
  unfold iDict ida gi
  cases ρ[i]? with
  | none => rfl
  | some x =>
    cases x with
    | none => rfl
    | some p => obtain ⟨st, d⟩ := p; cases st <;> cases d <;> rfl
@[simp] theorem e_id1 (m : Wm) (kvs : List (PyData × PyData)) (i : Nat) (ρ : Rho) : ida m (some (some (.shr, .dict kvs))) i ρ = some (selD m kvs, ρ) := (rfl)
@[simp] theorem e_id2 (m : Wm) (kvs : List (PyData × PyData)) (i : Nat) (ρ : Rho) : ida m (some (some (.bor, .dict kvs))) i ρ = some (selD m kvs, ρ) := (rfl)
@[simp] theorem e_id3 (m : Wm) (kvs : List (PyData × PyData)) (i : Nat) (ρ : Rho) : ida m (some (some (.own, .dict kvs))) i ρ = some (selD m kvs, ρ.set i (some (.shr, .dict kvs))) := (rfl)
/-! a list's place -/
theorem rngD_at {n i : Nat} {d : PyData} (h : (rngD 0 n)[i]? = some d) : d = .int (i : Int) ∧ i < n := by
  have hl : i < n := by
    have := (List.getElem?_eq_some_iff.mp h).1
    rwa [rngD_len] at this
  rw [rngD_get n 0 i hl] at h
  cases h
  exact ⟨by simp, hl⟩
theorem eqD_bool (a b : Bool) : eqD (.bool a) (.bool b) = some (a == b) := by simp [eqD, PyData.plain, PyData.depth, PyData.eqv]
@[simp] theorem o_eqB (x y : Bool) : opEq (.bool x) (.bool y) = some (.bool (x == y)) := by unfold opEq; rw [eqD_bool]; rfl
theorem runF_def {np n : Nat} {body : Mo Fl} {args : List (Stt × PyData)} (h : argsFit np args = true) : runF np n body args = match body (args.map some ++ List.replicate (n - args.length) none) with
    | some (fl, ρ') => match retOf ρ' fl with
      | some r => match lentOf ρ' args with
        | some l => some (r, l)
        | none => none
      | none => none
    | none => none := by unfold runF; rw [if_pos h] <;> rfl
/-- a status under which a value is handed over to be read -/
def Rdg (s : Stt) : Prop := s = .shr ∨ s = .bor
theorem run_ret {np n : Nat} {body : Mo Fl} {args : List (Stt × PyData)} {ρ' : Rho} {fl : Fl} {d : PyData} (hf : argsFit np args = true) (hl : lentOf ρ' args = some none) (e : body (args.map some ++ List.replicate (n - args.length) none) = some (fl, ρ')) (hr : retOf ρ' fl = some (.kept d)) : runF np n body args = some (.kept d, none) := by
  rw [runF_def hf, e]
  dsimp only
  rw [hr]
  dsimp only
  rw [hl]
theorem run_fresh {np n : Nat} {body : Mo Fl} {args : List (Stt × PyData)} {ρ' : Rho} {fl : Fl} {d : PyData} (hf : argsFit np args = true) (hl : lentOf ρ' args = some none) (e : body (args.map some ++ List.replicate (n - args.length) none) = some (fl, ρ')) (hr : retOf ρ' fl = some (.fresh d)) : runF np n body args = some (.fresh d, none) := by
  rw [runF_def hf, e]
  dsimp only
  rw [hr]
  dsimp only
  rw [hl]
end PyI

namespace PyK53
open PySem PySem.Spec L2 PyI
def FUEL : Nat := 200
structure Fns where
  attackers : Fn
  stands : Fn
  judge_stands : Fn
  is_settled : Fn
  law_next : Fn
  law_same : Fn
  law_due : Fn
  law_accepts : Fn
  law_spoilt : Fn
  law : Fn
def c_LABELS : PyData := .tuple ((["stands", "falls", "open"] : List Str).map .str)
def m_attackers (R : Fns) : Mo Fl := (sRet (xSoSet (xLc [2, 3] (iS (xV 0)) (gT (gsC (gN 2) (gsC (gN 3) gsN))) (tV (x2 (xV 3) (xV 1) opEq)) (xV 2))))
def m_stands (R : Fns) : Mo Fl := (sSeq (sSet 2 xDict0)
    (sSeq (sSet 3 (xC (.int 0)))
    (sSeq (sSet 4 (xC (.bool true)))
    (sSeq (whileM FUEL (tV (xV 4)) (sSeq (sSet 5 xDict0)
    (sSeq (sFor (iS (xB oSorted (aC (xV 0) aN))) (gN 6) (sSeq (sSet 7 (xLc [8] (iS (xCall R.attackers (aC (xV 1) (aC (xV 6) aN)))) (gN 8) tYesM (x2i (xGet2 (xV 2) (xV 8) (xTup (aC (xC (.str "open")) (aC (x1 opNeg (xC (.int 1))) aN)))) (xC (.int 0)) opIx)))
    (sIf (tAndM (tV (x2 (xV 6) (xV 2) opNotInA)) (tV (x2 (xC (.str "stands")) (xV 7) opInA))) (sPut 5 (xV 6) (xTup (aC (xC (.str "falls")) (aC (xV 3) aN)))) (sIf (tAndM (tV (x2 (xV 6) (xV 2) opNotInA)) (tAndM (tV (x2 (xC (.str "stands")) (xV 7) opNotInA)) (tV (x2 (xC (.str "open")) (xV 7) opNotInA)))) (sPut 5 (xV 6) (xTup (aC (xC (.str "stands")) (aC (xV 3) aN)))) sPass))))
    (sSeq (sDrop (xMut "dict" 2 mUpdate (aC (xV 5) aN)))
    (sSeq (sAug 3 (fun i j => i + j) (xC (.int 1)))
    (sSet 4 (x2 (xB oLen (aC (xV 5) aN)) (xC (.int 0)) opGt)))))))
    (sRet (xB oTuple (aC (xLc [6] (iS (xB oSorted (aC (xV 0) aN))) (gN 6) tYesM (x2 (xTup (aC (xV 6) aN)) (xGet2 (xV 2) (xV 6) (xTup (aC (xC (.str "open")) (aC (x1 opNeg (xC (.int 1))) aN)))) opAdd)) aN)))))))
def m_judge_stands (R : Fns) : Mo Fl := (sSeq (sIf (tOrM (tNotM (tV (xIsi "tuple" (xV 2)))) (tV (x2 (xC (.bool false)) (xLc [8] (iS (xV 2)) (gN 8) tYesM (xAnd (xIsi "tuple" (xV 8)) (x2 (xB oLen (aC (xV 8) aN)) (xC (.int 3)) opEq))) opInA))) (sRet (xC (.bool false))) sPass)
    (sSeq (sIf (tV (x2 (xLc [4, 7, 7] (iS (xV 2)) (gT (gsC (gN 4) (gsC (gN 7) (gsC (gN 7) gsN)))) tYesM (xV 4)) (xB oSorted (aC (xV 0) aN)) opNe)) (sRet (xC (.bool false))) sPass)
    (sSeq (sSet 3 xDict0)
    (sSeq (sFor (iS (xV 2)) (gT (gsC (gN 4) (gsC (gN 5) (gsC (gN 6) gsN)))) (sSeq (sIf (tOrM (tV (x2 (xV 5) (xC c_LABELS) opNotInA)) (tOrM (tNotM (tV (xIsi "int" (xV 6)))) (tV (xIsi "bool" (xV 6))))) (sRet (xC (.bool false))) sPass)
    (sPut 3 (xV 4) (xTup (aC (xV 5) (aC (xV 6) aN))))))
    (sRet (x2 (xC (.bool false)) (xLc [4] (iDict .keys 3) (gN 4) tYesM (xCall R.is_settled (aC (xV 3) (aC (xCall R.attackers (aC (xV 1) (aC (xV 4) aN))) (aC (x2i (xV 3) (xV 4) opIx) aN))))) opNotInA))))))
def m_is_settled (R : Fns) : Mo Fl := (sSeq (sUnp (xV 2) (gT (gsC (gN 3) (gsC (gN 4) gsN))))
    (sSeq (sSet 5 (xLc [6] (iS (xV 1)) (gN 6) tYesM (x2i (x2i (xV 0) (xV 6) opIx) (xC (.int 0)) opIx)))
    (sSeq (sIf (tV (x2 (xV 3) (xC (.str "stands")) opEq)) (sRet (xAnd (x2 (xV 4) (xC (.int 0)) opGe) (x2 (xC (.bool false)) (xLc [6] (iS (xV 1)) (gN 6) tYesM (xAnd (x2 (x2i (x2i (xV 0) (xV 6) opIx) (xC (.int 0)) opIx) (xC (.str "falls")) opEq) (x2 (x2i (x2i (xV 0) (xV 6) opIx) (xC (.int 1)) opIx) (xV 4) opLt))) opNotInA))) sPass)
    (sSeq (sIf (tV (x2 (xV 3) (xC (.str "falls")) opEq)) (sRet (xAnd (x2 (xV 4) (xC (.int 0)) opGe) (x2 (xC (.bool true)) (xLc [6] (iS (xV 1)) (gN 6) tYesM (xAnd (x2 (x2i (x2i (xV 0) (xV 6) opIx) (xC (.int 0)) opIx) (xC (.str "stands")) opEq) (x2 (x2i (x2i (xV 0) (xV 6) opIx) (xC (.int 1)) opIx) (xV 4) opLt))) opInA))) sPass)
    (sRet (xAnd (x2 (xV 4) (x1 opNeg (xC (.int 1))) opEq) (xAnd (x2 (xC (.str "stands")) (xV 5) opNotInA) (x2 (xC (.str "open")) (xV 5) opInA))))))))
def m_law_next (R : Fns) : Mo Fl := (sSeq (sIf (tAndM (tV (x2 (x2i (xV 0) (xC (.int 2)) opIx) (xC (.int 0)) opEq)) (tV (x2 (x2i (xV 0) (xC (.int 1)) opIx) (xB oLen (aC (x2i (xV 0) (xC (.int 0)) opIx) aN)) opLt))) (sSeq (sSet 2 (x2i (x2i (xV 0) (xC (.int 0)) opIx) (x2i (xV 0) (xC (.int 1)) opIx) opIx))
    (sSeq (sAugS 0 (fun i j => i + j) (xC (.int 1)) (xC (.int 1)))
    (sIf (tV (x2 (xV 2) (x2 (xC (.int 10)) (xC (.int 18)) opPow) opGe)) (sPut 0 (xC (.int 2)) (xV 2)) (sPut 0 (xC (.int 3)) (x2 (xB oInt (aC (x2 (x2 (x2 (x2i (xV 0) (xC (.int 3)) opIx) (xC (.int 48271)) opMul) (x2 (xB oInt (aC (xV 2) aN)) (xC (.int 2147483647)) opMod) opAdd) (xC (.int 7)) opAdd) aN)) (xC (.int 2147483647)) opMod))))) sPass)
    (sSeq (sIf (tV (x2 (x2i (xV 0) (xC (.int 2)) opIx) (xC (.int 0)) opGt)) (sSeq (sSet 3 (x2 (xB oInt (aC (x2i (xV 0) (xC (.int 2)) opIx) aN)) (xV 1) opMod))
    (sSeq (sPut 0 (xC (.int 2)) (x2 (x2i (xV 0) (xC (.int 2)) opIx) (xV 1) opFdiv))
    (sRet (xV 3)))) sPass)
    (sSeq (sPut 0 (xC (.int 3)) (x2 (xB oInt (aC (x2 (x2 (x2i (xV 0) (xC (.int 3)) opIx) (xC (.int 69621)) opMul) (xC (.int 12345)) opAdd) aN)) (xC (.int 2147483647)) opMod))
    (sRet (x2 (xB oInt (aC (x2 (x2i (xV 0) (xC (.int 3)) opIx) (xC (.int 7)) opFdiv) aN)) (xV 1) opMod)))))
def m_law_same (R : Fns) : Mo Fl := (sSeq (sIf (tV (x2 (xV 1) (xC .none) opIsN)) (sRet (x2 (xV 0) (xC .none) opIsN)) sPass)
    (sSeq (sIf (tV (xIsi "bool" (xV 1))) (sRet (xAnd (xIsi "bool" (xV 0)) (x2 (xV 0) (xV 1) opEq))) sPass)
    (sSeq (sIf (tV (xIsi "int" (xV 1))) (sRet (xAnd (xIsi "int" (xV 0)) (xAnd (xNot (xIsi "bool" (xV 0))) (x2 (xV 0) (xV 1) opEq)))) sPass)
    (sSeq (sIf (tV (xIsi "str" (xV 1))) (sRet (xAnd (xIsi "str" (xV 0)) (x2 (xV 0) (xV 1) opEq))) sPass)
    (sSeq (sIf (tAndM (tV (xIsi "tuple" (xV 1))) (tNotM (tV (xIsi "tuple" (xV 0))))) (sRet (xC (.bool false))) sPass)
    (sSeq (sIf (tAndM (tV (xIsi "list" (xV 1))) (tNotM (tV (xIsi "list" (xV 0))))) (sRet (xC (.bool false))) sPass)
    (sSeq (sIf (tV (x2 (xB oLen (aC (xV 0) aN)) (xB oLen (aC (xV 1) aN)) opNe)) (sRet (xC (.bool false))) sPass)
    (sSeq (sFor (iR1 (xB oLen (aC (xV 1) aN))) (gN 2) (sIf (tNotM (tV (xCall R.law_same (aC (x2i (xV 0) (xV 2) opIx) (aC (x2i (xV 1) (xV 2) opIx) aN))))) (sRet (xC (.bool false))) sPass))
    (sRet (xC (.bool true)))))))))))
def m_law_due (R : Fns) : Mo Fl := (sSeq (sSet 2 xDict0)
    (sSeq (sSet 3 (xC (.int 0)))
    (sSeq (sSet 4 (xC (.bool true)))
    (sSeq (whileM FUEL (tV (xV 4)) (sSeq (sSet 5 xDict0)
    (sSeq (sFor (iS (xB oSorted (aC (xV 0) aN))) (gN 6) (sSeq (sSet 7 (xLc [8, 9] (iS (xV 1)) (gT (gsC (gN 8) (gsC (gN 9) gsN))) (tV (x2 (xV 9) (xV 6) opEq)) (xIf (tV (x2 (xV 8) (xV 2) opInA)) (x2i (x2i (xV 2) (xV 8) opIx) (xC (.int 0)) opIx) (xC (.str "open")))))
    (sIf (tAndM (tV (x2 (xV 6) (xV 2) opNotInA)) (tV (x2 (xC (.str "stands")) (xV 7) opInA))) (sPut 5 (xV 6) (xTup (aC (xC (.str "falls")) (aC (xV 3) aN)))) (sIf (tAndM (tV (x2 (xV 6) (xV 2) opNotInA)) (tV (x2 (xLc [10] (iS (xV 7)) (gN 10) (tV (x2 (xV 10) (xC (.str "falls")) opNe)) (xV 10)) (xLst aN) opEq))) (sPut 5 (xV 6) (xTup (aC (xC (.str "stands")) (aC (xV 3) aN)))) sPass))))
    (sSeq (sDrop (xMut "dict" 2 mUpdate (aC (xV 5) aN)))
    (sSeq (sSet 3 (x2 (xV 3) (xC (.int 1)) opAdd))
    (sSet 4 (x2 (xV 5) xDict0 opNe)))))))
    (sRet (xB oTuple (aC (xLc [6] (iS (xB oSorted (aC (xV 0) aN))) (gN 6) tYesM (x2 (xTup (aC (xV 6) aN)) (xIf (tV (x2 (xV 6) (xV 2) opInA)) (x2i (xV 2) (xV 6) opIx) (xTup (aC (xC (.str "open")) (aC (x1 opNeg (xC (.int 1))) aN)))) opAdd)) aN)))))))
def m_law_accepts (R : Fns) : Mo Fl := (sSeq (sIf (tOrM (tNotM (tV (xIsi "tuple" (xV 2)))) (tV (x2 (xLc [9] (iS (xV 2)) (gN 9) (tOrM (tNotM (tV (xIsi "tuple" (xV 9)))) (tV (x2 (xB oLen (aC (xV 9) aN)) (xC (.int 3)) opNe))) (xV 9)) (xLst aN) opNe))) (sRet (xC (.bool false))) sPass)
    (sSeq (sIf (tOrM (tV (x2 (xLc [9] (iS (xV 2)) (gN 9) tYesM (x2i (xV 9) (xC (.int 0)) opIx)) (xB oSorted (aC (xV 0) aN)) opNe)) (tV (x2 (xLc [9] (iS (xV 2)) (gN 9) (tV (x2 (x2i (xV 9) (xC (.int 1)) opIx) (xLst (aC (xC (.str "stands")) (aC (xC (.str "falls")) (aC (xC (.str "open")) aN)))) opNotInA)) (xV 9)) (xLst aN) opNe))) (sRet (xC (.bool false))) sPass)
    (sSeq (sIf (tV (x2 (xLc [9] (iS (xV 2)) (gN 9) (tOrM (tNotM (tV (xIsi "int" (x2i (xV 9) (xC (.int 2)) opIx)))) (tV (xIsi "bool" (x2i (xV 9) (xC (.int 2)) opIx)))) (xV 9)) (xLst aN) opNe)) (sRet (xC (.bool false))) sPass)
    (sSeq (sSet 3 (xB oDictP (aC (xLc [4, 5, 6] (iS (xV 2)) (gT (gsC (gN 4) (gsC (gN 5) (gsC (gN 6) gsN)))) tYesM (xTup (aC (xV 4) (aC (xTup (aC (xV 5) (aC (xV 6) aN))) aN)))) aN)))
    (sSeq (sFor (iDict .keys 3) (gN 4) (sSeq (sUnp (x2i (xV 3) (xV 4) opIx) (gT (gsC (gN 5) (gsC (gN 6) gsN))))
    (sSeq (sSet 7 (xLc [10, 11] (iS (xV 1)) (gT (gsC (gN 10) (gsC (gN 11) gsN))) (tV (x2 (xV 11) (xV 4) opEq)) (x2i (xV 3) (xV 10) opIx)))
    (sSeq (sIf (tAndM (tV (x2 (xV 5) (xC (.str "stands")) opEq)) (tOrM (tV (x2 (xV 6) (xC (.int 0)) opLt)) (tV (x2 (xLc [11, 12] (iS (xV 7)) (gT (gsC (gN 11) (gsC (gN 12) gsN))) (tOrM (tV (x2 (xV 11) (xC (.str "falls")) opNe)) (tV (x2 (xV 12) (xV 6) opGe))) (xC (.int 1))) (xLst aN) opNe)))) (sRet (xC (.bool false))) sPass)
    (sSeq (sIf (tAndM (tV (x2 (xV 5) (xC (.str "falls")) opEq)) (tOrM (tV (x2 (xV 6) (xC (.int 0)) opLt)) (tV (x2 (xLc [11, 12] (iS (xV 7)) (gT (gsC (gN 11) (gsC (gN 12) gsN))) (tAndM (tV (x2 (xV 11) (xC (.str "stands")) opEq)) (tV (x2 (xV 12) (xV 6) opLt))) (xC (.int 1))) (xLst aN) opEq)))) (sRet (xC (.bool false))) sPass)
    (sSeq (sSet 8 (xLc [11, 12] (iS (xV 7)) (gT (gsC (gN 11) (gsC (gN 12) gsN))) tYesM (xV 11)))
    (sIf (tAndM (tV (x2 (xV 5) (xC (.str "open")) opEq)) (tOrM (tV (x2 (xV 6) (x1 opNeg (xC (.int 1))) opNe)) (tOrM (tV (x2 (xC (.str "stands")) (xV 8) opInA)) (tV (x2 (xC (.str "open")) (xV 8) opNotInA))))) (sRet (xC (.bool false))) sPass)))))))
    (sRet (xC (.bool true))))))))
def m_law_spoilt (R : Fns) : Mo Fl := (sSeq (sSet 3 (xLst (aC (xC .none) (aC (xB oList (aC (xV 2) aN)) (aC (x1 opRev (xV 2)) (aC (xSl (xV 2) (oS (xC (.int 1))) oN) (aC (x2 (xV 2) (xSl (xV 2) oN (oS (xC (.int 1)))) opAdd) (aC (xC (.str "told")) (aC xDict0 (aC (xTup aN) (aC (xB oTuple (aC (xLc [5] (iS (xB oSorted (aC (xV 1) aN))) (gN 5) tYesM (xTup (aC (xV 5) (aC (xC (.str "open")) (aC (x1 opNeg (xC (.int 1))) aN))))) aN)) aN)))))))))))
    (sSeq (sSet 3 (x2 (xV 3) (xLst (aC (xB oTuple (aC (xLc [5] (iS (xB oSorted (aC (xV 1) aN))) (gN 5) tYesM (xTup (aC (xV 5) (aC (xC (.str "stands")) (aC (xC (.int 0)) aN))))) aN)) aN)) opAdd))
    (sSeq (sDrop (xMut "list" 3 mAppend (aC (xB oTuple (aC (xLc [5, 6, 7] (iS (xV 2)) (gT (gsC (gN 5) (gsC (gN 6) (gsC (gN 7) gsN)))) tYesM (xTup (aC (xV 5) (aC (xV 6) (aC (xIf (tV (x2 (xV 7) (xC (.int 0)) opGe)) (x2 (xV 7) (xC (.int 3)) opAdd) (xV 7)) aN))))) aN)) aN)))
    (sSeq (sDrop (xMut "list" 3 mAppend (aC (xB oTuple (aC (xLc [5, 6, 7] (iS (xV 2)) (gT (gsC (gN 5) (gsC (gN 6) (gsC (gN 7) gsN)))) tYesM (xTup (aC (xV 5) (aC (xV 6) (aC (xIf (tV (x2 (xV 7) (xC (.int 0)) opGe)) (x2 (xC (.int 2)) (xV 7) opMul) (xV 7)) aN))))) aN)) aN)))
    (sSeq (sIf (tV (x2 (xV 2) (xTup aN) opNe)) (sSeq (sSet 4 (xCallL R.law_next (aC (xV 0) (aC (xB oLen (aC (xV 2) aN)) aN))))
    (sSeq (sUnp (x2i (xV 2) (xV 4) opIx) (gT (gsC (gN 5) (gsC (gN 6) (gsC (gN 7) gsN)))))
    (sSeq (sSet 8 (xLst (aC (xTup (aC (xV 5) (aC (x2i (xLst (aC (xC (.str "stands")) (aC (xC (.str "falls")) (aC (xC (.str "open")) (aC (xC (.str "maybe")) aN))))) (xCallL R.law_next (aC (xV 0) (aC (xC (.int 4)) aN))) opIx) (aC (xV 7) aN)))) (aC (xTup (aC (xV 5) (aC (xV 6) (aC (x2 (xV 7) (xC (.int 1)) opAdd) aN)))) (aC (xTup (aC (xV 5) (aC (xV 6) (aC (x2 (xV 7) (xC (.int 1)) opSub) aN)))) aN)))))
    (sSeq (sSet 8 (x2 (xV 8) (xLst (aC (xTup (aC (xV 5) (aC (xV 6) (aC (x2 (xV 7) (xC (.int 1)) opEq) aN)))) (aC (xTup (aC (xV 5) (aC (xV 6) aN))) (aC (xTup (aC (xV 5) (aC (xLst (aC (xC (.str "stands")) aN)) (aC (xV 7) aN)))) aN)))) opAdd))
    (sSeq (sSet 8 (x2 (xV 8) (xLst (aC (xTup (aC (xC (.str "zz")) (aC (xV 6) (aC (xV 7) aN)))) (aC (xTup (aC (xV 5) (aC (xC (.str "open")) (aC (x1 opNeg (xC (.int 1))) aN)))) (aC (xTup (aC (xV 5) (aC (xC (.str "stands")) (aC (xCallL R.law_next (aC (xV 0) (aC (xC (.int 4)) aN))) aN)))) (aC (xTup (aC (xV 5) (aC (xC (.str "falls")) (aC (xCallL R.law_next (aC (xV 0) (aC (xC (.int 4)) aN))) aN)))) (aC (xC .none) aN)))))) opAdd))
    (sSet 3 (x2 (xV 3) (xLc [9] (iS (xV 8)) (gN 9) tYesM (x2 (x2 (xSl (xV 2) oN (oS (xV 4))) (xTup (aC (xV 9) aN)) opAdd) (xSl (xV 2) (oS (x2 (xV 4) (xC (.int 1)) opAdd)) oN) opAdd)) opAdd))))))) sPass)
    (sRet (x2i (xV 3) (xCallL R.law_next (aC (xV 0) (aC (xB oLen (aC (xV 3) aN)) aN))) opIx)))))))
def m_law (R : Fns) : Mo Fl := (sSeq (sSet 1 (xLst (aC (xScr 0) (aC (xC (.int 0)) (aC (xC (.int 0)) (aC (xC (.int 1)) aN))))))
    (sSeq (sFor (iR1 (xC (.int 3))) (gN 2) (sSeq (sSet 4 (xSl (xLst (aC (xC (.str "q")) (aC (xC (.str "a")) (aC (xC (.str "m")) (aC (xC (.str "b")) (aC (xC (.str "z")) (aC (xC (.str "c")) (aC (xC (.str "n")) aN)))))))) oN (oS (xCallL R.law_next (aC (xV 1) (aC (xC (.int 8)) aN))))))
    (sSeq (sSet 5 (xLst aN))
    (sSeq (sFor (iR1 (xCallL R.law_next (aC (xV 1) (aC (x2 (x2 (xC (.int 2)) (xB oLen (aC (xV 4) aN)) opMul) (xC (.int 1)) opAdd) aN)))) (gN 7) (sDrop (xMut "list" 5 mAppend (aC (xTup (aC (x2i (xV 4) (xCallL R.law_next (aC (xV 1) (aC (xB oLen (aC (xV 4) aN)) aN))) opIx) (aC (x2i (xV 4) (xCallL R.law_next (aC (xV 1) (aC (xB oLen (aC (xV 4) aN)) aN))) opIx) aN))) aN))))
    (sSeq (sSet 6 (xCall R.law_due (aC (xV 4) (aC (xV 5) aN))))
    (sSeq (sIf (tNotM (tV (xCall R.law_accepts (aC (xV 4) (aC (xV 5) (aC (xV 6) aN)))))) (sRet (xC (.bool false))) sPass)
    (sSeq (sSet 8 (xLst (aC (xB oList (aC (xV 4) aN)) (aC (xB oList (aC (xV 5) aN)) aN))))
    (sSeq (sIf (tOrM (tNotM (tV (xCall R.law_same (aC (xCall R.stands (aC (x2i (xV 8) (xC (.int 0)) opIx) (aC (x2i (xV 8) (xC (.int 1)) opIx) aN))) (aC (xV 6) aN))))) (tOrM (tV (x2 (xV 8) (xLst (aC (xV 4) (aC (xV 5) aN))) opNe)) (tV (x2 (xCall R.judge_stands (aC (x2i (xV 8) (xC (.int 0)) opIx) (aC (x2i (xV 8) (xC (.int 1)) opIx) (aC (xV 6) aN)))) (xC (.bool true)) opNotB)))) (sRet (xC (.bool false))) sPass)
    (sFor (iR1 (xC (.int 9))) (gN 7) (sSeq (sSet 9 (xCallL R.law_spoilt (aC (xV 1) (aC (xV 4) (aC (xV 6) aN)))))
    (sSeq (sIf (tNotM (tV (xCall R.law_same (aC (xCall R.judge_stands (aC (x2i (xV 8) (xC (.int 0)) opIx) (aC (x2i (xV 8) (xC (.int 1)) opIx) (aC (xV 9) aN)))) (aC (xCall R.law_accepts (aC (xV 4) (aC (xV 5) (aC (xV 9) aN)))) aN))))) (sRet (xC (.bool false))) sPass)
    (sIf (tAndM (tV (xCall R.law_accepts (aC (xV 4) (aC (xV 5) (aC (xV 9) aN))))) (tV (x2 (xLc [10] (iS (xV 9)) (gN 10) tYesM (xSl (xV 10) oN (oS (xC (.int 2))))) (xLc [10] (iS (xV 6)) (gN 10) tYesM (xSl (xV 10) oN (oS (xC (.int 2))))) opNe))) (sRet (xC (.bool false))) sPass))))))))))))
    (sSeq (sSet 3 (x2 (xC (.int 20)) (xCallL R.law_next (aC (xV 1) (aC (xC (.int 20)) aN))) opAdd))
    (sSeq (sSet 4 (xLc [7] (iR1 (xV 3)) (gN 7) tYesM (x2 (xC (.str "x")) (xB oStr (aC (xV 7) aN)) opAdd)))
    (sSeq (sSet 5 (x2 (xLc [7] (iR1 (x2 (xV 3) (xC (.int 1)) opSub)) (gN 7) tYesM (xTup (aC (x2i (xV 4) (xV 7) opIx) (aC (x2i (xV 4) (x2 (xV 7) (xC (.int 1)) opAdd) opIx) aN)))) (xSl (xLst (aC (xTup (aC (x2i (xV 4) (x2 (xV 3) (xC (.int 1)) opSub) opIx) (aC (x2i (xV 4) (xCallL R.law_next (aC (xV 1) (aC (xV 3) aN))) opIx) aN))) aN)) oN (oS (xCallL R.law_next (aC (xV 1) (aC (xC (.int 2)) aN))))) opAdd))
    (sSeq (sSet 6 (xCall R.law_due (aC (xV 4) (aC (xV 5) aN))))
    (sRet (xAnd (xCall R.law_same (aC (xCall R.stands (aC (xB oList (aC (xV 4) aN)) (aC (xB oList (aC (xV 5) aN)) aN))) (aC (xV 6) aN))) (x2 (xCall R.judge_stands (aC (xB oList (aC (xV 4) aN)) (aC (xB oList (aC (xV 5) aN)) (aC (xV 6) aN)))) (xC (.bool true)) opIsB)))))))))
def stepF (R : Fns) : Fns := { attackers := runF 2 4 (m_attackers R), stands := runF 2 9 (m_stands R), judge_stands := runF 3 9 (m_judge_stands R), is_settled := runF 3 7 (m_is_settled R), law_next := runF 2 4 (m_law_next R), law_same := runF 2 3 (m_law_same R), law_due := runF 2 11 (m_law_due R), law_accepts := runF 3 13 (m_law_accepts R), law_spoilt := runF 3 10 (m_law_spoilt R), law := runF 1 11 (m_law R) }
def lvl : Nat → Fns
  | 0 => { attackers := fun _ => none, stands := fun _ => none, judge_stands := fun _ => none, is_settled := fun _ => none, law_next := fun _ => none, law_same := fun _ => none, law_due := fun _ => none, law_accepts := fun _ => none, law_spoilt := fun _ => none, law := fun _ => none }
  | k + 1 => stepF (lvl k)
end PyK53

namespace PyK53
open PySem PySem.Spec L2 PyI
def topS (i : Nat) : Stmt := PySem.Challenge.pw_loregreat_k53_notes_that_attack.main.body.getD i (.Pass ⟨0, 0, 0, 0⟩)
abbrev t_attackers : Stmt := topS 2
abbrev n_attackers : List Str := ["attacks", "name", "one", "other"]
theorem sc_attackers : FnScope n_attackers ["attacks", "name"] (defScope t_attackers) := ⟨rfl, rfl, rfl, by decide +kernel, rfl, by decide +kernel, by decide +kernel⟩
abbrev t_stands : Stmt := topS 3
abbrev n_stands : List Str := ["names", "attacks", "found", "rank", "grown", "fresh", "name", "others", "other"]
theorem sc_stands : FnScope n_stands ["names", "attacks"] (defScope t_stands) := ⟨rfl, rfl, rfl, by decide +kernel, rfl, by decide +kernel, by decide +kernel⟩
abbrev t_judge_stands : Stmt := topS 4
abbrev n_judge_stands : List Str := ["names", "attacks", "told", "known", "name", "label", "rank", "_", "entry"]
theorem sc_judge_stands : FnScope n_judge_stands ["names", "attacks", "told"] (defScope t_judge_stands) := ⟨rfl, rfl, rfl, by decide +kernel, rfl, by decide +kernel, by decide +kernel⟩
abbrev t_is_settled : Stmt := topS 5
abbrev n_is_settled : List Str := ["known", "others", "told", "label", "rank", "labels", "other"]
theorem sc_is_settled : FnScope n_is_settled ["known", "others", "told"] (defScope t_is_settled) := ⟨rfl, rfl, rfl, by decide +kernel, rfl, by decide +kernel, by decide +kernel⟩
abbrev t_law_next : Stmt := topS 7
abbrev n_law_next : List Str := ["state", "limit", "cell", "value"]
theorem sc_law_next : FnScope n_law_next ["state", "limit"] (defScope t_law_next) := ⟨rfl, rfl, rfl, by decide +kernel, rfl, by decide +kernel, by decide +kernel⟩
abbrev t_law_same : Stmt := topS 8
abbrev n_law_same : List Str := ["actual", "expected", "k"]
theorem sc_law_same : FnScope n_law_same ["actual", "expected"] (defScope t_law_same) := ⟨rfl, rfl, rfl, by decide +kernel, rfl, by decide +kernel, by decide +kernel⟩
abbrev t_law_due : Stmt := topS 9
abbrev n_law_due : List Str := ["names", "attacks", "found", "rank", "turned", "fresh", "name", "labels", "one", "other", "label"]
theorem sc_law_due : FnScope n_law_due ["names", "attacks"] (defScope t_law_due) := ⟨rfl, rfl, rfl, by decide +kernel, rfl, by decide +kernel, by decide +kernel⟩
abbrev t_law_accepts : Stmt := topS 10
abbrev n_law_accepts : List Str := ["names", "attacks", "told", "known", "name", "label", "rank", "others", "words", "entry", "one", "other", "low"]
theorem sc_law_accepts : FnScope n_law_accepts ["names", "attacks", "told"] (defScope t_law_accepts) := ⟨rfl, rfl, rfl, by decide +kernel, rfl, by decide +kernel, by decide +kernel⟩
abbrev t_law_spoilt : Stmt := topS 11
abbrev n_law_spoilt : List Str := ["state", "names", "told", "others", "k", "name", "label", "rank", "entries", "entry"]
theorem sc_law_spoilt : FnScope n_law_spoilt ["state", "names", "told"] (defScope t_law_spoilt) := ⟨rfl, rfl, rfl, by decide +kernel, rfl, by decide +kernel, by decide +kernel⟩
abbrev t_law : Stmt := topS 12
abbrev n_law : List Str := ["script", "state", "turn", "count", "names", "attacks", "due", "k", "handed", "asked", "entry"]
theorem sc_law : FnScope n_law ["script"] (defScope t_law) := ⟨rfl, rfl, rfl, by decide +kernel, rfl, by decide +kernel, by decide +kernel⟩
theorem bt_bool : bootBuiltins "bool" = some (.type "bool") := by decide +kernel
theorem bt_dict : bootBuiltins "dict" = some (.type "dict") := by decide +kernel
theorem bt_int : bootBuiltins "int" = some (.type "int") := by decide +kernel
theorem bt_isinstance : bootBuiltins "isinstance" = some (.builtin "isinstance") := by decide +kernel
theorem bt_len : bootBuiltins "len" = some (.builtin "len") := by decide +kernel
theorem bt_list : bootBuiltins "list" = some (.type "list") := by decide +kernel
theorem bt_set : bootBuiltins "set" = some (.type "set") := by decide +kernel
theorem bt_sorted : bootBuiltins "sorted" = some (.builtin "sorted") := by decide +kernel
theorem bt_str : bootBuiltins "str" = some (.type "str") := by decide +kernel
theorem bt_tuple : bootBuiltins "tuple" = some (.type "tuple") := by decide +kernel
/-- what the module holds beside the defs -/
structure Wh (K : PySem.W.Frag) (mg : Str → Option Value) : Prop where
  n_bool : mg "bool" = none
  n_dict : mg "dict" = none
  n_int : mg "int" = none
  n_isinstance : mg "isinstance" = none
  n_len : mg "len" = none
  n_list : mg "list" = none
  n_range : mg "range" = none
  n_set : mg "set" = none
  n_sorted : mg "sorted" = none
  n_str : mg "str" = none
  n_tuple : mg "tuple" = none
  k_bool : Kit K "bool"
  k_int : Kit K "int"
  k_list : Kit K "list"
  k_str : Kit K "str"
  k_tuple : Kit K "tuple"
  c_LABELS : ConstT K mg "LABELS" ["stands", "falls", "open"]
structure OkF (P : Program) (w : World) (K : PySem.W.Frag) (mg : Str → Option Value) (base : Heap) (k : Nat) (R : Fns) : Prop where
  attackers : Cl P w K mg base k "attackers" R.attackers
  stands : Cl P w K mg base k "stands" R.stands
  judge_stands : Cl P w K mg base k "judge_stands" R.judge_stands
  is_settled : Cl P w K mg base k "is_settled" R.is_settled
  law_next : Cl P w K mg base k "_law_next" R.law_next
  law_same : Cl P w K mg base k "_law_same" R.law_same
  law_due : Cl P w K mg base k "_law_due" R.law_due
  law_accepts : Cl P w K mg base k "_law_accepts" R.law_accepts
  law_spoilt : Cl P w K mg base k "_law_spoilt" R.law_spoilt
  law : Cl P w K mg base k "law" R.law
section
variable {P : Program} {w : World} {K : PySem.W.Frag} {mg : Str → Option Value} {base : Heap} {k : Nat} {R : Fns} {f : Addr} {fd : FuncData}
theorem ok_attackers (W : Wh K mg) (O : OkF P w K mg base k R) (F : Fun K "attackers" "attackers" t_attackers f fd) : FnOk P w K mg base CX0 (k + 1) f fd ["attacks", "name"] (spI K (runF 2 4 (m_attackers R))) := fnI_ok F sc_attackers fun cdv A outer s H E hr => by
  have NN := sc_attackers.nd
  exact (bd_one (sd_ret (pd_soSet rfl (by rfl) W.n_sorted bt_sorted (by rfl) W.n_set bt_set (pd_lc [("one", 2), ("other", 3)] rfl NN (id_seq (pd_v 0)) (blk_ok n_attackers (defScope t_attackers) (by decide +kernel)) rfl (fun _ _ _ _ _ => (gd_tup 2 rfl (gds_cons (gd_name 2 NN) (gds_cons (gd_name 3 NN) gds_nil)) (gsC_len (gsC_len gsN_len)))) (fun _ _ _ _ _ => (tsd_one (td_cmp (o_eq hr.units) (pd_v 3) (pd_v 1)))) (fun _ _ _ _ _ => (pd_v 2))))))
theorem ok_stands (W : Wh K mg) (O : OkF P w K mg base k R) (F : Fun K "stands" "stands" t_stands f fd) : FnOk P w K mg base CX0 (k + 1) f fd ["names", "attacks"] (spI K (runF 2 9 (m_stands R))) := fnI_ok F sc_stands fun cdv A outer s H E hr => by
  have NN := sc_stands.nd
  exact (bd_cons (sd_set 2 NN pd_dict0)
    (bd_cons (sd_set 3 NN pd_int)
    (bd_cons (sd_set 4 NN pd_bl)
    (bd_cons (sd_while FUEL (td_val (pd_v 4)) (bd_cons (sd_set 5 NN pd_dict0)
    (bd_cons (sd_for rfl (id_seq (pd_callB (b_sorted rfl) (by rfl) W.n_sorted bt_sorted (ad_cons (pd_v 0) ad_nil))) (gd_name 6 NN) (bd_cons (sd_setLc 7 [("other", 8)] rfl NN (id_seq (pd_call O.attackers hr (by rfl) (ad_cons (pd_v 1) (ad_cons (pd_v 6) ad_nil)))) (blk_ok n_stands (defScope t_stands) (by decide +kernel)) rfl (fun _ _ _ _ _ => (gd_name 8 NN)) (fun _ _ _ _ _ => tsd_nil) (fun _ _ _ _ _ => (pd_ix (ix_data hr.units) (pd_get2 hr.units (pd_v 2) (pd_v 8) (pd_tup (ad_cons pd_str (ad_cons (pd_neg pd_int) ad_nil))) ⟨rfl, rfl, rfl, rfl⟩) pd_int)) (by rfl))
    (bd_one (sd_if (td_w (wd_and (td_cmp (o_notInA hr.units) (pd_v 6) (pd_v 2)) (wd_and1 (td_cmp (o_inA hr.units) pd_str (pd_v 7))))) (bd_one (sd_put 5 hr.units (pd_v 6) (pd_tup (ad_cons pd_str (ad_cons (pd_v 3) ad_nil))))) (bd_one (sd_if (td_w (wd_and (td_cmp (o_notInA hr.units) (pd_v 6) (pd_v 2)) (wd_and (td_cmp (o_notInA hr.units) pd_str (pd_v 7)) (wd_and1 (td_cmp (o_notInA hr.units) pd_str (pd_v 7)))))) (bd_one (sd_put 5 hr.units (pd_v 6) (pd_tup (ad_cons pd_str (ad_cons (pd_v 3) ad_nil))))) bd_nil))))))
    (bd_cons (sd_expr (pd_mut 2 PySem.F.plainAttrs_dict PySem.F.slot_dict_update PySem.F.type_dict_update mt_update md_update (ad_cons (pd_v 5) ad_nil)))
    (bd_cons (sd_aug 3 NN ip_add pd_int)
    (bd_one (sd_set 4 NN (pd_cmp o_gt (pd_callB b_len (by rfl) W.n_len bt_len (ad_cons (pd_v 5) ad_nil)) pd_int))))))))
    (bd_one (sd_ret (pd_callTy b_tuple (by rfl) W.n_tuple bt_tuple (ad_cons (pd_lc [("name", 6)] rfl NN (id_seq (pd_callB (b_sorted rfl) (by rfl) W.n_sorted bt_sorted (ad_cons (pd_v 0) ad_nil))) (blk_ok n_stands (defScope t_stands) (by decide +kernel)) rfl (fun _ _ _ _ _ => (gd_name 6 NN)) (fun _ _ _ _ _ => tsd_nil) (fun _ _ _ _ _ => (pd_bin o_add (pd_tup (ad_cons (pd_v 6) ad_nil)) (pd_get2 hr.units (pd_v 2) (pd_v 6) (pd_tup (ad_cons pd_str (ad_cons (pd_neg pd_int) ad_nil))) ⟨rfl, rfl, rfl, rfl⟩)))) ad_nil))))))))
theorem ok_judge_stands (W : Wh K mg) (O : OkF P w K mg base k R) (F : Fun K "judge_stands" "judge_stands" t_judge_stands f fd) : FnOk P w K mg base CX0 (k + 1) f fd ["names", "attacks", "told"] (spI K (runF 3 9 (m_judge_stands R))) := fnI_ok F sc_judge_stands fun cdv A outer s H E hr => by
  have NN := sc_judge_stands.nd
  exact (bd_cons (sd_if (td_w (wd_or (td_not (td_val (pd_isi W.k_tuple (pd_v 2) (by rfl) W.n_isinstance (by rfl) W.n_tuple bt_isinstance bt_tuple))) (wd_or1 (td_cmp (o_inA hr.units) pd_bl (pd_lc [("entry", 8)] rfl NN (id_seq (pd_v 2)) (blk_ok n_judge_stands (defScope t_judge_stands) (by decide +kernel)) rfl (fun _ _ _ _ _ => (gd_name 8 NN)) (fun _ _ _ _ _ => tsd_nil) (fun _ _ _ _ _ => (pd_and (pd_isi W.k_tuple (pd_v 8) (by rfl) W.n_isinstance (by rfl) W.n_tuple bt_isinstance bt_tuple) (pd_one (pd_cmp (o_eq hr.units) (pd_callB b_len (by rfl) W.n_len bt_len (ad_cons (pd_v 8) ad_nil)) pd_int))))))))) (bd_one (sd_ret pd_bl)) bd_nil)
    (bd_cons (sd_if (td_cmp (o_ne hr.units) (pd_lc [("name", 4), ("_", 7), ("_", 7)] rfl NN (id_seq (pd_v 2)) (blk_ok n_judge_stands (defScope t_judge_stands) (by decide +kernel)) rfl (fun _ _ _ _ _ => (gd_tup 3 rfl (gds_cons (gd_name 4 NN) (gds_cons (gd_name 7 NN) (gds_cons (gd_name 7 NN) gds_nil))) (gsC_len (gsC_len (gsC_len gsN_len))))) (fun _ _ _ _ _ => tsd_nil) (fun _ _ _ _ _ => (pd_v 4))) (pd_callB (b_sorted rfl) (by rfl) W.n_sorted bt_sorted (ad_cons (pd_v 0) ad_nil))) (bd_one (sd_ret pd_bl)) bd_nil)
    (bd_cons (sd_set 3 NN pd_dict0)
    (bd_cons (sd_for rfl (id_seq (pd_v 2)) (gd_tup 3 rfl (gds_cons (gd_name 4 NN) (gds_cons (gd_name 5 NN) (gds_cons (gd_name 6 NN) gds_nil))) (gsC_len (gsC_len (gsC_len gsN_len)))) (bd_cons (sd_if (td_w (wd_or (td_cmp (o_notInA hr.units) (pd_v 5) (pd_gc W.c_LABELS (by rfl))) (wd_or (td_not (td_val (pd_isi W.k_int (pd_v 6) (by rfl) W.n_isinstance (by rfl) W.n_int bt_isinstance bt_int))) (wd_or1 (td_val (pd_isi W.k_bool (pd_v 6) (by rfl) W.n_isinstance (by rfl) W.n_bool bt_isinstance bt_bool)))))) (bd_one (sd_ret pd_bl)) bd_nil)
    (bd_one (sd_put 3 hr.units (pd_v 4) (pd_tup (ad_cons (pd_v 5) (ad_cons (pd_v 6) ad_nil)))))))
    (bd_one (sd_ret (pd_cmp (o_notInA hr.units) pd_bl (pd_lcD [("name", 4)] rfl NN (PI.keysV 3) (blk_ok n_judge_stands (defScope t_judge_stands) (by decide +kernel)) rfl (fun _ _ _ _ _ => (gd_name 4 NN)) (fun _ _ _ _ _ => tsd_nil) (fun _ _ _ _ _ => (pd_call O.is_settled hr (by rfl) (ad_cons (pd_v 3) (ad_cons (pd_call O.attackers hr (by rfl) (ad_cons (pd_v 1) (ad_cons (pd_v 4) ad_nil))) (ad_cons (pd_ix (ix_data hr.units) (pd_v 3) (pd_v 4)) ad_nil)))))))))))))
theorem ok_is_settled (W : Wh K mg) (O : OkF P w K mg base k R) (F : Fun K "is_settled" "is_settled" t_is_settled f fd) : FnOk P w K mg base CX0 (k + 1) f fd ["known", "others", "told"] (spI K (runF 3 7 (m_is_settled R))) := fnI_ok F sc_is_settled fun cdv A outer s H E hr => by
  have NN := sc_is_settled.nd
  exact (bd_cons (sd_unp (pd_v 2) (gd_tup 2 rfl (gds_cons (gd_name 3 NN) (gds_cons (gd_name 4 NN) gds_nil)) (gsC_len (gsC_len gsN_len))))
    (bd_cons (sd_setLc 5 [("other", 6)] rfl NN (id_seq (pd_v 1)) (blk_ok n_is_settled (defScope t_is_settled) (by decide +kernel)) rfl (fun _ _ _ _ _ => (gd_name 6 NN)) (fun _ _ _ _ _ => tsd_nil) (fun _ _ _ _ _ => (pd_ix (ix_data hr.units) (pd_ix (ix_data hr.units) (pd_v 0) (pd_v 6)) pd_int)) (by rfl))
    (bd_cons (sd_if (td_cmp (o_eq hr.units) (pd_v 3) pd_str) (bd_one (sd_ret (pd_and (pd_cmp o_ge (pd_v 4) pd_int) (pd_one (pd_cmp (o_notInA hr.units) pd_bl (pd_lc [("other", 6)] rfl NN (id_seq (pd_v 1)) (blk_ok n_is_settled (defScope t_is_settled) (by decide +kernel)) rfl (fun _ _ _ _ _ => (gd_name 6 NN)) (fun _ _ _ _ _ => tsd_nil) (fun _ _ _ _ _ => (pd_and (pd_cmp (o_eq hr.units) (pd_ix (ix_data hr.units) (pd_ix (ix_data hr.units) (pd_v 0) (pd_v 6)) pd_int) pd_str) (pd_one (pd_cmp o_lt (pd_ix (ix_data hr.units) (pd_ix (ix_data hr.units) (pd_v 0) (pd_v 6)) pd_int) (pd_v 4))))))))))) bd_nil)
    (bd_cons (sd_if (td_cmp (o_eq hr.units) (pd_v 3) pd_str) (bd_one (sd_ret (pd_and (pd_cmp o_ge (pd_v 4) pd_int) (pd_one (pd_cmp (o_inA hr.units) pd_bl (pd_lc [("other", 6)] rfl NN (id_seq (pd_v 1)) (blk_ok n_is_settled (defScope t_is_settled) (by decide +kernel)) rfl (fun _ _ _ _ _ => (gd_name 6 NN)) (fun _ _ _ _ _ => tsd_nil) (fun _ _ _ _ _ => (pd_and (pd_cmp (o_eq hr.units) (pd_ix (ix_data hr.units) (pd_ix (ix_data hr.units) (pd_v 0) (pd_v 6)) pd_int) pd_str) (pd_one (pd_cmp o_lt (pd_ix (ix_data hr.units) (pd_ix (ix_data hr.units) (pd_v 0) (pd_v 6)) pd_int) (pd_v 4))))))))))) bd_nil)
    (bd_one (sd_ret (pd_and (pd_cmp (o_eq hr.units) (pd_v 4) (pd_neg pd_int)) (pd_and (pd_cmp (o_notInA hr.units) pd_str (pd_v 5)) (pd_one (pd_cmp (o_inA hr.units) pd_str (pd_v 5)))))))))))
theorem ok_law_next (W : Wh K mg) (O : OkF P w K mg base k R) (F : Fun K "_law_next" "_law_next" t_law_next f fd) : FnOk P w K mg base CX0 (k + 1) f fd ["state", "limit"] (spI K (runF 2 4 (m_law_next R))) := fnI_ok F sc_law_next fun cdv A outer s H E hr => by
  have NN := sc_law_next.nd
  exact (bd_cons (sd_if (td_w (wd_and (td_cmp (o_eq hr.units) (pd_ix (ix_data hr.units) (pd_v 0) pd_int) pd_int) (wd_and1 (td_cmp o_lt (pd_ix (ix_data hr.units) (pd_v 0) pd_int) (pd_callB b_len (by rfl) W.n_len bt_len (ad_cons (pd_ix (ix_data hr.units) (pd_v 0) pd_int) ad_nil)))))) (bd_cons (sd_set 2 NN (pd_ix (ix_data hr.units) (pd_ix (ix_data hr.units) (pd_v 0) pd_int) (pd_ix (ix_data hr.units) (pd_v 0) pd_int)))
    (bd_cons (sd_augS 0 hr.units ip_add pd_int pd_int)
    (bd_one (sd_if (td_cmp o_ge (pd_v 2) (pd_bin o_pow pd_int pd_int)) (bd_one (sd_put 0 hr.units pd_int (pd_v 2))) (bd_one (sd_put 0 hr.units pd_int (pd_bin o_mod (pd_callTy b_int (by rfl) W.n_int bt_int (ad_cons (pd_bin o_add (pd_bin o_add (pd_bin o_mul (pd_ix (ix_data hr.units) (pd_v 0) pd_int) pd_int) (pd_bin o_mod (pd_callTy b_int (by rfl) W.n_int bt_int (ad_cons (pd_v 2) ad_nil)) pd_int)) pd_int) ad_nil)) pd_int))))))) bd_nil)
    (bd_cons (sd_if (td_cmp o_gt (pd_ix (ix_data hr.units) (pd_v 0) pd_int) pd_int) (bd_cons (sd_set 3 NN (pd_bin o_mod (pd_callTy b_int (by rfl) W.n_int bt_int (ad_cons (pd_ix (ix_data hr.units) (pd_v 0) pd_int) ad_nil)) (pd_v 1)))
    (bd_cons (sd_put 0 hr.units pd_int (pd_bin o_fdiv (pd_ix (ix_data hr.units) (pd_v 0) pd_int) (pd_v 1)))
    (bd_one (sd_ret (pd_v 3))))) bd_nil)
    (bd_cons (sd_put 0 hr.units pd_int (pd_bin o_mod (pd_callTy b_int (by rfl) W.n_int bt_int (ad_cons (pd_bin o_add (pd_bin o_mul (pd_ix (ix_data hr.units) (pd_v 0) pd_int) pd_int) pd_int) ad_nil)) pd_int))
    (bd_one (sd_ret (pd_bin o_mod (pd_callTy b_int (by rfl) W.n_int bt_int (ad_cons (pd_bin o_fdiv (pd_ix (ix_data hr.units) (pd_v 0) pd_int) pd_int) ad_nil)) (pd_v 1)))))))
theorem ok_law_same (W : Wh K mg) (O : OkF P w K mg base k R) (F : Fun K "_law_same" "_law_same" t_law_same f fd) : FnOk P w K mg base CX0 (k + 1) f fd ["actual", "expected"] (spI K (runF 2 3 (m_law_same R))) := fnI_ok F sc_law_same fun cdv A outer s H E hr => by
  have NN := sc_law_same.nd
  exact (bd_cons (sd_if (td_cmp o_isN (pd_v 1) pd_non) (bd_one (sd_ret (pd_cmp o_isN (pd_v 0) pd_non))) bd_nil)
    (bd_cons (sd_if (td_val (pd_isi W.k_bool (pd_v 1) (by rfl) W.n_isinstance (by rfl) W.n_bool bt_isinstance bt_bool)) (bd_one (sd_ret (pd_and (pd_isi W.k_bool (pd_v 0) (by rfl) W.n_isinstance (by rfl) W.n_bool bt_isinstance bt_bool) (pd_one (pd_cmp (o_eq hr.units) (pd_v 0) (pd_v 1)))))) bd_nil)
    (bd_cons (sd_if (td_val (pd_isi W.k_int (pd_v 1) (by rfl) W.n_isinstance (by rfl) W.n_int bt_isinstance bt_int)) (bd_one (sd_ret (pd_and (pd_isi W.k_int (pd_v 0) (by rfl) W.n_isinstance (by rfl) W.n_int bt_isinstance bt_int) (pd_and (pd_not (pd_isi W.k_bool (pd_v 0) (by rfl) W.n_isinstance (by rfl) W.n_bool bt_isinstance bt_bool)) (pd_one (pd_cmp (o_eq hr.units) (pd_v 0) (pd_v 1))))))) bd_nil)
    (bd_cons (sd_if (td_val (pd_isi W.k_str (pd_v 1) (by rfl) W.n_isinstance (by rfl) W.n_str bt_isinstance bt_str)) (bd_one (sd_ret (pd_and (pd_isi W.k_str (pd_v 0) (by rfl) W.n_isinstance (by rfl) W.n_str bt_isinstance bt_str) (pd_one (pd_cmp (o_eq hr.units) (pd_v 0) (pd_v 1)))))) bd_nil)
    (bd_cons (sd_if (td_w (wd_and (td_val (pd_isi W.k_tuple (pd_v 1) (by rfl) W.n_isinstance (by rfl) W.n_tuple bt_isinstance bt_tuple)) (wd_and1 (td_not (td_val (pd_isi W.k_tuple (pd_v 0) (by rfl) W.n_isinstance (by rfl) W.n_tuple bt_isinstance bt_tuple)))))) (bd_one (sd_ret pd_bl)) bd_nil)
    (bd_cons (sd_if (td_w (wd_and (td_val (pd_isi W.k_list (pd_v 1) (by rfl) W.n_isinstance (by rfl) W.n_list bt_isinstance bt_list)) (wd_and1 (td_not (td_val (pd_isi W.k_list (pd_v 0) (by rfl) W.n_isinstance (by rfl) W.n_list bt_isinstance bt_list)))))) (bd_one (sd_ret pd_bl)) bd_nil)
    (bd_cons (sd_if (td_cmp (o_ne hr.units) (pd_callB b_len (by rfl) W.n_len bt_len (ad_cons (pd_v 0) ad_nil)) (pd_callB b_len (by rfl) W.n_len bt_len (ad_cons (pd_v 1) ad_nil))) (bd_one (sd_ret pd_bl)) bd_nil)
    (bd_cons (sd_for rfl (id_range1 (by rfl) W.n_range (pd_callB b_len (by rfl) W.n_len bt_len (ad_cons (pd_v 1) ad_nil))) (gd_name 2 NN) (bd_one (sd_if (td_not (td_val (pd_call O.law_same hr (by rfl) (ad_cons (pd_ix (ix_data hr.units) (pd_v 0) (pd_v 2)) (ad_cons (pd_ix (ix_data hr.units) (pd_v 1) (pd_v 2)) ad_nil))))) (bd_one (sd_ret pd_bl)) bd_nil)))
    (bd_one (sd_ret pd_bl))))))))))
theorem ok_law_due (W : Wh K mg) (O : OkF P w K mg base k R) (F : Fun K "_law_due" "_law_due" t_law_due f fd) : FnOk P w K mg base CX0 (k + 1) f fd ["names", "attacks"] (spI K (runF 2 11 (m_law_due R))) := fnI_ok F sc_law_due fun cdv A outer s H E hr => by
  have NN := sc_law_due.nd
  exact (bd_cons (sd_set 2 NN pd_dict0)
    (bd_cons (sd_set 3 NN pd_int)
    (bd_cons (sd_set 4 NN pd_bl)
    (bd_cons (sd_while FUEL (td_val (pd_v 4)) (bd_cons (sd_set 5 NN pd_dict0)
    (bd_cons (sd_for rfl (id_seq (pd_callB (b_sorted rfl) (by rfl) W.n_sorted bt_sorted (ad_cons (pd_v 0) ad_nil))) (gd_name 6 NN) (bd_cons (sd_setLc 7 [("one", 8), ("other", 9)] rfl NN (id_seq (pd_v 1)) (blk_ok n_law_due (defScope t_law_due) (by decide +kernel)) rfl (fun _ _ _ _ _ => (gd_tup 2 rfl (gds_cons (gd_name 8 NN) (gds_cons (gd_name 9 NN) gds_nil)) (gsC_len (gsC_len gsN_len)))) (fun _ _ _ _ _ => (tsd_one (td_cmp (o_eq hr.units) (pd_v 9) (pd_v 6)))) (fun _ _ _ _ _ => (pd_if (td_cmp (o_inA hr.units) (pd_v 8) (pd_v 2)) (pd_ix (ix_data hr.units) (pd_ix (ix_data hr.units) (pd_v 2) (pd_v 8)) pd_int) pd_str)) (by rfl))
    (bd_one (sd_if (td_w (wd_and (td_cmp (o_notInA hr.units) (pd_v 6) (pd_v 2)) (wd_and1 (td_cmp (o_inA hr.units) pd_str (pd_v 7))))) (bd_one (sd_put 5 hr.units (pd_v 6) (pd_tup (ad_cons pd_str (ad_cons (pd_v 3) ad_nil))))) (bd_one (sd_if (td_w (wd_and (td_cmp (o_notInA hr.units) (pd_v 6) (pd_v 2)) (wd_and1 (td_cmp (o_eq hr.units) (pd_lc [("label", 10)] rfl NN (id_seq (pd_v 7)) (blk_ok n_law_due (defScope t_law_due) (by decide +kernel)) rfl (fun _ _ _ _ _ => (gd_name 10 NN)) (fun _ _ _ _ _ => (tsd_one (td_cmp (o_ne hr.units) (pd_v 10) pd_str))) (fun _ _ _ _ _ => (pd_v 10))) (pd_lst ad_nil))))) (bd_one (sd_put 5 hr.units (pd_v 6) (pd_tup (ad_cons pd_str (ad_cons (pd_v 3) ad_nil))))) bd_nil))))))
    (bd_cons (sd_expr (pd_mut 2 PySem.F.plainAttrs_dict PySem.F.slot_dict_update PySem.F.type_dict_update mt_update md_update (ad_cons (pd_v 5) ad_nil)))
    (bd_cons (sd_set 3 NN (pd_bin o_add (pd_v 3) pd_int))
    (bd_one (sd_set 4 NN (pd_cmp (o_ne hr.units) (pd_v 5) pd_dict0))))))))
    (bd_one (sd_ret (pd_callTy b_tuple (by rfl) W.n_tuple bt_tuple (ad_cons (pd_lc [("name", 6)] rfl NN (id_seq (pd_callB (b_sorted rfl) (by rfl) W.n_sorted bt_sorted (ad_cons (pd_v 0) ad_nil))) (blk_ok n_law_due (defScope t_law_due) (by decide +kernel)) rfl (fun _ _ _ _ _ => (gd_name 6 NN)) (fun _ _ _ _ _ => tsd_nil) (fun _ _ _ _ _ => (pd_bin o_add (pd_tup (ad_cons (pd_v 6) ad_nil)) (pd_if (td_cmp (o_inA hr.units) (pd_v 6) (pd_v 2)) (pd_ix (ix_data hr.units) (pd_v 2) (pd_v 6)) (pd_tup (ad_cons pd_str (ad_cons (pd_neg pd_int) ad_nil))))))) ad_nil))))))))
theorem ok_law_accepts (W : Wh K mg) (O : OkF P w K mg base k R) (F : Fun K "_law_accepts" "_law_accepts" t_law_accepts f fd) : FnOk P w K mg base CX0 (k + 1) f fd ["names", "attacks", "told"] (spI K (runF 3 13 (m_law_accepts R))) := fnI_ok F sc_law_accepts fun cdv A outer s H E hr => by
  have NN := sc_law_accepts.nd
  exact (bd_cons (sd_if (td_w (wd_or (td_not (td_val (pd_isi W.k_tuple (pd_v 2) (by rfl) W.n_isinstance (by rfl) W.n_tuple bt_isinstance bt_tuple))) (wd_or1 (td_cmp (o_ne hr.units) (pd_lc [("entry", 9)] rfl NN (id_seq (pd_v 2)) (blk_ok n_law_accepts (defScope t_law_accepts) (by decide +kernel)) rfl (fun _ _ _ _ _ => (gd_name 9 NN)) (fun _ _ _ _ _ => (tsd_one (td_w (wd_or (td_not (td_val (pd_isi W.k_tuple (pd_v 9) (by rfl) W.n_isinstance (by rfl) W.n_tuple bt_isinstance bt_tuple))) (wd_or1 (td_cmp (o_ne hr.units) (pd_callB b_len (by rfl) W.n_len bt_len (ad_cons (pd_v 9) ad_nil)) pd_int)))))) (fun _ _ _ _ _ => (pd_v 9))) (pd_lst ad_nil))))) (bd_one (sd_ret pd_bl)) bd_nil)
    (bd_cons (sd_if (td_w (wd_or (td_cmp (o_ne hr.units) (pd_lc [("entry", 9)] rfl NN (id_seq (pd_v 2)) (blk_ok n_law_accepts (defScope t_law_accepts) (by decide +kernel)) rfl (fun _ _ _ _ _ => (gd_name 9 NN)) (fun _ _ _ _ _ => tsd_nil) (fun _ _ _ _ _ => (pd_ix (ix_data hr.units) (pd_v 9) pd_int))) (pd_callB (b_sorted rfl) (by rfl) W.n_sorted bt_sorted (ad_cons (pd_v 0) ad_nil))) (wd_or1 (td_cmp (o_ne hr.units) (pd_lc [("entry", 9)] rfl NN (id_seq (pd_v 2)) (blk_ok n_law_accepts (defScope t_law_accepts) (by decide +kernel)) rfl (fun _ _ _ _ _ => (gd_name 9 NN)) (fun _ _ _ _ _ => (tsd_one (td_cmp (o_notInA hr.units) (pd_ix (ix_data hr.units) (pd_v 9) pd_int) (pd_lst (ad_cons pd_str (ad_cons pd_str (ad_cons pd_str ad_nil))))))) (fun _ _ _ _ _ => (pd_v 9))) (pd_lst ad_nil))))) (bd_one (sd_ret pd_bl)) bd_nil)
    (bd_cons (sd_if (td_cmp (o_ne hr.units) (pd_lc [("entry", 9)] rfl NN (id_seq (pd_v 2)) (blk_ok n_law_accepts (defScope t_law_accepts) (by decide +kernel)) rfl (fun _ _ _ _ _ => (gd_name 9 NN)) (fun _ _ _ _ _ => (tsd_one (td_w (wd_or (td_not (td_val (pd_isi W.k_int (pd_ix (ix_data hr.units) (pd_v 9) pd_int) (by rfl) W.n_isinstance (by rfl) W.n_int bt_isinstance bt_int))) (wd_or1 (td_val (pd_isi W.k_bool (pd_ix (ix_data hr.units) (pd_v 9) pd_int) (by rfl) W.n_isinstance (by rfl) W.n_bool bt_isinstance bt_bool))))))) (fun _ _ _ _ _ => (pd_v 9))) (pd_lst ad_nil)) (bd_one (sd_ret pd_bl)) bd_nil)
    (bd_cons (sd_set 3 NN (pd_callTy (b_dictP rfl) (by rfl) W.n_dict bt_dict (ad_cons (pd_lc [("name", 4), ("label", 5), ("rank", 6)] rfl NN (id_seq (pd_v 2)) (blk_ok n_law_accepts (defScope t_law_accepts) (by decide +kernel)) rfl (fun _ _ _ _ _ => (gd_tup 3 rfl (gds_cons (gd_name 4 NN) (gds_cons (gd_name 5 NN) (gds_cons (gd_name 6 NN) gds_nil))) (gsC_len (gsC_len (gsC_len gsN_len))))) (fun _ _ _ _ _ => tsd_nil) (fun _ _ _ _ _ => (pd_tup (ad_cons (pd_v 4) (ad_cons (pd_tup (ad_cons (pd_v 5) (ad_cons (pd_v 6) ad_nil))) ad_nil))))) ad_nil)))
    (bd_cons (sd_forD rfl (PI.keysV 3) (gd_name 4 NN) (bd_cons (sd_unp (pd_ix (ix_data hr.units) (pd_v 3) (pd_v 4)) (gd_tup 2 rfl (gds_cons (gd_name 5 NN) (gds_cons (gd_name 6 NN) gds_nil)) (gsC_len (gsC_len gsN_len))))
    (bd_cons (sd_setLc 7 [("one", 10), ("other", 11)] rfl NN (id_seq (pd_v 1)) (blk_ok n_law_accepts (defScope t_law_accepts) (by decide +kernel)) rfl (fun _ _ _ _ _ => (gd_tup 2 rfl (gds_cons (gd_name 10 NN) (gds_cons (gd_name 11 NN) gds_nil)) (gsC_len (gsC_len gsN_len)))) (fun _ _ _ _ _ => (tsd_one (td_cmp (o_eq hr.units) (pd_v 11) (pd_v 4)))) (fun _ _ _ _ _ => (pd_ix (ix_data hr.units) (pd_v 3) (pd_v 10))) (by rfl))
    (bd_cons (sd_if (td_w (wd_and (td_cmp (o_eq hr.units) (pd_v 5) pd_str) (wd_and1 (td_w (wd_or (td_cmp o_lt (pd_v 6) pd_int) (wd_or1 (td_cmp (o_ne hr.units) (pd_lc [("other", 11), ("low", 12)] rfl NN (id_seq (pd_v 7)) (blk_ok n_law_accepts (defScope t_law_accepts) (by decide +kernel)) rfl (fun _ _ _ _ _ => (gd_tup 2 rfl (gds_cons (gd_name 11 NN) (gds_cons (gd_name 12 NN) gds_nil)) (gsC_len (gsC_len gsN_len)))) (fun _ _ _ _ _ => (tsd_one (td_w (wd_or (td_cmp (o_ne hr.units) (pd_v 11) pd_str) (wd_or1 (td_cmp o_ge (pd_v 12) (pd_v 6))))))) (fun _ _ _ _ _ => pd_int)) (pd_lst ad_nil)))))))) (bd_one (sd_ret pd_bl)) bd_nil)
    (bd_cons (sd_if (td_w (wd_and (td_cmp (o_eq hr.units) (pd_v 5) pd_str) (wd_and1 (td_w (wd_or (td_cmp o_lt (pd_v 6) pd_int) (wd_or1 (td_cmp (o_eq hr.units) (pd_lc [("other", 11), ("low", 12)] rfl NN (id_seq (pd_v 7)) (blk_ok n_law_accepts (defScope t_law_accepts) (by decide +kernel)) rfl (fun _ _ _ _ _ => (gd_tup 2 rfl (gds_cons (gd_name 11 NN) (gds_cons (gd_name 12 NN) gds_nil)) (gsC_len (gsC_len gsN_len)))) (fun _ _ _ _ _ => (tsd_one (td_w (wd_and (td_cmp (o_eq hr.units) (pd_v 11) pd_str) (wd_and1 (td_cmp o_lt (pd_v 12) (pd_v 6))))))) (fun _ _ _ _ _ => pd_int)) (pd_lst ad_nil)))))))) (bd_one (sd_ret pd_bl)) bd_nil)
    (bd_cons (sd_setLc 8 [("other", 11), ("low", 12)] rfl NN (id_seq (pd_v 7)) (blk_ok n_law_accepts (defScope t_law_accepts) (by decide +kernel)) rfl (fun _ _ _ _ _ => (gd_tup 2 rfl (gds_cons (gd_name 11 NN) (gds_cons (gd_name 12 NN) gds_nil)) (gsC_len (gsC_len gsN_len)))) (fun _ _ _ _ _ => tsd_nil) (fun _ _ _ _ _ => (pd_v 11)) (by rfl))
    (bd_one (sd_if (td_w (wd_and (td_cmp (o_eq hr.units) (pd_v 5) pd_str) (wd_and1 (td_w (wd_or (td_cmp (o_ne hr.units) (pd_v 6) (pd_neg pd_int)) (wd_or (td_cmp (o_inA hr.units) pd_str (pd_v 8)) (wd_or1 (td_cmp (o_notInA hr.units) pd_str (pd_v 8))))))))) (bd_one (sd_ret pd_bl)) bd_nil))))))))
    (bd_one (sd_ret pd_bl)))))))
theorem ok_law_spoilt (W : Wh K mg) (O : OkF P w K mg base k R) (F : Fun K "_law_spoilt" "_law_spoilt" t_law_spoilt f fd) : FnOk P w K mg base CX0 (k + 1) f fd ["state", "names", "told"] (spI K (runF 3 10 (m_law_spoilt R))) := fnI_ok F sc_law_spoilt fun cdv A outer s H E hr => by
  have NN := sc_law_spoilt.nd
  exact (bd_cons (sd_set 3 NN (pd_lst (ad_cons pd_non (ad_cons (pd_callTy b_list (by rfl) W.n_list bt_list (ad_cons (pd_v 2) ad_nil)) (ad_cons (pd_rev (pd_v 2)) (ad_cons (pd_sl (pd_v 2) (od_some pd_int) od_none) (ad_cons (pd_bin o_add (pd_v 2) (pd_sl (pd_v 2) od_none (od_some pd_int))) (ad_cons pd_str (ad_cons pd_dict0 (ad_cons (pd_tup ad_nil) (ad_cons (pd_callTy b_tuple (by rfl) W.n_tuple bt_tuple (ad_cons (pd_lc [("name", 5)] rfl NN (id_seq (pd_callB (b_sorted rfl) (by rfl) W.n_sorted bt_sorted (ad_cons (pd_v 1) ad_nil))) (blk_ok n_law_spoilt (defScope t_law_spoilt) (by decide +kernel)) rfl (fun _ _ _ _ _ => (gd_name 5 NN)) (fun _ _ _ _ _ => tsd_nil) (fun _ _ _ _ _ => (pd_tup (ad_cons (pd_v 5) (ad_cons pd_str (ad_cons (pd_neg pd_int) ad_nil)))))) ad_nil)) ad_nil)))))))))))
    (bd_cons (sd_set 3 NN (pd_bin o_add (pd_v 3) (pd_lst (ad_cons (pd_callTy b_tuple (by rfl) W.n_tuple bt_tuple (ad_cons (pd_lc [("name", 5)] rfl NN (id_seq (pd_callB (b_sorted rfl) (by rfl) W.n_sorted bt_sorted (ad_cons (pd_v 1) ad_nil))) (blk_ok n_law_spoilt (defScope t_law_spoilt) (by decide +kernel)) rfl (fun _ _ _ _ _ => (gd_name 5 NN)) (fun _ _ _ _ _ => tsd_nil) (fun _ _ _ _ _ => (pd_tup (ad_cons (pd_v 5) (ad_cons pd_str (ad_cons pd_int ad_nil)))))) ad_nil)) ad_nil))))
    (bd_cons (sd_expr (pd_mut 3 PySem.F.plainAttrs_list PySem.F.slot_list_append PySem.F.type_list_append mt_append md_append (ad_cons (pd_callTy b_tuple (by rfl) W.n_tuple bt_tuple (ad_cons (pd_lc [("name", 5), ("label", 6), ("rank", 7)] rfl NN (id_seq (pd_v 2)) (blk_ok n_law_spoilt (defScope t_law_spoilt) (by decide +kernel)) rfl (fun _ _ _ _ _ => (gd_tup 3 rfl (gds_cons (gd_name 5 NN) (gds_cons (gd_name 6 NN) (gds_cons (gd_name 7 NN) gds_nil))) (gsC_len (gsC_len (gsC_len gsN_len))))) (fun _ _ _ _ _ => tsd_nil) (fun _ _ _ _ _ => (pd_tup (ad_cons (pd_v 5) (ad_cons (pd_v 6) (ad_cons (pd_if (td_cmp o_ge (pd_v 7) pd_int) (pd_bin o_add (pd_v 7) pd_int) (pd_v 7)) ad_nil)))))) ad_nil)) ad_nil)))
    (bd_cons (sd_expr (pd_mut 3 PySem.F.plainAttrs_list PySem.F.slot_list_append PySem.F.type_list_append mt_append md_append (ad_cons (pd_callTy b_tuple (by rfl) W.n_tuple bt_tuple (ad_cons (pd_lc [("name", 5), ("label", 6), ("rank", 7)] rfl NN (id_seq (pd_v 2)) (blk_ok n_law_spoilt (defScope t_law_spoilt) (by decide +kernel)) rfl (fun _ _ _ _ _ => (gd_tup 3 rfl (gds_cons (gd_name 5 NN) (gds_cons (gd_name 6 NN) (gds_cons (gd_name 7 NN) gds_nil))) (gsC_len (gsC_len (gsC_len gsN_len))))) (fun _ _ _ _ _ => tsd_nil) (fun _ _ _ _ _ => (pd_tup (ad_cons (pd_v 5) (ad_cons (pd_v 6) (ad_cons (pd_if (td_cmp o_ge (pd_v 7) pd_int) (pd_bin o_mul pd_int (pd_v 7)) (pd_v 7)) ad_nil)))))) ad_nil)) ad_nil)))
    (bd_cons (sd_if (td_cmp (o_ne hr.units) (pd_v 2) (pd_tup ad_nil)) (bd_cons (sd_set 4 NN (pd_callL O.law_next hr (by rfl) (ad_cons (pd_v 0) (ad_cons (pd_callB b_len (by rfl) W.n_len bt_len (ad_cons (pd_v 2) ad_nil)) ad_nil))))
    (bd_cons (sd_unp (pd_ix (ix_data hr.units) (pd_v 2) (pd_v 4)) (gd_tup 3 rfl (gds_cons (gd_name 5 NN) (gds_cons (gd_name 6 NN) (gds_cons (gd_name 7 NN) gds_nil))) (gsC_len (gsC_len (gsC_len gsN_len)))))
    (bd_cons (sd_set 8 NN (pd_lst (ad_cons (pd_tup (ad_cons (pd_v 5) (ad_cons (pd_ix (ix_data hr.units) (pd_lst (ad_cons pd_str (ad_cons pd_str (ad_cons pd_str (ad_cons pd_str ad_nil))))) (pd_callL O.law_next hr (by rfl) (ad_cons (pd_v 0) (ad_cons pd_int ad_nil)))) (ad_cons (pd_v 7) ad_nil)))) (ad_cons (pd_tup (ad_cons (pd_v 5) (ad_cons (pd_v 6) (ad_cons (pd_bin o_add (pd_v 7) pd_int) ad_nil)))) (ad_cons (pd_tup (ad_cons (pd_v 5) (ad_cons (pd_v 6) (ad_cons (pd_bin o_sub (pd_v 7) pd_int) ad_nil)))) ad_nil)))))
    (bd_cons (sd_set 8 NN (pd_bin o_add (pd_v 8) (pd_lst (ad_cons (pd_tup (ad_cons (pd_v 5) (ad_cons (pd_v 6) (ad_cons (pd_cmp (o_eq hr.units) (pd_v 7) pd_int) ad_nil)))) (ad_cons (pd_tup (ad_cons (pd_v 5) (ad_cons (pd_v 6) ad_nil))) (ad_cons (pd_tup (ad_cons (pd_v 5) (ad_cons (pd_lst (ad_cons pd_str ad_nil)) (ad_cons (pd_v 7) ad_nil)))) ad_nil))))))
    (bd_cons (sd_set 8 NN (pd_bin o_add (pd_v 8) (pd_lst (ad_cons (pd_tup (ad_cons pd_str (ad_cons (pd_v 6) (ad_cons (pd_v 7) ad_nil)))) (ad_cons (pd_tup (ad_cons (pd_v 5) (ad_cons pd_str (ad_cons (pd_neg pd_int) ad_nil)))) (ad_cons (pd_tup (ad_cons (pd_v 5) (ad_cons pd_str (ad_cons (pd_callL O.law_next hr (by rfl) (ad_cons (pd_v 0) (ad_cons pd_int ad_nil))) ad_nil)))) (ad_cons (pd_tup (ad_cons (pd_v 5) (ad_cons pd_str (ad_cons (pd_callL O.law_next hr (by rfl) (ad_cons (pd_v 0) (ad_cons pd_int ad_nil))) ad_nil)))) (ad_cons pd_non ad_nil))))))))
    (bd_one (sd_set 3 NN (pd_bin o_add (pd_v 3) (pd_lc [("entry", 9)] rfl NN (id_seq (pd_v 8)) (blk_ok n_law_spoilt (defScope t_law_spoilt) (by decide +kernel)) rfl (fun _ _ _ _ _ => (gd_name 9 NN)) (fun _ _ _ _ _ => tsd_nil) (fun _ _ _ _ _ => (pd_bin o_add (pd_bin o_add (pd_sl (pd_v 2) od_none (od_some (pd_v 4))) (pd_tup (ad_cons (pd_v 9) ad_nil))) (pd_sl (pd_v 2) (od_some (pd_bin o_add (pd_v 4) pd_int)) od_none)))))))))))) bd_nil)
    (bd_one (sd_ret (pd_ix (ix_data hr.units) (pd_v 3) (pd_callL O.law_next hr (by rfl) (ad_cons (pd_v 0) (ad_cons (pd_callB b_len (by rfl) W.n_len bt_len (ad_cons (pd_v 3) ad_nil)) ad_nil)))))))))))
theorem ok_law (W : Wh K mg) (O : OkF P w K mg base k R) (F : Fun K "law" "law" t_law f fd) : FnOk P w K mg base CX0 (k + 1) f fd ["script"] (spI K (runF 1 11 (m_law R))) := fnI_ok F sc_law fun cdv A outer s H E hr => by
  have NN := sc_law.nd
  exact (bd_cons (sd_set 1 NN (pd_lst (ad_cons (pd_scr 0 (by rfl) W.n_list bt_list) (ad_cons pd_int (ad_cons pd_int (ad_cons pd_int ad_nil))))))
    (bd_cons (sd_for rfl (id_range1 (by rfl) W.n_range pd_int) (gd_name 2 NN) (bd_cons (sd_set 4 NN (pd_sl (pd_lst (ad_cons pd_str (ad_cons pd_str (ad_cons pd_str (ad_cons pd_str (ad_cons pd_str (ad_cons pd_str (ad_cons pd_str ad_nil)))))))) od_none (od_some (pd_callL O.law_next hr (by rfl) (ad_cons (pd_v 1) (ad_cons pd_int ad_nil))))))
    (bd_cons (sd_set 5 NN (pd_lst ad_nil))
    (bd_cons (sd_for rfl (id_range1 (by rfl) W.n_range (pd_callL O.law_next hr (by rfl) (ad_cons (pd_v 1) (ad_cons (pd_bin o_add (pd_bin o_mul pd_int (pd_callB b_len (by rfl) W.n_len bt_len (ad_cons (pd_v 4) ad_nil))) pd_int) ad_nil)))) (gd_name 7 NN) (bd_one (sd_expr (pd_mut 5 PySem.F.plainAttrs_list PySem.F.slot_list_append PySem.F.type_list_append mt_append md_append (ad_cons (pd_tup (ad_cons (pd_ix (ix_data hr.units) (pd_v 4) (pd_callL O.law_next hr (by rfl) (ad_cons (pd_v 1) (ad_cons (pd_callB b_len (by rfl) W.n_len bt_len (ad_cons (pd_v 4) ad_nil)) ad_nil)))) (ad_cons (pd_ix (ix_data hr.units) (pd_v 4) (pd_callL O.law_next hr (by rfl) (ad_cons (pd_v 1) (ad_cons (pd_callB b_len (by rfl) W.n_len bt_len (ad_cons (pd_v 4) ad_nil)) ad_nil)))) ad_nil))) ad_nil)))))
    (bd_cons (sd_set 6 NN (pd_call O.law_due hr (by rfl) (ad_cons (pd_v 4) (ad_cons (pd_v 5) ad_nil))))
    (bd_cons (sd_if (td_not (td_val (pd_call O.law_accepts hr (by rfl) (ad_cons (pd_v 4) (ad_cons (pd_v 5) (ad_cons (pd_v 6) ad_nil)))))) (bd_one (sd_ret pd_bl)) bd_nil)
    (bd_cons (sd_set 8 NN (pd_lst (ad_cons (pd_callTy b_list (by rfl) W.n_list bt_list (ad_cons (pd_v 4) ad_nil)) (ad_cons (pd_callTy b_list (by rfl) W.n_list bt_list (ad_cons (pd_v 5) ad_nil)) ad_nil))))
    (bd_cons (sd_if (td_w (wd_or (td_not (td_val (pd_call O.law_same hr (by rfl) (ad_cons (pd_call O.stands hr (by rfl) (ad_cons (pd_ix (ix_data hr.units) (pd_v 8) pd_int) (ad_cons (pd_ix (ix_data hr.units) (pd_v 8) pd_int) ad_nil))) (ad_cons (pd_v 6) ad_nil))))) (wd_or (td_cmp (o_ne hr.units) (pd_v 8) (pd_lst (ad_cons (pd_v 4) (ad_cons (pd_v 5) ad_nil)))) (wd_or1 (td_cmp o_notB (pd_call O.judge_stands hr (by rfl) (ad_cons (pd_ix (ix_data hr.units) (pd_v 8) pd_int) (ad_cons (pd_ix (ix_data hr.units) (pd_v 8) pd_int) (ad_cons (pd_v 6) ad_nil)))) pd_bl))))) (bd_one (sd_ret pd_bl)) bd_nil)
    (bd_one (sd_for rfl (id_range1 (by rfl) W.n_range pd_int) (gd_name 7 NN) (bd_cons (sd_set 9 NN (pd_callL O.law_spoilt hr (by rfl) (ad_cons (pd_v 1) (ad_cons (pd_v 4) (ad_cons (pd_v 6) ad_nil)))))
    (bd_cons (sd_if (td_not (td_val (pd_call O.law_same hr (by rfl) (ad_cons (pd_call O.judge_stands hr (by rfl) (ad_cons (pd_ix (ix_data hr.units) (pd_v 8) pd_int) (ad_cons (pd_ix (ix_data hr.units) (pd_v 8) pd_int) (ad_cons (pd_v 9) ad_nil)))) (ad_cons (pd_call O.law_accepts hr (by rfl) (ad_cons (pd_v 4) (ad_cons (pd_v 5) (ad_cons (pd_v 9) ad_nil)))) ad_nil))))) (bd_one (sd_ret pd_bl)) bd_nil)
    (bd_one (sd_if (td_w (wd_and (td_val (pd_call O.law_accepts hr (by rfl) (ad_cons (pd_v 4) (ad_cons (pd_v 5) (ad_cons (pd_v 9) ad_nil))))) (wd_and1 (td_cmp (o_ne hr.units) (pd_lc [("entry", 10)] rfl NN (id_seq (pd_v 9)) (blk_ok n_law (defScope t_law) (by decide +kernel)) rfl (fun _ _ _ _ _ => (gd_name 10 NN)) (fun _ _ _ _ _ => tsd_nil) (fun _ _ _ _ _ => (pd_sl (pd_v 10) od_none (od_some pd_int)))) (pd_lc [("entry", 10)] rfl NN (id_seq (pd_v 6)) (blk_ok n_law (defScope t_law) (by decide +kernel)) rfl (fun _ _ _ _ _ => (gd_name 10 NN)) (fun _ _ _ _ _ => tsd_nil) (fun _ _ _ _ _ => (pd_sl (pd_v 10) od_none (od_some pd_int)))))))) (bd_one (sd_ret pd_bl)) bd_nil))))))))))))))
    (bd_cons (sd_set 3 NN (pd_bin o_add pd_int (pd_callL O.law_next hr (by rfl) (ad_cons (pd_v 1) (ad_cons pd_int ad_nil)))))
    (bd_cons (sd_set 4 NN (pd_lc [("k", 7)] rfl NN (id_range1 (by rfl) W.n_range (pd_v 3)) (blk_ok n_law (defScope t_law) (by decide +kernel)) rfl (fun _ _ _ _ _ => (gd_name 7 NN)) (fun _ _ _ _ _ => tsd_nil) (fun _ _ _ _ _ => (pd_bin o_add pd_str (pd_callTy b_str (by rfl) W.n_str bt_str (ad_cons (pd_v 7) ad_nil))))))
    (bd_cons (sd_set 5 NN (pd_bin o_add (pd_lc [("k", 7)] rfl NN (id_range1 (by rfl) W.n_range (pd_bin o_sub (pd_v 3) pd_int)) (blk_ok n_law (defScope t_law) (by decide +kernel)) rfl (fun _ _ _ _ _ => (gd_name 7 NN)) (fun _ _ _ _ _ => tsd_nil) (fun _ _ _ _ _ => (pd_tup (ad_cons (pd_ix (ix_data hr.units) (pd_v 4) (pd_v 7)) (ad_cons (pd_ix (ix_data hr.units) (pd_v 4) (pd_bin o_add (pd_v 7) pd_int)) ad_nil))))) (pd_sl (pd_lst (ad_cons (pd_tup (ad_cons (pd_ix (ix_data hr.units) (pd_v 4) (pd_bin o_sub (pd_v 3) pd_int)) (ad_cons (pd_ix (ix_data hr.units) (pd_v 4) (pd_callL O.law_next hr (by rfl) (ad_cons (pd_v 1) (ad_cons (pd_v 3) ad_nil)))) ad_nil))) ad_nil)) od_none (od_some (pd_callL O.law_next hr (by rfl) (ad_cons (pd_v 1) (ad_cons pd_int ad_nil)))))))
    (bd_cons (sd_set 6 NN (pd_call O.law_due hr (by rfl) (ad_cons (pd_v 4) (ad_cons (pd_v 5) ad_nil))))
    (bd_one (sd_ret (pd_and (pd_call O.law_same hr (by rfl) (ad_cons (pd_call O.stands hr (by rfl) (ad_cons (pd_callTy b_list (by rfl) W.n_list bt_list (ad_cons (pd_v 4) ad_nil)) (ad_cons (pd_callTy b_list (by rfl) W.n_list bt_list (ad_cons (pd_v 5) ad_nil)) ad_nil))) (ad_cons (pd_v 6) ad_nil))) (pd_one (pd_cmp o_isB (pd_call O.judge_stands hr (by rfl) (ad_cons (pd_callTy b_list (by rfl) W.n_list bt_list (ad_cons (pd_v 4) ad_nil)) (ad_cons (pd_callTy b_list (by rfl) W.n_list bt_list (ad_cons (pd_v 5) ad_nil)) (ad_cons (pd_v 6) ad_nil)))) pd_bl)))))))))))
end
/-- the defs, as objects of the top -/
structure Ob (K : PySem.W.Frag) (mg : Str → Option Value) : Prop where
  attackers : ∃ a fd, Fun K "attackers" "attackers" t_attackers a fd ∧ mg "attackers" = some (.ref a) ∧ Binds K fd ["attacks", "name"] []
  stands : ∃ a fd, Fun K "stands" "stands" t_stands a fd ∧ mg "stands" = some (.ref a) ∧ Binds K fd ["names", "attacks"] []
  judge_stands : ∃ a fd, Fun K "judge_stands" "judge_stands" t_judge_stands a fd ∧ mg "judge_stands" = some (.ref a) ∧ Binds K fd ["names", "attacks", "told"] []
  is_settled : ∃ a fd, Fun K "is_settled" "is_settled" t_is_settled a fd ∧ mg "is_settled" = some (.ref a) ∧ Binds K fd ["known", "others", "told"] []
  law_next : ∃ a fd, Fun K "_law_next" "_law_next" t_law_next a fd ∧ mg "_law_next" = some (.ref a) ∧ Binds K fd ["state", "limit"] []
  law_same : ∃ a fd, Fun K "_law_same" "_law_same" t_law_same a fd ∧ mg "_law_same" = some (.ref a) ∧ Binds K fd ["actual", "expected"] []
  law_due : ∃ a fd, Fun K "_law_due" "_law_due" t_law_due a fd ∧ mg "_law_due" = some (.ref a) ∧ Binds K fd ["names", "attacks"] []
  law_accepts : ∃ a fd, Fun K "_law_accepts" "_law_accepts" t_law_accepts a fd ∧ mg "_law_accepts" = some (.ref a) ∧ Binds K fd ["names", "attacks", "told"] []
  law_spoilt : ∃ a fd, Fun K "_law_spoilt" "_law_spoilt" t_law_spoilt a fd ∧ mg "_law_spoilt" = some (.ref a) ∧ Binds K fd ["state", "names", "told"] []
  law : ∃ a fd, Fun K "law" "law" t_law a fd ∧ mg "law" = some (.ref a) ∧ Binds K fd ["script"] []
theorem ok_lvl {P : Program} {w : World} {K : PySem.W.Frag} {mg : Str → Option Value} {base : Heap} (W : Wh K mg) (B : Ob K mg) : ∀ k, OkF P w K mg base k (lvl k)
  | 0 => { attackers := let ⟨_, _, F, m, b⟩ := B.attackers; Cl.of fn_none m F.kp b, stands := let ⟨_, _, F, m, b⟩ := B.stands; Cl.of fn_none m F.kp b, judge_stands := let ⟨_, _, F, m, b⟩ := B.judge_stands; Cl.of fn_none m F.kp b, is_settled := let ⟨_, _, F, m, b⟩ := B.is_settled; Cl.of fn_none m F.kp b, law_next := let ⟨_, _, F, m, b⟩ := B.law_next; Cl.of fn_none m F.kp b, law_same := let ⟨_, _, F, m, b⟩ := B.law_same; Cl.of fn_none m F.kp b, law_due := let ⟨_, _, F, m, b⟩ := B.law_due; Cl.of fn_none m F.kp b, law_accepts := let ⟨_, _, F, m, b⟩ := B.law_accepts; Cl.of fn_none m F.kp b, law_spoilt := let ⟨_, _, F, m, b⟩ := B.law_spoilt; Cl.of fn_none m F.kp b, law := let ⟨_, _, F, m, b⟩ := B.law; Cl.of fn_none m F.kp b }
  | k + 1 => { attackers := let ⟨_, _, F, m, b⟩ := B.attackers; Cl.of (ok_attackers W (ok_lvl W B k) F) m F.kp b, stands := let ⟨_, _, F, m, b⟩ := B.stands; Cl.of (ok_stands W (ok_lvl W B k) F) m F.kp b, judge_stands := let ⟨_, _, F, m, b⟩ := B.judge_stands; Cl.of (ok_judge_stands W (ok_lvl W B k) F) m F.kp b, is_settled := let ⟨_, _, F, m, b⟩ := B.is_settled; Cl.of (ok_is_settled W (ok_lvl W B k) F) m F.kp b, law_next := let ⟨_, _, F, m, b⟩ := B.law_next; Cl.of (ok_law_next W (ok_lvl W B k) F) m F.kp b, law_same := let ⟨_, _, F, m, b⟩ := B.law_same; Cl.of (ok_law_same W (ok_lvl W B k) F) m F.kp b, law_due := let ⟨_, _, F, m, b⟩ := B.law_due; Cl.of (ok_law_due W (ok_lvl W B k) F) m F.kp b, law_accepts := let ⟨_, _, F, m, b⟩ := B.law_accepts; Cl.of (ok_law_accepts W (ok_lvl W B k) F) m F.kp b, law_spoilt := let ⟨_, _, F, m, b⟩ := B.law_spoilt; Cl.of (ok_law_spoilt W (ok_lvl W B k) F) m F.kp b, law := let ⟨_, _, F, m, b⟩ := B.law; Cl.of (ok_law W (ok_lvl W B k) F) m F.kp b }
/-- the script, as the law gets it -/
def spLaw (K : PySem.W.Frag) : Sp := fun vs H Q _ => ∃ (a : Addr) (ns : List Int), vs = [.ref a] ∧ SqL K H a (ns.map V.int) ∧ Only H ∧ ns.length ≤ 63 ∧ ∀ H', Q (.bl true) H'
def Holds : Prop := ∀ ns : List Int, ns.length ≤ 63 → (lvl 30).law [(.scr, .list (ns.map .int))] = some (.kept (.bool true), none)
theorem klst_of {K : PySem.W.Frag} {H : Hp} {a : Addr} {ns : List Int} (h : SqL K H a (ns.map V.int)) (o : Only H) : KLst K H a ns := by
  refine ⟨h, ?_⟩
  rcases h with (h | h) | h
  · rcases o a with z | ⟨_, _, z⟩ <;> (rw [h] at z; cases z)
  · exact .inl h
  · exact .inr fun H' => .inr h
theorem ok_top {P : Program} {w : World} {K : PySem.W.Frag} {mg : Str → Option Value} {base : Heap} {f : Addr} {fd : FuncData} (hl : Holds) (W : Wh K mg) (B : Ob K mg) (F : Fun K "law" "law" t_law f fd) : FnOk P w K mg base CX0 30 f fd ["script"] (spLaw K) :=
  (ok_law W (ok_lvl W B 29) F).imp fun vs H Q E h => by
    obtain ⟨a, ns, rfl, hs, on, hn, q⟩ := h
    refine ⟨fun _ => False, [(.scr, .list (ns.map .int))], .kept (.bool true), none, ⟨rfl, fun i st d h => ?_, fun i j b st d st' d' h1 h2 h3 h4 h5 h6 => ?_, fun _ z => z.elim⟩, hl ns hn, fun v S' H' fc rr _ => ?_⟩
    · cases i with
      | zero =>
        simp at h
        obtain ⟨rfl, rfl⟩ := h
        exact ⟨.ref a, rfl, a, ns, rfl, rfl, klst_of hs on⟩
      | succ i => simp at h
    · cases i with
      | zero => simp at h1; obtain ⟨rfl, rfl⟩ := h1; cases h3
      | succ i => simp at h1
    · cases rr
      exact q H'
set_option maxHeartbeats 0 in
theorem all_mk (hl : Holds) {P : Program} {w : World} {K : PySem.W.Frag} {h : Heap} {mg : Str → Option Value} {fa : Addr} (X : K.In h) (G : h.Ns mainGlobals mg) (hfa : mg "law" = some (.ref fa))
    {oc_attackers kV_attackers dc_attackers pm_attackers cd_attackers ct_attackers : Value} {od_attackers an_attackers : Option Addr} {sl_attackers : Array (Option Value)} {f_attackers : Addr}
    (a_attackers : PySem.W.nsIn K mainGlobals "attackers" = some (some (.ref f_attackers)))
    (l_attackers : K.lookup f_attackers = some ⟨oc_attackers, od_attackers, .func (PySem.W.fnOf "attackers" "attackers" (defArgs t_attackers) (defBody t_attackers) (defScope t_attackers) .none kV_attackers dc_attackers pm_attackers an_attackers cd_attackers ct_attackers), sl_attackers⟩)
    (c_attackers : PySem.W.codeIn K cd_attackers "attackers" = true) (k_attackers : PySem.W.keepIn K (.ref f_attackers) = true)
    {oc_stands kV_stands dc_stands pm_stands cd_stands ct_stands : Value} {od_stands an_stands : Option Addr} {sl_stands : Array (Option Value)} {f_stands : Addr}
    (a_stands : PySem.W.nsIn K mainGlobals "stands" = some (some (.ref f_stands)))
    (l_stands : K.lookup f_stands = some ⟨oc_stands, od_stands, .func (PySem.W.fnOf "stands" "stands" (defArgs t_stands) (defBody t_stands) (defScope t_stands) .none kV_stands dc_stands pm_stands an_stands cd_stands ct_stands), sl_stands⟩)
    (c_stands : PySem.W.codeIn K cd_stands "stands" = true) (k_stands : PySem.W.keepIn K (.ref f_stands) = true)
    {oc_judge_stands kV_judge_stands dc_judge_stands pm_judge_stands cd_judge_stands ct_judge_stands : Value} {od_judge_stands an_judge_stands : Option Addr} {sl_judge_stands : Array (Option Value)} {f_judge_stands : Addr}
    (a_judge_stands : PySem.W.nsIn K mainGlobals "judge_stands" = some (some (.ref f_judge_stands)))
    (l_judge_stands : K.lookup f_judge_stands = some ⟨oc_judge_stands, od_judge_stands, .func (PySem.W.fnOf "judge_stands" "judge_stands" (defArgs t_judge_stands) (defBody t_judge_stands) (defScope t_judge_stands) .none kV_judge_stands dc_judge_stands pm_judge_stands an_judge_stands cd_judge_stands ct_judge_stands), sl_judge_stands⟩)
    (c_judge_stands : PySem.W.codeIn K cd_judge_stands "judge_stands" = true) (k_judge_stands : PySem.W.keepIn K (.ref f_judge_stands) = true)
    {oc_is_settled kV_is_settled dc_is_settled pm_is_settled cd_is_settled ct_is_settled : Value} {od_is_settled an_is_settled : Option Addr} {sl_is_settled : Array (Option Value)} {f_is_settled : Addr}
    (a_is_settled : PySem.W.nsIn K mainGlobals "is_settled" = some (some (.ref f_is_settled)))
    (l_is_settled : K.lookup f_is_settled = some ⟨oc_is_settled, od_is_settled, .func (PySem.W.fnOf "is_settled" "is_settled" (defArgs t_is_settled) (defBody t_is_settled) (defScope t_is_settled) .none kV_is_settled dc_is_settled pm_is_settled an_is_settled cd_is_settled ct_is_settled), sl_is_settled⟩)
    (c_is_settled : PySem.W.codeIn K cd_is_settled "is_settled" = true) (k_is_settled : PySem.W.keepIn K (.ref f_is_settled) = true)
    {oc_law_next kV_law_next dc_law_next pm_law_next cd_law_next ct_law_next : Value} {od_law_next an_law_next : Option Addr} {sl_law_next : Array (Option Value)} {f_law_next : Addr}
    (a_law_next : PySem.W.nsIn K mainGlobals "_law_next" = some (some (.ref f_law_next)))
    (l_law_next : K.lookup f_law_next = some ⟨oc_law_next, od_law_next, .func (PySem.W.fnOf "_law_next" "_law_next" (defArgs t_law_next) (defBody t_law_next) (defScope t_law_next) .none kV_law_next dc_law_next pm_law_next an_law_next cd_law_next ct_law_next), sl_law_next⟩)
    (c_law_next : PySem.W.codeIn K cd_law_next "_law_next" = true) (k_law_next : PySem.W.keepIn K (.ref f_law_next) = true)
    {oc_law_same kV_law_same dc_law_same pm_law_same cd_law_same ct_law_same : Value} {od_law_same an_law_same : Option Addr} {sl_law_same : Array (Option Value)} {f_law_same : Addr}
    (a_law_same : PySem.W.nsIn K mainGlobals "_law_same" = some (some (.ref f_law_same)))
    (l_law_same : K.lookup f_law_same = some ⟨oc_law_same, od_law_same, .func (PySem.W.fnOf "_law_same" "_law_same" (defArgs t_law_same) (defBody t_law_same) (defScope t_law_same) .none kV_law_same dc_law_same pm_law_same an_law_same cd_law_same ct_law_same), sl_law_same⟩)
    (c_law_same : PySem.W.codeIn K cd_law_same "_law_same" = true) (k_law_same : PySem.W.keepIn K (.ref f_law_same) = true)
    {oc_law_due kV_law_due dc_law_due pm_law_due cd_law_due ct_law_due : Value} {od_law_due an_law_due : Option Addr} {sl_law_due : Array (Option Value)} {f_law_due : Addr}
    (a_law_due : PySem.W.nsIn K mainGlobals "_law_due" = some (some (.ref f_law_due)))
    (l_law_due : K.lookup f_law_due = some ⟨oc_law_due, od_law_due, .func (PySem.W.fnOf "_law_due" "_law_due" (defArgs t_law_due) (defBody t_law_due) (defScope t_law_due) .none kV_law_due dc_law_due pm_law_due an_law_due cd_law_due ct_law_due), sl_law_due⟩)
    (c_law_due : PySem.W.codeIn K cd_law_due "_law_due" = true) (k_law_due : PySem.W.keepIn K (.ref f_law_due) = true)
    {oc_law_accepts kV_law_accepts dc_law_accepts pm_law_accepts cd_law_accepts ct_law_accepts : Value} {od_law_accepts an_law_accepts : Option Addr} {sl_law_accepts : Array (Option Value)} {f_law_accepts : Addr}
    (a_law_accepts : PySem.W.nsIn K mainGlobals "_law_accepts" = some (some (.ref f_law_accepts)))
    (l_law_accepts : K.lookup f_law_accepts = some ⟨oc_law_accepts, od_law_accepts, .func (PySem.W.fnOf "_law_accepts" "_law_accepts" (defArgs t_law_accepts) (defBody t_law_accepts) (defScope t_law_accepts) .none kV_law_accepts dc_law_accepts pm_law_accepts an_law_accepts cd_law_accepts ct_law_accepts), sl_law_accepts⟩)
    (c_law_accepts : PySem.W.codeIn K cd_law_accepts "_law_accepts" = true) (k_law_accepts : PySem.W.keepIn K (.ref f_law_accepts) = true)
    {oc_law_spoilt kV_law_spoilt dc_law_spoilt pm_law_spoilt cd_law_spoilt ct_law_spoilt : Value} {od_law_spoilt an_law_spoilt : Option Addr} {sl_law_spoilt : Array (Option Value)} {f_law_spoilt : Addr}
    (a_law_spoilt : PySem.W.nsIn K mainGlobals "_law_spoilt" = some (some (.ref f_law_spoilt)))
    (l_law_spoilt : K.lookup f_law_spoilt = some ⟨oc_law_spoilt, od_law_spoilt, .func (PySem.W.fnOf "_law_spoilt" "_law_spoilt" (defArgs t_law_spoilt) (defBody t_law_spoilt) (defScope t_law_spoilt) .none kV_law_spoilt dc_law_spoilt pm_law_spoilt an_law_spoilt cd_law_spoilt ct_law_spoilt), sl_law_spoilt⟩)
    (c_law_spoilt : PySem.W.codeIn K cd_law_spoilt "_law_spoilt" = true) (k_law_spoilt : PySem.W.keepIn K (.ref f_law_spoilt) = true)
    {oc_law kV_law dc_law pm_law cd_law ct_law : Value} {od_law an_law : Option Addr} {sl_law : Array (Option Value)} {f_law : Addr}
    (a_law : PySem.W.nsIn K mainGlobals "law" = some (some (.ref f_law)))
    (l_law : K.lookup f_law = some ⟨oc_law, od_law, .func (PySem.W.fnOf "law" "law" (defArgs t_law) (defBody t_law) (defScope t_law) .none kV_law dc_law pm_law an_law cd_law ct_law), sl_law⟩)
    (c_law : PySem.W.codeIn K cd_law "law" = true) (k_law : PySem.W.keepIn K (.ref f_law) = true)
    (z_bool : PySem.W.nsIn K mainGlobals "bool" = some none)
    (z_dict : PySem.W.nsIn K mainGlobals "dict" = some none)
    (z_int : PySem.W.nsIn K mainGlobals "int" = some none)
    (z_isinstance : PySem.W.nsIn K mainGlobals "isinstance" = some none)
    (z_len : PySem.W.nsIn K mainGlobals "len" = some none)
    (z_list : PySem.W.nsIn K mainGlobals "list" = some none)
    (z_range : PySem.W.nsIn K mainGlobals "range" = some none)
    (z_set : PySem.W.nsIn K mainGlobals "set" = some none)
    (z_sorted : PySem.W.nsIn K mainGlobals "sorted" = some none)
    (z_str : PySem.W.nsIn K mainGlobals "str" = some none)
    (z_tuple : PySem.W.nsIn K mainGlobals "tuple" = some none)
    (t_bool_NoneType : PySem.W.kitOne K (.type "NoneType") (.type "bool") = some false)
    (t_bool_bool : PySem.W.kitOne K (.type "bool") (.type "bool") = some true)
    (t_bool_int : PySem.W.kitOne K (.type "int") (.type "bool") = some false)
    (t_bool_str : PySem.W.kitOne K (.type "str") (.type "bool") = some false)
    (t_bool_list : PySem.W.kitOne K (.type "list") (.type "bool") = some false)
    (t_bool_tuple : PySem.W.kitOne K (.type "tuple") (.type "bool") = some false)
    (t_bool_dict : PySem.W.kitOne K (.type "dict") (.type "bool") = some false)
    (t_int_NoneType : PySem.W.kitOne K (.type "NoneType") (.type "int") = some false)
    (t_int_bool : PySem.W.kitOne K (.type "bool") (.type "int") = some true)
    (t_int_int : PySem.W.kitOne K (.type "int") (.type "int") = some true)
    (t_int_str : PySem.W.kitOne K (.type "str") (.type "int") = some false)
    (t_int_list : PySem.W.kitOne K (.type "list") (.type "int") = some false)
    (t_int_tuple : PySem.W.kitOne K (.type "tuple") (.type "int") = some false)
    (t_int_dict : PySem.W.kitOne K (.type "dict") (.type "int") = some false)
    (t_list_NoneType : PySem.W.kitOne K (.type "NoneType") (.type "list") = some false)
    (t_list_bool : PySem.W.kitOne K (.type "bool") (.type "list") = some false)
    (t_list_int : PySem.W.kitOne K (.type "int") (.type "list") = some false)
    (t_list_str : PySem.W.kitOne K (.type "str") (.type "list") = some false)
    (t_list_list : PySem.W.kitOne K (.type "list") (.type "list") = some true)
    (t_list_tuple : PySem.W.kitOne K (.type "tuple") (.type "list") = some false)
    (t_list_dict : PySem.W.kitOne K (.type "dict") (.type "list") = some false)
    (t_str_NoneType : PySem.W.kitOne K (.type "NoneType") (.type "str") = some false)
    (t_str_bool : PySem.W.kitOne K (.type "bool") (.type "str") = some false)
    (t_str_int : PySem.W.kitOne K (.type "int") (.type "str") = some false)
    (t_str_str : PySem.W.kitOne K (.type "str") (.type "str") = some true)
    (t_str_list : PySem.W.kitOne K (.type "list") (.type "str") = some false)
    (t_str_tuple : PySem.W.kitOne K (.type "tuple") (.type "str") = some false)
    (t_str_dict : PySem.W.kitOne K (.type "dict") (.type "str") = some false)
    (t_tuple_NoneType : PySem.W.kitOne K (.type "NoneType") (.type "tuple") = some false)
    (t_tuple_bool : PySem.W.kitOne K (.type "bool") (.type "tuple") = some false)
    (t_tuple_int : PySem.W.kitOne K (.type "int") (.type "tuple") = some false)
    (t_tuple_str : PySem.W.kitOne K (.type "str") (.type "tuple") = some false)
    (t_tuple_list : PySem.W.kitOne K (.type "list") (.type "tuple") = some false)
    (t_tuple_tuple : PySem.W.kitOne K (.type "tuple") (.type "tuple") = some true)
    (t_tuple_dict : PySem.W.kitOne K (.type "dict") (.type "tuple") = some false)
    {od_LABELS : Option Addr} {sl_LABELS : Array (Option Value)} {f_LABELS : Addr} {n_LABELS : Nat} {u0_LABELS u1_LABELS u2_LABELS : Tok}
    (a_LABELS : PySem.W.nsIn K mainGlobals "LABELS" = some (some (.ref f_LABELS)))
    (l_LABELS : K.lookup f_LABELS = some ⟨.type "tuple", od_LABELS, .seq #[.str "stands" u0_LABELS, .str "falls" u1_LABELS, .str "open" u2_LABELS] n_LABELS, sl_LABELS⟩) :
    ∃ fd : FuncData, (∀ (s : Shared) (v : Value), BindsTo s fd ⟨[v], []⟩ [("script", v)]) ∧ ∀ base : Heap, K.In base → base.Ns mainGlobals mg → FnOk P w K mg base CX0 30 fa fd ["script"] (spLaw K) := by
  have e := hfa.symm.trans (PySem.W.mg_of X G a_law)
  cases e
  have W : Wh K mg := { n_bool := PySem.W.mg_none_of X G z_bool, n_dict := PySem.W.mg_none_of X G z_dict, n_int := PySem.W.mg_none_of X G z_int, n_isinstance := PySem.W.mg_none_of X G z_isinstance, n_len := PySem.W.mg_none_of X G z_len, n_list := PySem.W.mg_none_of X G z_list, n_range := PySem.W.mg_none_of X G z_range, n_set := PySem.W.mg_none_of X G z_set, n_sorted := PySem.W.mg_none_of X G z_sorted, n_str := PySem.W.mg_none_of X G z_str, n_tuple := PySem.W.mg_none_of X G z_tuple, k_bool := ⟨fun d => by cases d <;> assumption⟩, k_int := ⟨fun d => by cases d <;> assumption⟩, k_list := ⟨fun d => by cases d <;> assumption⟩, k_str := ⟨fun d => by cases d <;> assumption⟩, k_tuple := ⟨fun d => by cases d <;> assumption⟩, c_LABELS := ⟨f_LABELS, PySem.W.mg_of X G a_LABELS, _, _, _, l_LABELS, rfl, rfl, (by show 3 ≤ sizeLine; decide), (.cons ⟨_, rfl⟩ (.cons ⟨_, rfl⟩ (.cons ⟨_, rfl⟩ .nil)))⟩ }
  have B : Ob K mg := { attackers := ⟨_, _, fun_mk (st := t_attackers) l_attackers c_attackers k_attackers, PySem.W.mg_of X G a_attackers, (fun_mk (st := t_attackers) l_attackers c_attackers k_attackers).binds (ps := ["attacks", "name"]) (fun _ _ _ _ _ _ us hl => (match us, hl with | [_, _], _ => rfl))⟩, stands := ⟨_, _, fun_mk (st := t_stands) l_stands c_stands k_stands, PySem.W.mg_of X G a_stands, (fun_mk (st := t_stands) l_stands c_stands k_stands).binds (ps := ["names", "attacks"]) (fun _ _ _ _ _ _ us hl => (match us, hl with | [_, _], _ => rfl))⟩, judge_stands := ⟨_, _, fun_mk (st := t_judge_stands) l_judge_stands c_judge_stands k_judge_stands, PySem.W.mg_of X G a_judge_stands, (fun_mk (st := t_judge_stands) l_judge_stands c_judge_stands k_judge_stands).binds (ps := ["names", "attacks", "told"]) (fun _ _ _ _ _ _ us hl => (match us, hl with | [_, _, _], _ => rfl))⟩, is_settled := ⟨_, _, fun_mk (st := t_is_settled) l_is_settled c_is_settled k_is_settled, PySem.W.mg_of X G a_is_settled, (fun_mk (st := t_is_settled) l_is_settled c_is_settled k_is_settled).binds (ps := ["known", "others", "told"]) (fun _ _ _ _ _ _ us hl => (match us, hl with | [_, _, _], _ => rfl))⟩, law_next := ⟨_, _, fun_mk (st := t_law_next) l_law_next c_law_next k_law_next, PySem.W.mg_of X G a_law_next, (fun_mk (st := t_law_next) l_law_next c_law_next k_law_next).binds (ps := ["state", "limit"]) (fun _ _ _ _ _ _ us hl => (match us, hl with | [_, _], _ => rfl))⟩, law_same := ⟨_, _, fun_mk (st := t_law_same) l_law_same c_law_same k_law_same, PySem.W.mg_of X G a_law_same, (fun_mk (st := t_law_same) l_law_same c_law_same k_law_same).binds (ps := ["actual", "expected"]) (fun _ _ _ _ _ _ us hl => (match us, hl with | [_, _], _ => rfl))⟩, law_due := ⟨_, _, fun_mk (st := t_law_due) l_law_due c_law_due k_law_due, PySem.W.mg_of X G a_law_due, (fun_mk (st := t_law_due) l_law_due c_law_due k_law_due).binds (ps := ["names", "attacks"]) (fun _ _ _ _ _ _ us hl => (match us, hl with | [_, _], _ => rfl))⟩, law_accepts := ⟨_, _, fun_mk (st := t_law_accepts) l_law_accepts c_law_accepts k_law_accepts, PySem.W.mg_of X G a_law_accepts, (fun_mk (st := t_law_accepts) l_law_accepts c_law_accepts k_law_accepts).binds (ps := ["names", "attacks", "told"]) (fun _ _ _ _ _ _ us hl => (match us, hl with | [_, _, _], _ => rfl))⟩, law_spoilt := ⟨_, _, fun_mk (st := t_law_spoilt) l_law_spoilt c_law_spoilt k_law_spoilt, PySem.W.mg_of X G a_law_spoilt, (fun_mk (st := t_law_spoilt) l_law_spoilt c_law_spoilt k_law_spoilt).binds (ps := ["state", "names", "told"]) (fun _ _ _ _ _ _ us hl => (match us, hl with | [_, _, _], _ => rfl))⟩, law := ⟨_, _, fun_mk (st := t_law) l_law c_law k_law, PySem.W.mg_of X G a_law, (fun_mk (st := t_law) l_law c_law k_law).binds (ps := ["script"]) (fun _ _ _ _ _ _ us hl => (match us, hl with | [_], _ => rfl))⟩ }
  exact ⟨_, fun s v => .of_eq rfl, fun base _ _ => ok_top hl W B (fun_mk (st := t_law) l_law c_law k_law)⟩
end PyK53

namespace PyK53
open PySem PySem.Spec L2 PyI
/-- the state of the draws -/
def stD (ns : List Int) (p : Nat) (v s : Int) : PyData := .list [.list (ns.map .int), .int p, .int v, .int s]
theorem pow18 : opPow (.int 10) (.int 18) = some (.int 1000000000000000000) := by
  show (if (0 : Int) ≤ 18 ∧ (18 : Int) ≤ 1000000 ∧ (10 : Int).natAbs < 18446744073709551616 then some (PyData.int (10 ^ (18 : Int).toNat)) else none) = _
  rw [if_pos (by decide)]
  rfl
theorem next_ok (R : Fns) (ns : List Int) (p : Nat) (v s limit : Int) (hl : 0 < limit) (hl2 : limit < 1000) (hs : 0 ≤ s) (hs2 : s < 2147483647) (hv : 0 ≤ v) :
    ∃ out p' v' s', 0 ≤ out ∧ out < limit ∧ 0 ≤ s' ∧ s' < 2147483647 ∧ 0 ≤ v' ∧ runF 2 4 (m_law_next R) [(.lent, stD ns p v s), (.shr, .int limit)] = some (.kept (.int out), some (stD ns p' v' s')) := by
  have hmod : ∀ x : Int, 0 ≤ x % limit ∧ x % limit < limit := fun x => ⟨Int.emod_nonneg _ (by omega), Int.emod_lt_of_pos _ hl⟩
  have hmod2 : ∀ x : Int, 0 ≤ x % 2147483647 ∧ x % 2147483647 < 2147483647 := fun x => ⟨Int.emod_nonneg _ (by omega), Int.emod_lt_of_pos _ (by omega)⟩
  have hm1 : ∀ x : Int, opMod (.int x) (.int limit) = some (.int (x % limit)) := fun x => o_mod1 hl
  have hm2 : ∀ x : Int, opMod (.int x) (.int 2147483647) = some (.int (x % 2147483647)) := fun x => o_mod1 (by omega)
  have hf1 : ∀ x : Int, opFdiv (.int x) (.int limit) = some (.int (x / limit)) := fun x => o_fdiv1 hl (by omega)
  have hf2 : ∀ x : Int, opFdiv (.int x) (.int 7) = some (.int (x / 7)) := fun x => o_fdiv1 (by omega) (by omega)
  have hu1 : ∀ x : Int, opMul (.int x) (.int 48271) = some (.int (x * 48271)) := fun x => o_mul1 (.inr (by omega))
  have hu2 : ∀ x : Int, opMul (.int x) (.int 69621) = some (.int (x * 69621)) := fun x => o_mul1 (.inr (by omega))
  -- the second half
  have half : ∀ (p : Nat) (v s : Int) (c2 : Option (Stt × PyData)), 0 ≤ v → 0 ≤ s → s < 2147483647 → ∃ out p' v' s', 0 ≤ out ∧ out < limit ∧ 0 ≤ s' ∧ s' < 2147483647 ∧ 0 ≤ v' ∧ ∃ y z, 
      sSeq (sIf (tV (x2 (x2i (xV 0) (xC (.int 2)) opIx) (xC (.int 0)) opGt)) (sSeq (sSet 3 (x2 (xB oInt (aC (x2i (xV 0) (xC (.int 2)) opIx) aN)) (xV 1) opMod))
    (sSeq (sPut 0 (xC (.int 2)) (x2 (x2i (xV 0) (xC (.int 2)) opIx) (xV 1) opFdiv))
    (sRet (xV 3)))) sPass)
    (sSeq (sPut 0 (xC (.int 3)) (x2 (xB oInt (aC (x2 (x2 (x2i (xV 0) (xC (.int 3)) opIx) (xC (.int 69621)) opMul) (xC (.int 12345)) opAdd) aN)) (xC (.int 2147483647)) opMod))
    (sRet (x2 (xB oInt (aC (x2 (x2i (xV 0) (xC (.int 3)) opIx) (xC (.int 7)) opFdiv) aN)) (xV 1) opMod))) [some (.lent, stD ns p v s), some (.shr, .int limit), c2, none] = some (.ret y, [some (.lent, stD ns p' v' s'), some (.shr, .int limit), c2, z]) ∧ (y = .kept (.int out) ∨ (y = .slot 3 ∧ z = some (.shr, .int out))) := by
    intro p v s c2 hv hs hs2
    unfold stD
    by_cases h0 : 0 < v
    · refine ⟨v % limit, p, v / limit, s, (hmod v).1, (hmod v).2, hs, hs2, Int.ediv_nonneg hv (by omega), .slot 3, some (.shr, .int (v % limit)), ?_, .inr ⟨rfl, rfl⟩⟩
      simp [h0, hm1, hf1, setD_2]
    · refine ⟨((s * 69621 + 12345) % 2147483647 / 7) % limit, p, v, (s * 69621 + 12345) % 2147483647, (hmod _).1, (hmod _).2, (hmod2 _).1, (hmod2 _).2, hv, .kept (.int (((s * 69621 + 12345) % 2147483647 / 7) % limit)), none, ?_, .inl rfl⟩
      simp [h0, hm1, hm2, hf2, hu2, setD_3]
  rw [runF_def (by rfl)]
  have fin : ∀ (q : Nat) (v' s' : Int) (c2 : Option (Stt × PyData)), 0 ≤ v' → 0 ≤ s' → s' < 2147483647 →
      (sIf (tAndM (tV (x2 (x2i (xV 0) (xC (.int 2)) opIx) (xC (.int 0)) opEq)) (tV (x2 (x2i (xV 0) (xC (.int 1)) opIx) (xB oLen (aC (x2i (xV 0) (xC (.int 0)) opIx) aN)) opLt))) (sSeq (sSet 2 (x2i (x2i (xV 0) (xC (.int 0)) opIx) (x2i (xV 0) (xC (.int 1)) opIx) opIx))
    (sSeq (sAugS 0 (fun i j => i + j) (xC (.int 1)) (xC (.int 1)))
    (sIf (tV (x2 (xV 2) (x2 (xC (.int 10)) (xC (.int 18)) opPow) opGe)) (sPut 0 (xC (.int 2)) (xV 2)) (sPut 0 (xC (.int 3)) (x2 (xB oInt (aC (x2 (x2 (x2 (x2i (xV 0) (xC (.int 3)) opIx) (xC (.int 48271)) opMul) (x2 (xB oInt (aC (xV 2) aN)) (xC (.int 2147483647)) opMod) opAdd) (xC (.int 7)) opAdd) aN)) (xC (.int 2147483647)) opMod))))) sPass) [some (.lent, stD ns p v s), some (.shr, .int limit), none, none] = some (.nx, [some (.lent, stD ns q v' s'), some (.shr, .int limit), c2, none]) →
      ∃ out p' v' s', 0 ≤ out ∧ out < limit ∧ 0 ≤ s' ∧ s' < 2147483647 ∧ 0 ≤ v' ∧ (match m_law_next R ([(.lent, stD ns p v s), (.shr, .int limit)].map some ++ List.replicate (4 - [(Stt.lent, stD ns p v s), (.shr, .int limit)].length) none) with
    | some (fl, ρ') => match retOf ρ' fl with
      | some r => match lentOf ρ' [(.lent, stD ns p v s), (.shr, .int limit)] with
        | some l => some (r, l)
        | none => none
      | none => none
    | none => none) = some (.kept (.int out), some (stD ns p' v' s')) := by
    intro q v' s' c2 h1 h2 h3 e
    obtain ⟨out, p', v2, s2, a1, a2, a3, a4, a5, y, z, e2, hy⟩ := half q v' s' c2 h1 h2 h3
    refine ⟨out, p', v2, s2, a1, a2, a3, a4, a5, ?_⟩
    have e3 : m_law_next R ([(.lent, stD ns p v s), (.shr, .int limit)].map some ++ List.replicate (4 - [(Stt.lent, stD ns p v s), (.shr, .int limit)].length) none) = some (.ret y, [some (.lent, stD ns p' v2 s2), some (.shr, .int limit), c2, z]) := by
      unfold m_law_next
      show sSeq _ _ [some (.lent, stD ns p v s), some (.shr, .int limit), none, none] = _
      rw [e_sq, e, e_sqn]
      exact e2
    rw [e3]
    rcases hy with rfl | ⟨rfl, rfl⟩
    · rfl
    · rfl
  by_cases h0 : v = 0 ∧ p < ns.length
  · obtain ⟨rfl, hp⟩ := h0
    have hp' : (p : Int) < (ns.length : Int) := by omega
    have hget : (ns.map PyData.int)[p]? = some (.int ns[p]) := by rw [List.getElem?_map, List.getElem?_eq_getElem hp]; rfl
    have hp1 : (p : Int) + 1 = ((p + 1 : Nat) : Int) := by omega
    by_cases hc : (1000000000000000000 : Int) ≤ ns[p]
    · refine fin (p + 1) ns[p] s (some (.shr, .int ns[p])) (by omega) hs hs2 ?_
      unfold stD
      simp [hp', hget, pow18, hc, setD_1, setD_2, hp]
    · refine fin (p + 1) 0 ((s * 48271 + ns[p] % 2147483647 + 7) % 2147483647) (some (.shr, .int ns[p])) (by omega) (hmod2 _).1 (hmod2 _).2 ?_
      unfold stD
      simp [hp', hget, pow18, hc, setD_1, setD_3, hp, hm2, hu1]
  · refine fin p v s none hv hs hs2 ?_
    unfold stD
    by_cases h1 : v = 0
    · have hp : ¬ (p : Int) < (ns.length : Int) := fun z => h0 ⟨h1, by omega⟩
      simp [h1, hp]
    · have hb : (v == 0) = false := by simp [h1]
      simp [hb]
end PyK53

namespace PyK53
open PySem PySem.Spec L2 PyI
mutual
/-- lists and tuples within are short, and no dict -/
def shortB : PyData → Bool
  | .list l => decide (l.length < 1000) && shortAll l
  | .tuple l => decide (l.length < 1000) && shortAll l
  | .dict _ => false
  | _ => true
def shortAll : List PyData → Bool
  | [] => true
  | x :: l => shortB x && shortAll l
end
theorem shortAll_get : ∀ {l : List PyData} {i : Nat} {d : PyData}, shortAll l = true → l[i]? = some d → shortB d = true
  | [], _, _, _, h => by simp at h
  | x :: l, 0, d, h, e => by
    simp at e
    subst e
    rw [shortAll, Bool.and_eq_true] at h
    exact h.1
  | x :: l, i + 1, d, h, e => by
    rw [shortAll, Bool.and_eq_true] at h
    rw [List.getElem?_cons_succ] at e
    exact shortAll_get h.2 e
theorem depth_get : ∀ {l : List PyData} {i : Nat} {d : PyData}, l[i]? = some d → d.depth ≤ PyData.depthAll l
  | [], _, _, h => by simp at h
  | x :: l, 0, d, e => by
    simp at e
    subst e
    exact Nat.le_max_left _ _
  | x :: l, i + 1, d, e => by
    rw [List.getElem?_cons_succ] at e
    exact Nat.le_trans (depth_get e) (Nat.le_max_right _ _)
theorem same_loop (R : Fns) (n : Nat) (ih : ∀ (d : PyData) (s1 s2 : Stt), Rdg s1 → Rdg s2 → shortB d = true → d.depth < n → R.law_same [(s1, d), (s2, d)] = some (.kept (.bool true), none)) (s1 s2 : Stt) (h1 : Rdg s1) (h2 : Rdg s2) : ∀ (l : List PyData) (d : PyData), (d = .list l ∨ d = .tuple l) → shortAll l = true → PyData.depthAll l < n → ∃ c,
      forM (rngD 0 l.length) (gN 2) (sIf (tNotM (tV (xCall R.law_same (aC (x2i (xV 0) (xV 2) opIx) (aC (x2i (xV 1) (xV 2) opIx) aN))))) (sRet (xC (.bool false))) sPass) [some (s1, d), some (s2, d), none] = some (.nx, [some (s1, d), some (s2, d), c]) := by
  intro l d hd hp hdep
  have := for_all (ds := rngD 0 l.length) (g := gN 2) (b := sIf (tNotM (tV (xCall R.law_same (aC (x2i (xV 0) (xV 2) opIx) (aC (x2i (xV 1) (xV 2) opIx) aN))))) (sRet (xC (.bool false))) sPass)
    (fun _ ρ => ∃ c, ρ = [some (s1, d), some (s2, d), c]) (fun i x ρ hx hI => ?_) (ρ := [some (s1, d), some (s2, d), none]) ⟨none, rfl⟩
  · obtain ⟨ρ', e, c, rfl⟩ := this
    exact ⟨c, e⟩
  · obtain ⟨c, rfl⟩ := hI
    obtain ⟨rfl, hi⟩ := rngD_at hx
    have p1 := shortAll_get hp (List.getElem?_eq_getElem hi)
    have p2 := depth_get (List.getElem?_eq_getElem hi)
    have hc := ih l[i] .shr .shr (.inl rfl) (.inl rfl) p1 (by omega)
    refine ⟨[some (s1, d), some (s2, d), some (.shr, .int i)], _, by simp, ?_, some (.shr, .int i), rfl⟩
    rcases hd with rfl | rfl <;> rcases h1 with rfl | rfl <;> rcases h2 with rfl | rfl <;> simp [List.getElem?_eq_getElem hi, hc]
theorem same_none (R : Fns) (s1 s2 : Stt) (h1 : Rdg s1) (h2 : Rdg s2) : runF 2 3 (m_law_same R) [(s1, PyData.none), (s2, PyData.none)] = some (.kept (.bool true), none) := by
  rcases h1 with rfl | rfl <;> rcases h2 with rfl | rfl <;> exact run_ret (fl := .ret (.kept (.bool true))) (by rfl) (by rfl) (by simp [m_law_same, isNone, isSub, tyD]; rfl) rfl
theorem same_bool {b} (R : Fns) (s1 s2 : Stt) (h1 : Rdg s1) (h2 : Rdg s2) : runF 2 3 (m_law_same R) [(s1, (PyData.bool b)), (s2, (PyData.bool b))] = some (.kept (.bool true), none) := by
  rcases h1 with rfl | rfl <;> rcases h2 with rfl | rfl <;> exact run_ret (fl := .ret (.kept (.bool true))) (by rfl) (by rfl) (by simp [m_law_same, isNone, isSub, tyD]; rfl) rfl
theorem same_int {b} (R : Fns) (s1 s2 : Stt) (h1 : Rdg s1) (h2 : Rdg s2) : runF 2 3 (m_law_same R) [(s1, (PyData.int b)), (s2, (PyData.int b))] = some (.kept (.bool true), none) := by
  rcases h1 with rfl | rfl <;> rcases h2 with rfl | rfl <;> exact run_ret (fl := .ret (.kept (.bool true))) (by rfl) (by rfl) (by simp [m_law_same, isNone, isSub, tyD]; rfl) rfl
theorem same_str {b} (R : Fns) (s1 s2 : Stt) (h1 : Rdg s1) (h2 : Rdg s2) : runF 2 3 (m_law_same R) [(s1, (PyData.str b)), (s2, (PyData.str b))] = some (.kept (.bool true), none) := by
  rcases h1 with rfl | rfl <;> rcases h2 with rfl | rfl <;> exact run_ret (fl := .ret (.kept (.bool true))) (by rfl) (by rfl) (by simp [m_law_same, isNone, isSub, tyD]; rfl) rfl
theorem same_list (R : Fns) (n : Nat) (ih : ∀ (d : PyData) (s1 s2 : Stt), Rdg s1 → Rdg s2 → shortB d = true → d.depth < n → R.law_same [(s1, d), (s2, d)] = some (.kept (.bool true), none)) (s1 s2 : Stt) (h1 : Rdg s1) (h2 : Rdg s2) (l : List PyData) (hp : shortAll l = true) (hl : l.length < 1000000) (hd : PyData.depthAll l < n) : runF 2 3 (m_law_same R) [(s1, .list l), (s2, .list l)] = some (.kept (.bool true), none) := by
  obtain ⟨c, e⟩ := same_loop R n ih s1 s2 h1 h2 l (.list l) (.inl rfl) hp hd
  have ev : ∃ ρ', m_law_same R [some (s1, .list l), some (s2, .list l), none] = some (.ret (.kept (.bool true)), ρ') := by
    unfold m_law_same
    generalize (sIf (tNotM (tV (xCall R.law_same (aC (x2i (xV 0) (xV 2) opIx) (aC (x2i (xV 1) (xV 2) opIx) aN))))) (sRet (xC (.bool false))) sPass) = b at e ⊢
    rcases h1 with rfl | rfl <;> rcases h2 with rfl | rfl <;> simp [isNone, isSub, tyD, e_irb _ _ hl, e]
  obtain ⟨ρ', ev⟩ := ev
  refine run_ret ?_ ?_ ev rfl
  · rcases h1 with rfl | rfl <;> rcases h2 with rfl | rfl <;> rfl
  · rcases h1 with rfl | rfl <;> rfl
theorem same_tuple (R : Fns) (n : Nat) (ih : ∀ (d : PyData) (s1 s2 : Stt), Rdg s1 → Rdg s2 → shortB d = true → d.depth < n → R.law_same [(s1, d), (s2, d)] = some (.kept (.bool true), none)) (s1 s2 : Stt) (h1 : Rdg s1) (h2 : Rdg s2) (l : List PyData) (hp : shortAll l = true) (hl : l.length < 1000000) (hd : PyData.depthAll l < n) : runF 2 3 (m_law_same R) [(s1, .tuple l), (s2, .tuple l)] = some (.kept (.bool true), none) := by
  obtain ⟨c, e⟩ := same_loop R n ih s1 s2 h1 h2 l (.tuple l) (.inr rfl) hp hd
  have ev : ∃ ρ', m_law_same R [some (s1, .tuple l), some (s2, .tuple l), none] = some (.ret (.kept (.bool true)), ρ') := by
    unfold m_law_same
    generalize (sIf (tNotM (tV (xCall R.law_same (aC (x2i (xV 0) (xV 2) opIx) (aC (x2i (xV 1) (xV 2) opIx) aN))))) (sRet (xC (.bool false))) sPass) = b at e ⊢
    rcases h1 with rfl | rfl <;> rcases h2 with rfl | rfl <;> simp [isNone, isSub, tyD, e_irb _ _ hl, e]
  obtain ⟨ρ', ev⟩ := ev
  refine run_ret ?_ ?_ ev rfl
  · rcases h1 with rfl | rfl <;> rcases h2 with rfl | rfl <;> rfl
  · rcases h1 with rfl | rfl <;> rfl
theorem same_step (R : Fns) (n : Nat) (ih : ∀ (d : PyData) (s1 s2 : Stt), Rdg s1 → Rdg s2 → shortB d = true → d.depth < n → R.law_same [(s1, d), (s2, d)] = some (.kept (.bool true), none)) (d : PyData) (s1 s2 : Stt) (h1 : Rdg s1) (h2 : Rdg s2) (hp : shortB d = true) (hd : d.depth < n + 1) :
    runF 2 3 (m_law_same R) [(s1, d), (s2, d)] = some (.kept (.bool true), none) := by
  cases d with
  | none => exact same_none R s1 s2 h1 h2
  | bool b => exact same_bool R s1 s2 h1 h2
  | int b => exact same_int R s1 s2 h1 h2
  | str b => exact same_str R s1 s2 h1 h2
  | list l =>
    rw [shortB, Bool.and_eq_true, decide_eq_true_eq] at hp
    exact same_list R n ih s1 s2 h1 h2 l hp.2 (by omega) (by simp only [PyData.depth] at hd; omega)
  | tuple l =>
    rw [shortB, Bool.and_eq_true, decide_eq_true_eq] at hp
    exact same_tuple R n ih s1 s2 h1 h2 l hp.2 (by omega) (by simp only [PyData.depth] at hd; omega)
  | dict _ => cases hp
theorem same_refl : ∀ (n : Nat) (d : PyData) (s1 s2 : Stt), Rdg s1 → Rdg s2 → shortB d = true → d.depth < n → (lvl n).law_same [(s1, d), (s2, d)] = some (.kept (.bool true), none)
  | 0, _, _, _, _, _, _, h => by omega
  | n + 1, d, s1, s2, h1, h2, hp, hd => same_step (lvl n) n (fun d s1 s2 h1 h2 hp hd => same_refl n d s1 s2 h1 h2 hp hd) d s1 s2 h1 h2 hp hd
end PyK53

namespace PyK53
open PySem PySem.Spec L2 PyI
theorem lc_mapT {α : Type} {vs : List Nat} {g : G1} {t : Mo Bool} {fe : Mo Rs} {ρ0 : Rho} {e : α → PyData} {p : α → Bool} {f : α → PyData} : ∀ (l : List α) (acc : List PyData), acc.length + l.length ≤ LIM →
    (∀ a ∈ l, ∃ ρ1, g.run (e a) ρ0 = some ((), ρ1) ∧ ∃ ρ2, t ρ1 = some (p a, ρ2) ∧ (p a = false → wipeE ρ2 vs = ρ0) ∧ (p a = true → ∃ r ρ3 ρ4, fe ρ2 = some (r, ρ3) ∧ keepR r ρ3 = some (f a, ρ4) ∧ wipeE ρ4 vs = ρ0)) →
    lcM vs g t fe (l.map e) acc ρ0 = some (acc ++ (l.filter p).map f, ρ0)
  | [], acc, _, _ => by simp [lcM, retM]
  | a :: l, acc, hl, h => by
    obtain ⟨ρ1, e1, ρ2, e2, h1, h2⟩ := h a List.mem_cons_self
    have hl' : acc.length + l.length + 1 ≤ LIM := by rw [List.length_cons] at hl; omega
    rw [List.map_cons]
    unfold lcM
    rw [e1]
    dsimp only
    rw [e2]
    cases hp : p a with
    | false =>
      dsimp only
      rw [h1 hp, lc_mapT l acc (by omega) fun x hx => h x (List.mem_cons_of_mem _ hx), List.filter_cons_of_neg (by simp [hp])]
    | true =>
      obtain ⟨r, ρ3, ρ4, e3, e4, e5⟩ := h2 hp
      dsimp only
      have eb : bindM fe keepR ρ2 = some (f a, ρ4) := by unfold bindM; rw [e3]; exact e4
      rw [eb]
      dsimp only
      rw [if_pos (by omega), e5, lc_mapT l (acc ++ [f a]) (by rw [List.length_append, List.length_singleton]; omega) fun x hx => h x (List.mem_cons_of_mem _ hx), List.filter_cons_of_pos hp]
      simp
theorem lc_evalT {α : Type} {vs : List Nat} {fi : Mo (List PyData)} {g : G1} {t : Mo Bool} {fe : Mo Rs} {ρ ρ1 : Rho} {l : List α} {e : α → PyData} (p : α → Bool) (f : α → PyData) (hi : fi ρ = some (l.map e, ρ1)) (hl : l.length ≤ LIM)
    (h : ∀ a ∈ l, ∃ ρ2, g.run (e a) (wipeE ρ1 vs) = some ((), ρ2) ∧ ∃ ρ3, t ρ2 = some (p a, ρ3) ∧ (p a = false → wipeE ρ3 vs = wipeE ρ1 vs) ∧ (p a = true → ∃ r ρ4 ρ5, fe ρ3 = some (r, ρ4) ∧ keepR r ρ4 = some (f a, ρ5) ∧ wipeE ρ5 vs = wipeE ρ1 vs)) :
    xLc vs fi g t fe ρ = some (.fresh (.list ((l.filter p).map f)), restE ρ1 (wipeE ρ1 vs) vs) := by
  unfold xLc
  rw [hi]
  dsimp only
  rw [lc_mapT l [] (by simpa using hl) h]
  rfl
/-! ### the notes and the attacks -/
def nmD (nm : List Str) : PyData := .list (nm.map .str)
def pairD (p : Str × Str) : PyData := .tuple [.str p.1, .str p.2]
def atD (at' : List (Str × Str)) : PyData := .list (at'.map pairD)
/-- who attacks n -/
def ones (at' : List (Str × Str)) (n : Str) : List Str := (at'.filter fun p => p.2 == n).map (·.1)
theorem att_ok (R : Fns) (at' : List (Str × Str)) (n : Str) (s1 s2 : Stt) (h1 : Rdg s1) (h2 : Rdg s2) (hl : at'.length < 1000) (hd : (dedupS (ones at' n)).length < 64) :
    runF 2 4 (m_attackers R) [(s1, atD at'), (s2, .str n)] = some (.fresh (.list ((sortS (dedupS (ones at' n))).map .str)), none) := by
  have lc : xLc [2, 3] (iS (xV 0)) (gT (gsC (gN 2) (gsC (gN 3) gsN))) (tV (x2 (xV 3) (xV 1) opEq)) (xV 2) [some (s1, atD at'), some (s2, .str n), none, none] = some (.fresh (.list ((ones at' n).map .str)), [some (s1, atD at'), some (s2, .str n), none, none]) := by
    have := lc_evalT (vs := [2, 3]) (fi := iS (xV 0)) (g := gT (gsC (gN 2) (gsC (gN 3) gsN))) (t := tV (x2 (xV 3) (xV 1) opEq)) (fe := xV 2) (ρ := [some (s1, atD at'), some (s2, .str n), none, none]) (ρ1 := [some (s1, atD at'), some (s2, .str n), none, none]) (l := at') (e := pairD)
      (fun p => p.2 == n) (fun p => .str p.1) (by rcases h1 with rfl | rfl <;> simp [atD]) (Nat.le_trans (Nat.le_of_lt hl) (by decide)) (fun p hp => ?_)
    · rw [this]
      simp [ones, restE, wipeE]
    · have L : ∃ q : Rho, q = [some (s1, atD at'), some (s2, .str n), some (.shr, .str p.1), some (.shr, .str p.2)] := ⟨_, rfl⟩
      obtain ⟨q, hq⟩ := L
      refine ⟨q, by simp [pairD, wipeE, hq], q, by rcases h2 with rfl | rfl <;> simp [hq], fun _ => by simp [wipeE, hq], fun _ => ⟨.slot 2, q, q, by simp [hq], by simp [hq], by simp [wipeE, hq]⟩⟩
  have hk : (ones at' n).length < 1000 := by
    unfold ones
    rw [List.length_map]
    exact Nat.lt_of_le_of_lt (List.length_filter_le _ _) hl
  have hso : soSet (.list ((ones at' n).map .str)) = some (.list ((sortS (dedupS (ones at' n))).map .str)) := by
    unfold soSet
    dsimp only
    rw [strsD_map]
    show (if _ then _ else _) = _
    rw [if_pos ⟨hd, hk⟩]
  have ev : m_attackers R [some (s1, atD at'), some (s2, .str n), none, none] = some (.ret (.fresh (.list ((sortS (dedupS (ones at' n))).map .str))), [some (s1, atD at'), some (s2, .str n), none, none]) := by
    unfold m_attackers
    simp [lc, hso]
  refine run_fresh ?_ ?_ ev rfl
  · rcases h1 with rfl | rfl <;> rcases h2 with rfl | rfl <;> rfl
  · rcases h1 with rfl | rfl <;> rfl
end PyK53

namespace PyK53
open PySem PySem.Spec L2 PyI
abbrev Fd := List (Str × (Str × Int))
def labD (e : Str × Int) : PyData := .tuple [.str e.1, .int e.2]
def fdk (f : Fd) : List (PyData × PyData) := f.map fun e => (.str e.1, labD e.2)
def look (f : Fd) (x : Str) : Option (Str × Int) := f.lookup x
theorem look_nil (x : Str) : look [] x = none := rfl
theorem look_cons (e : Str × (Str × Int)) (f : Fd) (x : Str) : look (e :: f) x = if e.1 = x then some e.2 else look f x := by
  unfold look
  obtain ⟨k, v⟩ := e
  rw [List.lookup_cons]
  by_cases h : k = x
  · subst h; simp
  · have : (x == k) = false := by simp [Ne.symm h]
    rw [this, if_neg h]
@[simp] theorem look_fd (x : Str) : ∀ f : Fd, lookD (.str x) (fdk f) = (look f x).map labD
  | [] => rfl
  | e :: f => by
    unfold fdk
    rw [List.map_cons, look_cons]
    unfold lookD
    show (if keyEq (.str e.1) (.str x) = true then some (labD e.2) else lookD (.str x) (fdk f)) = _
    rw [look_fd x f]
    by_cases h : e.1 = x
    · rw [if_pos (by simp [keyEq, h]), if_pos h]; rfl
    · rw [if_neg (by simp [keyEq, h]), if_neg h]
theorem look_app (f g : Fd) (x : Str) : look (f ++ g) x = (look f x).or (look g x) := by
  induction f with
  | nil => rfl
  | cons e f ih =>
    rw [List.cons_append, look_cons, look_cons, ih]
    split <;> rfl
theorem look_mem {f : Fd} {x : Str} {v : Str × Int} (h : look f x = some v) : (x, v) ∈ f := by
  induction f with
  | nil => cases h
  | cons e f ih =>
    rw [look_cons] at h
    split at h
    · rename_i hx
      cases h
      subst hx
      exact List.mem_cons_self
    · exact List.mem_cons_of_mem _ (ih h)
theorem look_none {f : Fd} {x : Str} : look f x = none ↔ x ∉ f.map (·.1) := by
  induction f with
  | nil => simp [look_nil]
  | cons e f ih =>
    rw [look_cons, List.map_cons, List.mem_cons, not_or]
    by_cases h : e.1 = x
    · rw [if_pos h]; simp [h]
    · rw [if_neg h, ih]
      exact ⟨fun z => ⟨fun y => h y.symm, z⟩, fun z => z.2⟩
theorem has_fd (f : Fd) (x : Str) : hasD (fdk f) (.str x) = (look f x).isSome := by
  induction f with
  | nil => rfl
  | cons e f ih =>
    unfold fdk hasD at ih ⊢
    rw [List.map_cons, List.any_cons, ih, look_cons]
    by_cases h : e.1 = x
    · simp [keyEq, h]
    · simp [keyEq, h]
theorem put_new {f : Fd} {x : Str} {v : Str × Int} (h : look f x = none) : putD (fdk f) (.str x) (labD v) = fdk (f ++ [(x, v)]) := by
  unfold putD
  rw [has_fd, h]
  simp [fdk]
theorem fdk_len (f : Fd) : (fdk f).length = f.length := List.length_map ..
theorem set_new {f : Fd} {x : Str} {v : Str × Int} (h : look f x = none) (hl : f.length < 1000) : setD (.dict (fdk f)) (.str x) (labD v) = some (.dict (fdk (f ++ [(x, v)]))) := by
  show (match keyOf? (.str x) with | some k => if (fdk f).length < sizeLine then some (PyData.dict (putD (fdk f) (keyD k) (labD v))) else none | none => none) = _
  show (if (fdk f).length < sizeLine then some (PyData.dict (putD (fdk f) (.str x) (labD v))) else none) = _
  rw [if_pos (by rw [fdk_len, sizeLine_eq]; omega), put_new h]
theorem merge_new : ∀ {g f : Fd}, (g.map (·.1)).Nodup → (∀ e ∈ g, look f e.1 = none) → mergeD (fdk f) (fdk g) = fdk (f ++ g)
  | [], f, _, _ => by simp [mergeD, fdk]
  | e :: g, f, nd, hd => by
    rw [List.map_cons, List.nodup_cons] at nd
    show mergeD (putD (fdk f) (.str e.1) (labD e.2)) (fdk g) = _
    rw [put_new (hd e List.mem_cons_self), merge_new nd.2 fun x hx => ?_]
    · simp
    · rw [look_app, hd x (List.mem_cons_of_mem _ hx), look_cons, if_neg, look_nil]
      · rfl
      · intro z
        exact nd.1 (z ▸ List.mem_map.mpr ⟨x, hx, rfl⟩)
/-! ### a round -/
def lab (f : Fd) (x : Str) : Str := ((look f x).getD ("open", -1)).1
/-- the label that n gets -/
def newLab (at' : List (Str × Str)) (f : Fd) (n : Str) : Option Str :=
  if (look f n).isSome = true then none
  else if (ones at' n).any (fun o => lab f o == "stands") = true then some "falls"
  else if (ones at' n).all (fun o => lab f o == "falls") = true then some "stands"
  else none
def entry (at' : List (Str × Str)) (f : Fd) (r : Int) (n : Str) : Fd := match newLab at' f n with
  | some l => [(n, (l, r))]
  | none => []
def round (at' : List (Str × Str)) (f : Fd) (r : Int) : List Str → Fd
  | [] => []
  | n :: S => entry at' f r n ++ round at' f r S
theorem round_app (at' : List (Str × Str)) (f : Fd) (r : Int) (S T : List Str) : round at' f r (S ++ T) = round at' f r S ++ round at' f r T := by
  induction S with
  | nil => rfl
  | cons n S ih => simp [round, ih]
theorem round_keys {at' : List (Str × Str)} {f : Fd} {r : Int} {S : List Str} {e : Str × (Str × Int)} (h : e ∈ round at' f r S) : e.1 ∈ S ∧ newLab at' f e.1 = some e.2.1 ∧ e.2.2 = r := by
  induction S with
  | nil => cases h
  | cons n S ih =>
    unfold round at h
    rcases List.mem_append.mp h with h | h
    · unfold entry at h
      split at h
      · rename_i l hl
        rw [List.mem_singleton] at h
        subst h
        exact ⟨List.mem_cons_self, hl, rfl⟩
      · cases h
    · exact ⟨List.mem_cons_of_mem _ (ih h).1, (ih h).2⟩
theorem round_nodup {at' : List (Str × Str)} {f : Fd} {r : Int} {S : List Str} (nd : S.Nodup) : ((round at' f r S).map (·.1)).Nodup := by
  induction S with
  | nil => exact List.nodup_nil
  | cons n S ih =>
    rw [List.nodup_cons] at nd
    unfold round entry
    split
    · rw [List.singleton_append, List.map_cons, List.nodup_cons]
      refine ⟨fun z => ?_, ih nd.2⟩
      obtain ⟨e, he, h⟩ := List.mem_map.mp z
      exact nd.1 ((show e.1 = n from h) ▸ (round_keys he).1)
    · exact ih nd.2
theorem round_len (at' : List (Str × Str)) (f : Fd) (r : Int) (S : List Str) : (round at' f r S).length ≤ S.length := by
  induction S with
  | nil => exact Nat.le_refl _
  | cons n S ih =>
    unfold round entry
    split <;> simp <;> omega
theorem newLab_new {at' : List (Str × Str)} {f : Fd} {n l : Str} (h : newLab at' f n = some l) : look f n = none := by
  unfold newLab at h
  split at h
  · cases h
  · rename_i z
    cases e : look f n with
    | none => rfl
    | some v => rw [e] at z; exact absurd rfl z
/-- the labels are words of the three -/
def Good (f : Fd) : Prop := ∀ e ∈ f, e.2.1 = "stands" ∨ e.2.1 = "falls"
theorem newLab_word {at' : List (Str × Str)} {f : Fd} {n l : Str} (h : newLab at' f n = some l) : l = "stands" ∨ l = "falls" := by
  unfold newLab at h
  split at h
  · cases h
  · split at h
    · cases h; exact .inr rfl
    · split at h
      · cases h; exact .inl rfl
      · cases h
theorem good_round {at' : List (Str × Str)} {f : Fd} {r : Int} {S : List Str} (g : Good f) : Good (f ++ round at' f r S) := fun e he => by
  rcases List.mem_append.mp he with he | he
  · exact g e he
  · exact newLab_word (round_keys he).2.1
theorem lab_word {f : Fd} (g : Good f) (x : Str) : lab f x = "stands" ∨ lab f x = "falls" ∨ lab f x = "open" := by
  unfold lab
  cases e : look f x with
  | none => exact .inr (.inr rfl)
  | some v =>
    rcases g _ (look_mem e) with h | h
    · exact .inl h
    · exact .inr (.inl h)
/-! ### membership -/
theorem add1_mem {l : List Str} {k x : Str} : x ∈ SetT.add1 l k ↔ x ∈ l ∨ x = k := by
  unfold SetT.add1
  split
  · rename_i h
    exact ⟨.inl, fun z => z.elim id fun y => y ▸ h⟩
  · simp
theorem dedup_mem_from (x : Str) : ∀ (xs l : List Str), x ∈ xs.foldl SetT.add1 l ↔ x ∈ l ∨ x ∈ xs
  | [], l => by simp
  | k :: xs, l => by
    rw [List.foldl_cons, dedup_mem_from x xs, add1_mem, List.mem_cons]
    exact ⟨fun h => h.elim (fun h => h.elim .inl fun h => .inr (.inl h)) fun h => .inr (.inr h), fun h => h.elim (fun h => .inl (.inl h)) fun h => h.elim (fun h => .inl (.inr h)) .inr⟩
theorem dedup_mem {x : Str} {xs : List Str} : x ∈ dedupS xs ↔ x ∈ xs := by
  unfold dedupS
  rw [dedup_mem_from]
  simp
theorem sod_mem {x : Str} {xs : List Str} : x ∈ sortS (dedupS xs) ↔ x ∈ xs := by
  rw [(sortS_perm _).mem_iff, dedup_mem]
theorem add1_nodup {l : List Str} {k : Str} (h : l.Nodup) : (SetT.add1 l k).Nodup := by
  unfold SetT.add1
  split
  · exact h
  · rename_i hk
    exact List.nodup_append.mpr ⟨h, by simp, fun x hx y hy z => by rw [List.mem_singleton] at hy; subst hy; subst z; exact hk hx⟩
theorem dedup_nodup_from : ∀ (xs l : List Str), l.Nodup → (xs.foldl SetT.add1 l).Nodup
  | [], _, h => h
  | _ :: xs, _, h => dedup_nodup_from xs _ (add1_nodup h)
theorem dedup_nodup (xs : List Str) : (dedupS xs).Nodup := dedup_nodup_from xs [] List.nodup_nil
/-- few different ones, if all are of a short list -/
theorem nodup_len {l m : List Str} (h : l.Nodup) (s : ∀ x ∈ l, x ∈ m) : l.length ≤ m.length := by
  induction l generalizing m with
  | nil => exact Nat.zero_le _
  | cons a l ih =>
    rw [List.nodup_cons] at h
    have ha : a ∈ m := s a List.mem_cons_self
    have := ih (m := m.erase a) h.2 fun x hx => by
      have hne : x ≠ a := fun z => h.1 (z ▸ hx)
      exact (List.mem_erase_of_ne hne).mpr (s x (List.mem_cons_of_mem _ hx))
    rw [List.length_erase_of_mem ha] at this
    have hp : 0 < m.length := List.length_pos_of_mem ha
    rw [List.length_cons]
    omega
end PyK53

namespace PyK53
open PySem PySem.Spec L2 PyI
theorem plain_strs : ∀ xs : List Str, PyData.plainAll (xs.map .str) = true
  | [] => by simp [PyData.plainAll]
  | x :: xs => by simp [PyData.plainAll, PyData.plain, plain_strs xs]
theorem inD_strs (x : Str) (xs : List Str) : inD (.str x) (.list (xs.map .str)) = some (xs.any fun y => y == x) := by
  show (if (PyData.str x).plain = true ∧ PyData.plainAll (xs.map .str) = true ∧ (PyData.str x).depth ≤ 50 then some ((xs.map PyData.str).any fun y => y.eqv (.str x)) else none) = _
  rw [if_pos ⟨by simp [PyData.plain], plain_strs xs, by simp [PyData.depth]⟩, List.any_map]
  rfl
@[simp] theorem o_inS (x : Str) (xs : List Str) : opInA (.str x) (.list (xs.map .str)) = some (.bool (xs.any fun y => y == x)) := by
  unfold opInA anyIn
  dsimp only
  rw [inD_strs]; rfl
@[simp] theorem o_ninS (x : Str) (xs : List Str) : opNotInA (.str x) (.list (xs.map .str)) = some (.bool (!(xs.any fun y => y == x))) := by
  unfold opNotInA anyIn
  dsimp only
  rw [inD_strs]; rfl
/-- the labels of the attackers -/
def labsS (at' : List (Str × Str)) (f : Fd) (n : Str) : List Str := (sortS (dedupS (ones at' n))).map (lab f)
theorem labs_any (at' : List (Str × Str)) (f : Fd) (n w : Str) : (labsS at' f n).any (fun y => y == w) = (ones at' n).any fun o => lab f o == w := by
  rw [Bool.eq_iff_iff, List.any_eq_true, List.any_eq_true]
  unfold labsS
  constructor
  · rintro ⟨x, hx, h⟩
    obtain ⟨o, ho, rfl⟩ := List.mem_map.mp hx
    exact ⟨o, sod_mem.mp ho, h⟩
  · rintro ⟨o, ho, h⟩
    exact ⟨_, List.mem_map.mpr ⟨o, sod_mem.mpr ho, rfl⟩, h⟩
theorem no_open (f : Fd) (g : Good f) (xs : List Str) (h : xs.any (fun o => lab f o == "stands") = false) : xs.any (fun o => lab f o == "open") = !xs.all fun o => lab f o == "falls" := by
  induction xs with
  | nil => rfl
  | cons x xs ih =>
    rw [List.any_cons, Bool.or_eq_false_iff] at h
    rw [List.any_cons, List.all_cons, ih h.2, Bool.not_and]
    congr 1
    rcases lab_word g x with e | e | e
    · rw [e] at h; exact absurd h.1 (by decide)
    · rw [e]; decide
    · rw [e]; decide
/-! ### one turn of stands -/
def bS (R : Fns) : Mo Fl := sSeq (sSet 7 (xLc [8] (iS (xCall R.attackers (aC (xV 1) (aC (xV 6) aN)))) (gN 8) tYesM (x2i (xGet2 (xV 2) (xV 8) (xTup (aC (xC (.str "open")) (aC (x1 opNeg (xC (.int 1))) aN)))) (xC (.int 0)) opIx)))
    (sIf (tAndM (tV (x2 (xV 6) (xV 2) opNotInA)) (tV (x2 (xC (.str "stands")) (xV 7) opInA))) (sPut 5 (xV 6) (xTup (aC (xC (.str "falls")) (aC (xV 3) aN)))) (sIf (tAndM (tV (x2 (xV 6) (xV 2) opNotInA)) (tAndM (tV (x2 (xC (.str "stands")) (xV 7) opNotInA)) (tV (x2 (xC (.str "open")) (xV 7) opNotInA)))) (sPut 5 (xV 6) (xTup (aC (xC (.str "stands")) (aC (xV 3) aN)))) sPass))
/-- attackers does its work on these attacks -/
def AttOk (R : Fns) (at' : List (Str × Str)) : Prop := ∀ (n : Str) (s1 s2 : Stt), Rdg s1 → Rdg s2 → R.attackers [(s1, atD at'), (s2, .str n)] = some (.fresh (.list ((sortS (dedupS (ones at' n))).map .str)), none)
def stSt (d0 d1 d5 : Option (Stt × PyData)) (f : Fd) (r : Int) (x6 x7 : Option (Stt × PyData)) : Rho := [d0, d1, some (.own, .dict (fdk f)), some (.shr, .int r), some (.shr, .bool true), d5, x6, x7, none]
theorem lab_get (f : Fd) (o : Str) : opIx (Option.getD (Option.map labD (look f o)) (PyData.tuple [.str "open", .int (-1)])) (.int 0) = some (.str (lab f o)) := by
  unfold lab
  cases look f o <;> rfl
theorem others_ok (R : Fns) (at' : List (Str × Str)) (A : AttOk R at') (s1 : Stt) (h1 : Rdg s1) (d0 d5 : Option (Stt × PyData)) (f : Fd) (r : Int) (n : Str) (x7 : Option (Stt × PyData)) (hl : (dedupS (ones at' n)).length < 64) :
    xLc [8] (iS (xCall R.attackers (aC (xV 1) (aC (xV 6) aN)))) (gN 8) tYesM (x2i (xGet2 (xV 2) (xV 8) (xTup (aC (xC (.str "open")) (aC (x1 opNeg (xC (.int 1))) aN)))) (xC (.int 0)) opIx) (stSt d0 (some (s1, atD at')) d5 f r (some (.shr, .str n)) x7) = some (.fresh (.list ((labsS at' f n).map .str)), stSt d0 (some (s1, atD at')) d5 f r (some (.shr, .str n)) x7) := by
  have := lc_evalT (vs := [8]) (fi := iS (xCall R.attackers (aC (xV 1) (aC (xV 6) aN)))) (g := gN 8) (t := tYesM) (fe := x2i (xGet2 (xV 2) (xV 8) (xTup (aC (xC (.str "open")) (aC (x1 opNeg (xC (.int 1))) aN)))) (xC (.int 0)) opIx) (ρ := stSt d0 (some (s1, atD at')) d5 f r (some (.shr, .str n)) x7) (ρ1 := stSt d0 (some (s1, atD at')) d5 f r (some (.shr, .str n)) x7) (l := sortS (dedupS (ones at' n))) (e := .str)
      (fun p => true) (fun o => .str (lab f o)) (by unfold stSt; rcases h1 with rfl | rfl <;> simp [A n _ .shr (.inl rfl) (.inl rfl), A n _ .shr (.inr rfl) (.inl rfl)]) (by rw [(sortS_perm _).length_eq]; exact Nat.le_trans (Nat.le_of_lt hl) (by decide)) (fun o ho => ?_)
  · rw [this]
    unfold stSt labsS
    rw [List.filter_eq_self.mpr (fun _ _ => rfl)]
    simp [restE, wipeE]
  · obtain ⟨q, hq⟩ : ∃ q : Rho, q = [d0, some (s1, atD at'), some (.own, .dict (fdk f)), some (.shr, .int r), some (.shr, .bool true), d5, some (.shr, .str n), x7, some (.shr, .str o)] := ⟨_, rfl⟩
    refine ⟨q, by unfold stSt; simp [wipeE, hq], q, by simp, fun h => (by cases h), fun _ => ⟨.kept (.str (lab f o)), q, q, ?_, by simp, by unfold stSt; simp [wipeE, hq]⟩⟩
    rw [hq]
    simp [lab_get]
theorem bS_ok (R : Fns) (at' : List (Str × Str)) (A : AttOk R at') (s1 : Stt) (h1 : Rdg s1) (d0 : Option (Stt × PyData)) (f g : Fd) (r : Int) (n : Str) (x7 : Option (Stt × PyData)) (hl : (dedupS (ones at' n)).length < 64) (gf : Good f) (hg : g.length < 1000) (hn : look g n = none) :
    ∃ y7, bS R (stSt d0 (some (s1, atD at')) (some (.own, .dict (fdk g))) f r (some (.shr, .str n)) x7) = some (.nx, stSt d0 (some (s1, atD at')) (some (.own, .dict (fdk (g ++ entry at' f r n)))) f r (some (.shr, .str n)) y7) := by
  refine ⟨some (.own, .list ((labsS at' f n).map .str)), ?_⟩
  unfold bS
  rw [e_sq, e_st, others_ok R at' A s1 h1 _ _ f r n x7 hl]
  unfold stSt
  have e1 := labs_any at' f n "stands"
  have e2 := labs_any at' f n "open"
  unfold entry newLab
  cases hk : look f n with
  | some v => simp [hk]
  | none =>
    have sn : ∀ w : Str, setD (.dict (fdk g)) (.str n) (.tuple [.str w, .int r]) = some (.dict (fdk (g ++ [(n, (w, r))]))) := fun w => set_new (v := (w, r)) hn hg
    cases hs : (ones at' n).any fun o => lab f o == "stands" with
    | true =>
      rw [hs] at e1
      simp [hk, e1, hs, sn]
    | false =>
      rw [hs] at e1
      rw [no_open f gf _ hs] at e2
      cases ha : (ones at' n).all fun o => lab f o == "falls" with
      | true =>
        rw [ha] at e2
        simp [hk, e1, e2, hs, ha, sn]
      | false =>
        rw [ha] at e2
        simp [hk, e1, e2, hs, ha]
/-! ### one turn of due -/
theorem eqD_strs0 (xs : List Str) : opEq (.list (xs.map .str)) (.list []) = some (.bool xs.isEmpty) := by
  show Option.map PyData.bool (if (PyData.list (xs.map .str)).plain = true ∧ (PyData.list []).plain = true ∧ min (PyData.list (xs.map .str)).depth (PyData.list []).depth ≤ 60 then some ((PyData.list (xs.map .str)).eqv (.list [])) else none) = _
  rw [if_pos ⟨by simp [PyData.plain, plain_strs], by simp [PyData.plain, PyData.plainAll], Nat.le_trans (Nat.min_le_right _ _) (by simp [PyData.depth, PyData.depthAll])⟩]
  cases xs <;> simp [PyData.eqv, PyData.eqvAll]
def labsU (at' : List (Str × Str)) (f : Fd) (n : Str) : List Str := (ones at' n).map (lab f)
def bD (R : Fns) : Mo Fl := sSeq (sSet 7 (xLc [8, 9] (iS (xV 1)) (gT (gsC (gN 8) (gsC (gN 9) gsN))) (tV (x2 (xV 9) (xV 6) opEq)) (xIf (tV (x2 (xV 8) (xV 2) opInA)) (x2i (x2i (xV 2) (xV 8) opIx) (xC (.int 0)) opIx) (xC (.str "open")))))
    (sIf (tAndM (tV (x2 (xV 6) (xV 2) opNotInA)) (tV (x2 (xC (.str "stands")) (xV 7) opInA))) (sPut 5 (xV 6) (xTup (aC (xC (.str "falls")) (aC (xV 3) aN)))) (sIf (tAndM (tV (x2 (xV 6) (xV 2) opNotInA)) (tV (x2 (xLc [10] (iS (xV 7)) (gN 10) (tV (x2 (xV 10) (xC (.str "falls")) opNe)) (xV 10)) (xLst aN) opEq))) (sPut 5 (xV 6) (xTup (aC (xC (.str "stands")) (aC (xV 3) aN)))) sPass))
def stDu (d0 d1 d5 : Option (Stt × PyData)) (f : Fd) (r : Int) (x6 x7 : Option (Stt × PyData)) : Rho := [d0, d1, some (.own, .dict (fdk f)), some (.shr, .int r), some (.shr, .bool true), d5, x6, x7, none, none, none]
theorem labels_ok (at' : List (Str × Str)) (s1 : Stt) (h1 : Rdg s1) (d0 d5 : Option (Stt × PyData)) (f : Fd) (r : Int) (n : Str) (x7 : Option (Stt × PyData)) (hl : at'.length < 1000) :
    xLc [8, 9] (iS (xV 1)) (gT (gsC (gN 8) (gsC (gN 9) gsN))) (tV (x2 (xV 9) (xV 6) opEq)) (xIf (tV (x2 (xV 8) (xV 2) opInA)) (x2i (x2i (xV 2) (xV 8) opIx) (xC (.int 0)) opIx) (xC (.str "open"))) (stDu d0 (some (s1, atD at')) d5 f r (some (.shr, .str n)) x7) = some (.fresh (.list ((labsU at' f n).map .str)), stDu d0 (some (s1, atD at')) d5 f r (some (.shr, .str n)) x7) := by
  have := lc_evalT (vs := [8, 9]) (fi := iS (xV 1)) (g := gT (gsC (gN 8) (gsC (gN 9) gsN))) (t := tV (x2 (xV 9) (xV 6) opEq)) (fe := xIf (tV (x2 (xV 8) (xV 2) opInA)) (x2i (x2i (xV 2) (xV 8) opIx) (xC (.int 0)) opIx) (xC (.str "open"))) (ρ := stDu d0 (some (s1, atD at')) d5 f r (some (.shr, .str n)) x7) (ρ1 := stDu d0 (some (s1, atD at')) d5 f r (some (.shr, .str n)) x7) (l := at') (e := pairD)
      (fun p => p.2 == n) (fun p => .str (lab f p.1)) (by unfold stDu; rcases h1 with rfl | rfl <;> simp [atD]) (Nat.le_trans (Nat.le_of_lt hl) (by decide)) (fun p hp => ?_)
  · rw [this]
    unfold stDu labsU ones
    simp [restE, wipeE]
  · obtain ⟨q, hq⟩ : ∃ q : Rho, q = [d0, some (s1, atD at'), some (.own, .dict (fdk f)), some (.shr, .int r), some (.shr, .bool true), d5, some (.shr, .str n), x7, some (.shr, .str p.1), some (.shr, .str p.2), none] := ⟨_, rfl⟩
    refine ⟨q, by unfold stDu; simp [wipeE, hq, pairD], q, by simp [hq], fun _ => by unfold stDu; simp [wipeE, hq], fun _ => ⟨.kept (.str (lab f p.1)), q, q, ?_, by simp, by unfold stDu; simp [wipeE, hq]⟩⟩
    rw [hq]
    unfold lab
    cases hk : look f p.1 <;> simp [hk, labD]
theorem bD_ok (R : Fns) (at' : List (Str × Str)) (s1 : Stt) (h1 : Rdg s1) (d0 : Option (Stt × PyData)) (f g : Fd) (r : Int) (n : Str) (x7 : Option (Stt × PyData)) (hl : at'.length < 1000) (gf : Good f) (hg : g.length < 1000) (hn : look g n = none) :
    ∃ y7, bD R (stDu d0 (some (s1, atD at')) (some (.own, .dict (fdk g))) f r (some (.shr, .str n)) x7) = some (.nx, stDu d0 (some (s1, atD at')) (some (.own, .dict (fdk (g ++ entry at' f r n)))) f r (some (.shr, .str n)) y7) := by
  have lc : xLc [10] (iS (xV 7)) (gN 10) (tV (x2 (xV 10) (xC (.str "falls")) opNe)) (xV 10) (stDu d0 (some (s1, atD at')) (some (.own, .dict (fdk g))) f r (some (.shr, .str n)) (some (.own, .list ((labsU at' f n).map .str)))) = some (.fresh (.list (((labsU at' f n).filter fun x : Str => !(x == "falls")).map .str)), stDu d0 (some (s1, atD at')) (some (.own, .dict (fdk g))) f r (some (.shr, .str n)) (some (.shr, .list ((labsU at' f n).map .str)))) := by
    have := lc_evalT (vs := [10]) (fi := iS (xV 7)) (g := gN 10) (t := tV (x2 (xV 10) (xC (.str "falls")) opNe)) (fe := xV 10) (ρ := stDu d0 (some (s1, atD at')) (some (.own, .dict (fdk g))) f r (some (.shr, .str n)) (some (.own, .list ((labsU at' f n).map .str)))) (ρ1 := stDu d0 (some (s1, atD at')) (some (.own, .dict (fdk g))) f r (some (.shr, .str n)) (some (.shr, .list ((labsU at' f n).map .str)))) (l := labsU at' f n) (e := .str)
      (fun x : Str => !(x == "falls")) .str (by unfold stDu; simp) (by unfold labsU ones; rw [List.length_map, List.length_map]; exact Nat.le_trans (List.length_filter_le _ _) (Nat.le_trans (Nat.le_of_lt hl) (by decide))) (fun x hx => ?_)
    · rw [this]
      unfold stDu
      simp [restE, wipeE]
    · obtain ⟨q, hq⟩ : ∃ q : Rho, q = [d0, some (s1, atD at'), some (.own, .dict (fdk f)), some (.shr, .int r), some (.shr, .bool true), some (.own, .dict (fdk g)), some (.shr, .str n), some (.shr, .list ((labsU at' f n).map .str)), none, none, some (.shr, .str x)] := ⟨_, rfl⟩
      refine ⟨q, by unfold stDu; simp [wipeE, hq], q, by simp [hq], fun _ => by unfold stDu; simp [wipeE, hq], fun _ => ⟨.slot 10, q, q, by simp [hq], by simp [hq], by unfold stDu; simp [wipeE, hq]⟩⟩
  have e1 : ((labsU at' f n).any fun y => y == "stands") = (ones at' n).any fun o => lab f o == "stands" := by unfold labsU; rw [List.any_map]; rfl
  have e2 : ((labsU at' f n).filter fun x : Str => !(x == "falls")).isEmpty = (ones at' n).all fun o => lab f o == "falls" := by
    unfold labsU
    rw [Bool.eq_iff_iff]
    simp [List.isEmpty_iff, List.filter_eq_nil_iff]
  have e3 := eqD_strs0 ((labsU at' f n).filter fun x : Str => !(x == "falls"))
  rw [e2] at e3
  unfold bD
  rw [e_sq, e_st, labels_ok at' s1 h1 _ _ f r n x7 hl]
  unfold stDu at lc ⊢
  unfold entry newLab
  generalize ((labsU at' f n).filter fun x : Str => !(x == "falls")) = fl at lc e3
  cases hk : look f n with
  | some v => simp [hk]
  | none =>
    have sn : ∀ w : Str, setD (.dict (fdk g)) (.str n) (.tuple [.str w, .int r]) = some (.dict (fdk (g ++ [(n, (w, r))]))) := fun w => set_new (v := (w, r)) hn hg
    cases hs : (ones at' n).any fun o => lab f o == "stands" with
    | true =>
      rw [hs] at e1
      simp [hk, e1, hs, sn]
    | false =>
      rw [hs] at e1
      cases ha : (ones at' n).all fun o => lab f o == "falls" with
      | true =>
        rw [ha] at e3
        simp [hk, e1, e3, hs, ha, sn, lc]
      | false =>
        rw [ha] at e3
        simp [hk, e1, e3, hs, ha, lc]
end PyK53

namespace PyK53
open PySem PySem.Spec L2 PyI
/-! ### all rounds -/
def Fs (at' : List (Str × Str)) (S : List Str) : Nat → Fd
  | 0 => []
  | r + 1 => Fs at' S r ++ round at' (Fs at' S r) r S
theorem newLab_rank {at' : List (Str × Str)} {f : Fd} {r r' : Int} {S : List Str} (h : round at' f r S = []) : round at' f r' S = [] := by
  induction S with
  | nil => rfl
  | cons n S ih =>
    unfold round at h ⊢
    rw [List.append_eq_nil_iff] at h ⊢
    refine ⟨?_, ih h.2⟩
    have := h.1
    unfold entry at this ⊢
    cases e : newLab at' f n with
    | none => rfl
    | some l => rw [e] at this; cases this
theorem Fs_good (at' : List (Str × Str)) (S : List Str) : ∀ r, Good (Fs at' S r)
  | 0 => fun _ h => nomatch h
  | r + 1 => good_round (Fs_good at' S r)
theorem Fs_mem (at' : List (Str × Str)) (S : List Str) : ∀ r, ∀ e ∈ Fs at' S r, e.1 ∈ S
  | 0, _, h => nomatch h
  | r + 1, e, h => by
    rcases List.mem_append.mp h with h | h
    · exact Fs_mem at' S r e h
    · exact (round_keys h).1
theorem round_new {at' : List (Str × Str)} {f : Fd} {r : Int} {S : List Str} {e : Str × (Str × Int)} (h : e ∈ round at' f r S) : look f e.1 = none := newLab_new (round_keys h).2.1
theorem Fs_nodup {at' : List (Str × Str)} {S : List Str} (nd : S.Nodup) : ∀ r, ((Fs at' S r).map (·.1)).Nodup
  | 0 => List.nodup_nil
  | r + 1 => by
    show ((Fs at' S r ++ round at' (Fs at' S r) r S).map (·.1)).Nodup
    rw [List.map_append, List.nodup_append]
    refine ⟨Fs_nodup nd r, round_nodup nd, fun a ha b hb z => ?_⟩
    subst z
    obtain ⟨e, he, rfl⟩ := List.mem_map.mp hb
    exact look_none.mp (round_new he) ha
theorem Fs_len {at' : List (Str × Str)} {S : List Str} (nd : S.Nodup) (r : Nat) : (Fs at' S r).length ≤ S.length := by
  have := nodup_len (Fs_nodup (at' := at') nd r) (m := S) (fun x hx => by obtain ⟨e, he, rfl⟩ := List.mem_map.mp hx; exact Fs_mem at' S r e he)
  rwa [List.length_map] at this
def Stop (at' : List (Str × Str)) (S : List Str) (m : Nat) : Prop := round at' (Fs at' S m) m S = []
theorem Fs_stop {at' : List (Str × Str)} {S : List Str} {m : Nat} (h : Stop at' S m) : ∀ k, Fs at' S (m + k) = Fs at' S m
  | 0 => rfl
  | k + 1 => by
    show Fs at' S (m + k) ++ round at' (Fs at' S (m + k)) ((m + k : Nat) : Int) S = _
    rw [Fs_stop h k, newLab_rank h, List.append_nil]
theorem Fs_same {at' : List (Str × Str)} {S : List Str} {m m' : Nat} (h : Stop at' S m) (h' : Stop at' S m') : Fs at' S m = Fs at' S m' := by
  rcases Nat.le_total m m' with z | z
  · obtain ⟨k, rfl⟩ := Nat.exists_eq_add_of_le z
    exact (Fs_stop h k).symm
  · obtain ⟨k, rfl⟩ := Nat.exists_eq_add_of_le z
    exact Fs_stop h' k
/-! ### what is told -/
def look' (f : Fd) (n : Str) : Str × Int := (look f n).getD ("open", -1)
def rowD (n : Str) (e : Str × Int) : PyData := .tuple [.str n, .str e.1, .int e.2]
def toldD (f : Fd) (S : List Str) : PyData := .tuple (S.map fun n => rowD n (look' f n))
/-! ### the loop of a round -/
theorem nodup_at {S : List Str} (nd : S.Nodup) {i : Nat} {n : Str} (h : S[i]? = some n) : n ∉ S.take i := by
  have hlt : i < S.length := (List.getElem?_eq_some_iff.mp h).1
  have e : S[i] = n := (List.getElem?_eq_some_iff.mp h).2
  intro z
  obtain ⟨j, hj, he⟩ := List.getElem_of_mem z
  rw [List.getElem_take] at he
  rw [List.length_take] at hj
  have := (List.getElem_inj (h₀ := by omega) (h₁ := hlt) nd).mp (he.trans e.symm)
  omega
theorem take_succ {S : List Str} {i : Nat} {n : Str} (h : S[i]? = some n) : S.take (i + 1) = S.take i ++ [n] := by
  rw [List.take_succ, h]; rfl
theorem map_get {S : List Str} {i : Nat} {d : PyData} (h : (S.map PyData.str)[i]? = some d) : ∃ n, S[i]? = some n ∧ d = .str n := by
  rw [List.getElem?_map] at h
  obtain ⟨n, hn, rfl⟩ := Option.map_eq_some_iff.mp h
  exact ⟨n, hn, rfl⟩
theorem look_round {at' : List (Str × Str)} {f : Fd} {r : Int} {S : List Str} {n : Str} (h : n ∉ S) : look (round at' f r S) n = none := look_none.mpr fun z => by
  obtain ⟨e, he, rfl⟩ := List.mem_map.mp z
  exact h (round_keys he).1
theorem at6S (d0 d1 d5 : Option (Stt × PyData)) (f : Fd) (r : Int) (x6 x7 : Option (Stt × PyData)) (d : PyData) : (gN 6).run d (stSt d0 d1 d5 f r x6 x7) = some ((), stSt d0 d1 d5 f r (some (.shr, d)) x7) := rfl
theorem at6D (d0 d1 d5 : Option (Stt × PyData)) (f : Fd) (r : Int) (x6 x7 : Option (Stt × PyData)) (d : PyData) : (gN 6).run d (stDu d0 d1 d5 f r x6 x7) = some ((), stDu d0 d1 d5 f r (some (.shr, d)) x7) := rfl
theorem loopS (R : Fns) (at' : List (Str × Str)) (A : AttOk R at') (s1 : Stt) (h1 : Rdg s1) (d0 : Option (Stt × PyData)) (f : Fd) (r : Int) (x6 x7 : Option (Stt × PyData)) (S : List Str) (hl : ∀ n, (dedupS (ones at' n)).length < 64) (gf : Good f) (hS : S.length < 1000) (nd : S.Nodup) :
    ∃ y6 y7, forM (S.map .str) (gN 6) (bS R) (stSt d0 (some (s1, atD at')) (some (.own, .dict [])) f r x6 x7) = some (.nx, stSt d0 (some (s1, atD at')) (some (.own, .dict (fdk (round at' f r S)))) f r y6 y7) := by
  have := for_all (ds := S.map .str) (g := gN 6) (b := bS R) (fun i ρ => ∃ y6 y7, ρ = stSt d0 (some (s1, atD at')) (some (.own, .dict (fdk (round at' f r (S.take i))))) f r y6 y7) (ρ := stSt d0 (some (s1, atD at')) (some (.own, .dict [])) f r x6 x7)
    (fun i d ρ hd hI => by
      obtain ⟨y6, y7, rfl⟩ := hI
      obtain ⟨n, hn, rfl⟩ := map_get hd
      obtain ⟨z7, hb⟩ := bS_ok R at' A s1 h1 d0 f (round at' f r (S.take i)) r n y7 (hl n) gf (Nat.lt_of_le_of_lt (round_len _ _ _ _) (by rw [List.length_take]; omega)) (look_round (nodup_at nd hn))
      refine ⟨_, _, at6S _ _ _ _ _ _ _ _, hb, some (.shr, .str n), z7, ?_⟩
      rw [take_succ hn, round_app, show round at' f r [n] = entry at' f r n by simp [round]]) ⟨x6, x7, by rw [List.take_zero]; rfl⟩
  obtain ⟨ρ', e, y6, y7, rfl⟩ := this
  refine ⟨y6, y7, ?_⟩
  rw [e, List.length_map, List.take_length]
theorem loopD (R : Fns) (at' : List (Str × Str)) (s1 : Stt) (h1 : Rdg s1) (d0 : Option (Stt × PyData)) (f : Fd) (r : Int) (x6 x7 : Option (Stt × PyData)) (S : List Str) (hl : at'.length < 1000) (gf : Good f) (hS : S.length < 1000) (nd : S.Nodup) :
    ∃ y6 y7, forM (S.map .str) (gN 6) (bD R) (stDu d0 (some (s1, atD at')) (some (.own, .dict [])) f r x6 x7) = some (.nx, stDu d0 (some (s1, atD at')) (some (.own, .dict (fdk (round at' f r S)))) f r y6 y7) := by
  have := for_all (ds := S.map .str) (g := gN 6) (b := bD R) (fun i ρ => ∃ y6 y7, ρ = stDu d0 (some (s1, atD at')) (some (.own, .dict (fdk (round at' f r (S.take i))))) f r y6 y7) (ρ := stDu d0 (some (s1, atD at')) (some (.own, .dict [])) f r x6 x7)
    (fun i d ρ hd hI => by
      obtain ⟨y6, y7, rfl⟩ := hI
      obtain ⟨n, hn, rfl⟩ := map_get hd
      obtain ⟨z7, hb⟩ := bD_ok R at' s1 h1 d0 f (round at' f r (S.take i)) r n y7 hl gf (Nat.lt_of_le_of_lt (round_len _ _ _ _) (by rw [List.length_take]; omega)) (look_round (nodup_at nd hn))
      refine ⟨_, _, at6D _ _ _ _ _ _ _ _, hb, some (.shr, .str n), z7, ?_⟩
      rw [take_succ hn, round_app, show round at' f r [n] = entry at' f r n by simp [round]]) ⟨x6, x7, by rw [List.take_zero]; rfl⟩
  obtain ⟨ρ', e, y6, y7, rfl⟩ := this
  refine ⟨y6, y7, ?_⟩
  rw [e, List.length_map, List.take_length]
end PyK53

namespace PyK53
open PySem PySem.Spec L2 PyI
theorem sorted_ok {nm : List Str} (h : nm.length < 64) : oSorted [nmD nm] = some (.list ((sortS nm).map .str)) := by
  unfold oSorted nmD
  dsimp only
  rw [strsD_map]
  exact if_pos h
theorem sort_len (nm : List Str) : (sortS nm).length = nm.length := (sortS_perm nm).length_eq
theorem sort_nodup {nm : List Str} (h : nm.Nodup) : (sortS nm).Nodup := (sortS_perm nm).nodup_iff.mpr h
theorem upd_ok {at' : List (Str × Str)} {f : Fd} {r : Int} {S : List Str} (nd : S.Nodup) (hf : f.length ≤ 500) (hS : S.length ≤ 500) : mUpdate (.dict (fdk f)) [.dict (fdk (round at' f r S))] = some (.dict (fdk (f ++ round at' f r S)), .none) := by
  unfold mUpdate
  dsimp only
  have := round_len at' f r S
  rw [if_pos (by rw [fdk_len, fdk_len]; exact Nat.le_trans (show f.length + (round at' f r S).length ≤ 1000 by omega) (by decide)), merge_new (round_nodup nd) fun e he => round_new he]
def stWS (d0 d1 : Option (Stt × PyData)) (b : Bool) (f : Fd) (r : Int) (x5 x6 x7 : Option (Stt × PyData)) : Rho := [d0, d1, some (.own, .dict (fdk f)), some (.shr, .int r), some (.shr, .bool b), x5, x6, x7, none]
def stWD (d0 d1 : Option (Stt × PyData)) (b : Bool) (f : Fd) (r : Int) (x5 x6 x7 : Option (Stt × PyData)) : Rho := [d0, d1, some (.own, .dict (fdk f)), some (.shr, .int r), some (.shr, .bool b), x5, x6, x7, none, none, none]
def wS (R : Fns) : Mo Fl := sSeq (sSet 5 xDict0)
    (sSeq (sFor (iS (xB oSorted (aC (xV 0) aN))) (gN 6) (bS R))
    (sSeq (sDrop (xMut "dict" 2 mUpdate (aC (xV 5) aN)))
    (sSeq (sAug 3 (fun i j => i + j) (xC (.int 1)))
    (sSet 4 (x2 (xB oLen (aC (xV 5) aN)) (xC (.int 0)) opGt)))))
def wD (R : Fns) : Mo Fl := sSeq (sSet 5 xDict0)
    (sSeq (sFor (iS (xB oSorted (aC (xV 0) aN))) (gN 6) (bD R))
    (sSeq (sDrop (xMut "dict" 2 mUpdate (aC (xV 5) aN)))
    (sSeq (sSet 3 (x2 (xV 3) (xC (.int 1)) opAdd))
    (sSet 4 (x2 (xV 5) xDict0 opNe)))))
/-- the notes and the attacks of a case -/
structure Case (nm : List Str) (at' : List (Str × Str)) : Prop where
  nl : nm.length < 64
  nd : nm.Nodup
  al : at'.length < 1000
  ds : ∀ n, (dedupS (ones at' n)).length < 64
theorem wS_ok (R : Fns) {nm : List Str} {at' : List (Str × Str)} (C : Case nm at') (A : AttOk R at') (s0 s1 : Stt) (h0 : Rdg s0) (h1 : Rdg s1) (f : Fd) (r : Int) (x5 x6 x7 : Option (Stt × PyData)) (gf : Good f) (hf : f.length ≤ 500) :
    ∃ y5 y6 y7, wS R (stWS (some (s0, nmD nm)) (some (s1, atD at')) true f r x5 x6 x7) = some (.nx, stWS (some (s0, nmD nm)) (some (s1, atD at')) (decide (0 < (round at' f r (sortS nm)).length)) (f ++ round at' f r (sortS nm)) (r + 1) y5 y6 y7) := by
  have hl := C.nl
  obtain ⟨y6, y7, e⟩ := loopS R at' A s1 h1 (some (s0, nmD nm)) f r x6 x7 (sortS nm) C.ds gf (by rw [sort_len]; omega) (sort_nodup C.nd)
  have eu := upd_ok (at' := at') (r := r) (sort_nodup C.nd) hf (S := sortS nm) (by rw [sort_len]; omega)
  have es := sorted_ok hl
  unfold wS
  generalize bS R = b at e ⊢
  unfold stSt at e
  unfold stWS
  refine ⟨some (.shr, .dict (fdk (round at' f r (sortS nm)))), y6, y7, ?_⟩
  rcases h0 with rfl | rfl <;> simp [es, e, eu, fdk_len]
theorem eqv_dict0 {f : Fd} : eqD (.dict (fdk f)) (.dict []) = some f.isEmpty := by
  show (if okVals 50 (fdk f) = true ∧ okVals 50 [] = true then some ((fdk f).length == ([] : List (PyData × PyData)).length && hitsD [] (fdk f)) else none) = _
  have : okVals 50 (fdk f) = true := by
    induction f with
    | nil => rfl
    | cons e f ih =>
      unfold fdk at ih ⊢
      rw [List.map_cons, okVals, ih]
      simp [labD, PyData.plain, PyData.plainAll, PyData.depth, PyData.depthAll]
  rw [if_pos ⟨this, rfl⟩]
  cases f <;> rfl
theorem wD_ok (R : Fns) {nm : List Str} {at' : List (Str × Str)} (C : Case nm at') (s0 s1 : Stt) (h0 : Rdg s0) (h1 : Rdg s1) (f : Fd) (r : Int) (x5 x6 x7 : Option (Stt × PyData)) (gf : Good f) (hf : f.length ≤ 500) :
    ∃ y5 y6 y7, wD R (stWD (some (s0, nmD nm)) (some (s1, atD at')) true f r x5 x6 x7) = some (.nx, stWD (some (s0, nmD nm)) (some (s1, atD at')) (decide (0 < (round at' f r (sortS nm)).length)) (f ++ round at' f r (sortS nm)) (r + 1) y5 y6 y7) := by
  have hl := C.nl
  obtain ⟨y6, y7, e⟩ := loopD R at' s1 h1 (some (s0, nmD nm)) f r x6 x7 (sortS nm) C.al gf (by rw [sort_len]; omega) (sort_nodup C.nd)
  have eu := upd_ok (at' := at') (r := r) (sort_nodup C.nd) hf (S := sortS nm) (by rw [sort_len]; omega)
  have es := sorted_ok hl
  have ene : opNe (.dict (fdk (round at' f r (sortS nm)))) (.dict []) = some (.bool (decide (0 < (round at' f r (sortS nm)).length))) := by
    unfold opNe
    rw [eqv_dict0]
    cases round at' f r (sortS nm) <;> simp
  unfold wD
  generalize bD R = b at e ⊢
  unfold stDu at e
  unfold stWD
  refine ⟨some (.shr, .dict (fdk (round at' f r (sortS nm)))), y6, y7, ?_⟩
  rcases h0 with rfl | rfl <;> simp [es, e, eu, ene]
/-! ### the whole loop -/
theorem while_go {st : Bool → Fd → Int → Option (Stt × PyData) → Option (Stt × PyData) → Option (Stt × PyData) → Rho} {b : Mo Fl} {at' : List (Str × Str)} {S : List Str} (nd : S.Nodup) (hS : S.length < 64) (ht : ∀ c f r x5 x6 x7, tV (xV 4) (st c f r x5 x6 x7) = some (c, st c f r x5 x6 x7))
    (hb : ∀ f r x5 x6 x7, Good f → f.length ≤ 500 → ∃ y5 y6 y7, b (st true f r x5 x6 x7) = some (.nx, st (decide (0 < (round at' f r S).length)) (f ++ round at' f r S) (r + 1) y5 y6 y7)) :
    ∀ (k r : Nat) (x5 x6 x7 : Option (Stt × PyData)), S.length + 2 ≤ k + (Fs at' S r).length → ∃ m y5 y6 y7, Stop at' S m ∧ whileM k (tV (xV 4)) b (st true (Fs at' S r) r x5 x6 x7) = some (.nx, st false (Fs at' S m) ((m + 1 : Nat) : Int) y5 y6 y7)
  | 0, r, _, _, _, h => by
    have := Fs_len (at' := at') nd r
    omega
  | k + 1, r, x5, x6, x7, h => by
    have hl := Fs_len (at' := at') nd r
    obtain ⟨y5, y6, y7, e⟩ := hb (Fs at' S r) r x5 x6 x7 (Fs_good at' S r) (by omega)
    have er : ((r : Int) + 1) = ((r + 1 : Nat) : Int) := by omega
    rw [er] at e
    by_cases hz : round at' (Fs at' S r) r S = []
    · refine ⟨r, y5, y6, y7, hz, ?_⟩
      rw [hz] at e
      unfold whileM
      rw [ht]
      dsimp only
      rw [e]
      dsimp only
      match k, h with
      | 0, h => omega
      | k + 1, _ =>
        unfold whileM
        rw [List.append_nil, show decide (0 < ([] : Fd).length) = false from rfl, ht]
    · have hp : 0 < (round at' (Fs at' S r) r S).length := List.length_pos_iff.mpr hz
      obtain ⟨m, z5, z6, z7, hm, e2⟩ := while_go nd hS ht hb k (r + 1) y5 y6 y7 (by
        show S.length + 2 ≤ k + (Fs at' S r ++ round at' (Fs at' S r) r S).length
        rw [List.length_append]; omega)
      refine ⟨m, z5, z6, z7, hm, ?_⟩
      unfold whileM
      rw [ht]
      dsimp only
      rw [e]
      dsimp only
      rw [decide_eq_true hp]
      exact e2
end PyK53

namespace PyK53
open PySem PySem.Spec L2 PyI
theorem add_t (a : PyData) (xs : List PyData) (h : xs.length ≤ 500) : opAdd (.tuple [a]) (.tuple xs) = some (.tuple (a :: xs)) := by
  show (if [a].length + xs.length ≤ sizeLine then some (PyData.tuple ([a] ++ xs)) else none) = _
  rw [if_pos (Nat.le_trans (show [a].length + xs.length ≤ 1000 by simp; omega) (by rw [sizeLine_eq]; decide))]
  rfl
theorem labD_add (n : Str) (v : Str × Int) : opAdd (.tuple [.str n]) (labD v) = some (rowD n v) := add_t _ _ (by simp)
theorem stands_ok (R : Fns) {nm : List Str} {at' : List (Str × Str)} (C : Case nm at') (A : AttOk R at') (s0 s1 : Stt) (h0 : Rdg s0) (h1 : Rdg s1) :
    ∃ m, Stop at' (sortS nm) m ∧ runF 2 9 (m_stands R) [(s0, nmD nm), (s1, atD at')] = some (.kept (toldD (Fs at' (sortS nm) m) (sortS nm)), none) := by
  have hl := C.nl
  obtain ⟨m, y5, y6, y7, hm, ew⟩ := while_go (st := fun b f r x5 x6 x7 => stWS (some (s0, nmD nm)) (some (s1, atD at')) b f r x5 x6 x7) (b := wS R) (at' := at') (S := sortS nm) (sort_nodup C.nd) (by rw [sort_len]; omega) (fun c f r x5 x6 x7 => by unfold stWS; simp)
    (fun f r x5 x6 x7 gf hf => wS_ok R C A s0 s1 h0 h1 f r x5 x6 x7 gf hf) 200 0 none none none (by rw [sort_len]; omega)
  refine ⟨m, hm, ?_⟩
  have es := sorted_ok hl
  have lc : xLc [6] (iS (xB oSorted (aC (xV 0) aN))) (gN 6) tYesM (x2 (xTup (aC (xV 6) aN)) (xGet2 (xV 2) (xV 6) (xTup (aC (xC (.str "open")) (aC (x1 opNeg (xC (.int 1))) aN)))) opAdd) (stWS (some (s0, nmD nm)) (some (s1, atD at')) false (Fs at' (sortS nm) m) ((m + 1 : Nat) : Int) y5 y6 y7) = some (.fresh (.list ((sortS nm).map fun n => rowD n (look' (Fs at' (sortS nm) m) n))), stWS (some (s0, nmD nm)) (some (s1, atD at')) false (Fs at' (sortS nm) m) ((m + 1 : Nat) : Int) y5 y6 y7) := by
    have := lc_evalT (vs := [6]) (fi := iS (xB oSorted (aC (xV 0) aN))) (g := gN 6) (t := tYesM) (fe := x2 (xTup (aC (xV 6) aN)) (xGet2 (xV 2) (xV 6) (xTup (aC (xC (.str "open")) (aC (x1 opNeg (xC (.int 1))) aN)))) opAdd) (ρ := stWS (some (s0, nmD nm)) (some (s1, atD at')) false (Fs at' (sortS nm) m) ((m + 1 : Nat) : Int) y5 y6 y7) (ρ1 := stWS (some (s0, nmD nm)) (some (s1, atD at')) false (Fs at' (sortS nm) m) ((m + 1 : Nat) : Int) y5 y6 y7) (l := sortS nm) (e := .str)
      (fun _ => true) (fun n => rowD n (look' (Fs at' (sortS nm) m) n)) (by unfold stWS; rcases h0 with rfl | rfl <;> simp [es]) (by rw [sort_len]; exact Nat.le_trans (Nat.le_of_lt hl) (by decide)) (fun n hn => ?_)
    · rw [this, List.filter_eq_self.mpr (fun _ _ => rfl)]
      unfold stWS
      simp [restE, wipeE]
    · obtain ⟨q, hq⟩ : ∃ q : Rho, q = [some (s0, nmD nm), some (s1, atD at'), some (.own, .dict (fdk (Fs at' (sortS nm) m))), some (.shr, .int ((m + 1 : Nat) : Int)), some (.shr, .bool false), y5, some (.shr, .str n), y7, none] := ⟨_, rfl⟩
      refine ⟨q, by unfold stWS; simp [wipeE, hq], q, by simp, fun h => (by cases h), fun _ => ⟨.kept (rowD n (look' (Fs at' (sortS nm) m) n)), q, q, ?_, by simp, by unfold stWS; simp [wipeE, hq]⟩⟩
      rw [hq]
      have hv := labD_add n (look' (Fs at' (sortS nm) m) n)
      unfold look' at hv ⊢
      cases hk : look (Fs at' (sortS nm) m) n with
      | none =>
        rw [hk] at hv
        simp [hk]
        rw [show opAdd (.tuple [.str n]) (.tuple [.str "open", .int (-1)]) = _ from hv]
        rfl
      | some v =>
        rw [hk] at hv
        simp [hk]
        rw [show opAdd (.tuple [.str n]) (labD v) = _ from hv]
        rfl
  have ev : m_stands R [some (s0, nmD nm), some (s1, atD at'), none, none, none, none, none, none, none] = some (.ret (.kept (toldD (Fs at' (sortS nm) m) (sortS nm))), stWS (some (s0, nmD nm)) (some (s1, atD at')) false (Fs at' (sortS nm) m) ((m + 1 : Nat) : Int) y5 y6 y7) := by
    show sSeq (sSet 2 xDict0) (sSeq (sSet 3 (xC (.int 0))) (sSeq (sSet 4 (xC (.bool true))) (sSeq (whileM 200 (tV (xV 4)) (wS R)) (sRet (xB oTuple (aC (xLc [6] (iS (xB oSorted (aC (xV 0) aN))) (gN 6) tYesM (x2 (xTup (aC (xV 6) aN)) (xGet2 (xV 2) (xV 6) (xTup (aC (xC (.str "open")) (aC (x1 opNeg (xC (.int 1))) aN)))) opAdd)) aN)))))) _ = _
    generalize xLc [6] (iS (xB oSorted (aC (xV 0) aN))) (gN 6) tYesM (x2 (xTup (aC (xV 6) aN)) (xGet2 (xV 2) (xV 6) (xTup (aC (xC (.str "open")) (aC (x1 opNeg (xC (.int 1))) aN)))) opAdd) = X at lc ⊢
    generalize wS R = W at ew ⊢
    have ew' : whileM 200 (tV (xV 4)) W [some (s0, nmD nm), some (s1, atD at'), some (.own, .dict []), some (.shr, .int 0), some (.shr, .bool true), none, none, none, none] = _ := ew
    generalize stWS (some (s0, nmD nm)) (some (s1, atD at')) false (Fs at' (sortS nm) m) ((m + 1 : Nat) : Int) y5 y6 y7 = st at ew' lc ⊢
    generalize whileM 200 (tV (xV 4)) W = WW at ew' ⊢
    simp [ew', lc]
    rfl
  refine run_ret ?_ ?_ ev rfl
  · rcases h0 with rfl | rfl <;> rcases h1 with rfl | rfl <;> rfl
  · rcases h0 with rfl | rfl <;> rfl
theorem due_ok (R : Fns) {nm : List Str} {at' : List (Str × Str)} (C : Case nm at') (s0 s1 : Stt) (h0 : Rdg s0) (h1 : Rdg s1) :
    ∃ m, Stop at' (sortS nm) m ∧ runF 2 11 (m_law_due R) [(s0, nmD nm), (s1, atD at')] = some (.kept (toldD (Fs at' (sortS nm) m) (sortS nm)), none) := by
  have hl := C.nl
  obtain ⟨m, y5, y6, y7, hm, ew⟩ := while_go (st := fun b f r x5 x6 x7 => stWD (some (s0, nmD nm)) (some (s1, atD at')) b f r x5 x6 x7) (b := wD R) (at' := at') (S := sortS nm) (sort_nodup C.nd) (by rw [sort_len]; omega) (fun c f r x5 x6 x7 => by unfold stWD; simp)
    (fun f r x5 x6 x7 gf hf => wD_ok R C s0 s1 h0 h1 f r x5 x6 x7 gf hf) 200 0 none none none (by rw [sort_len]; omega)
  refine ⟨m, hm, ?_⟩
  have es := sorted_ok hl
  have lc : xLc [6] (iS (xB oSorted (aC (xV 0) aN))) (gN 6) tYesM (x2 (xTup (aC (xV 6) aN)) (xIf (tV (x2 (xV 6) (xV 2) opInA)) (x2i (xV 2) (xV 6) opIx) (xTup (aC (xC (.str "open")) (aC (x1 opNeg (xC (.int 1))) aN)))) opAdd) (stWD (some (s0, nmD nm)) (some (s1, atD at')) false (Fs at' (sortS nm) m) ((m + 1 : Nat) : Int) y5 y6 y7) = some (.fresh (.list ((sortS nm).map fun n => rowD n (look' (Fs at' (sortS nm) m) n))), stWD (some (s0, nmD nm)) (some (s1, atD at')) false (Fs at' (sortS nm) m) ((m + 1 : Nat) : Int) y5 y6 y7) := by
    have := lc_evalT (vs := [6]) (fi := iS (xB oSorted (aC (xV 0) aN))) (g := gN 6) (t := tYesM) (fe := x2 (xTup (aC (xV 6) aN)) (xIf (tV (x2 (xV 6) (xV 2) opInA)) (x2i (xV 2) (xV 6) opIx) (xTup (aC (xC (.str "open")) (aC (x1 opNeg (xC (.int 1))) aN)))) opAdd) (ρ := stWD (some (s0, nmD nm)) (some (s1, atD at')) false (Fs at' (sortS nm) m) ((m + 1 : Nat) : Int) y5 y6 y7) (ρ1 := stWD (some (s0, nmD nm)) (some (s1, atD at')) false (Fs at' (sortS nm) m) ((m + 1 : Nat) : Int) y5 y6 y7) (l := sortS nm) (e := .str)
      (fun _ => true) (fun n => rowD n (look' (Fs at' (sortS nm) m) n)) (by unfold stWD; rcases h0 with rfl | rfl <;> simp [es]) (by rw [sort_len]; exact Nat.le_trans (Nat.le_of_lt hl) (by decide)) (fun n hn => ?_)
    · rw [this, List.filter_eq_self.mpr (fun _ _ => rfl)]
      unfold stWD
      simp [restE, wipeE]
    · obtain ⟨q, hq⟩ : ∃ q : Rho, q = [some (s0, nmD nm), some (s1, atD at'), some (.own, .dict (fdk (Fs at' (sortS nm) m))), some (.shr, .int ((m + 1 : Nat) : Int)), some (.shr, .bool false), y5, some (.shr, .str n), y7, none, none, none] := ⟨_, rfl⟩
      refine ⟨q, by unfold stWD; simp [wipeE, hq], q, by simp, fun h => (by cases h), fun _ => ⟨.kept (rowD n (look' (Fs at' (sortS nm) m) n)), q, q, ?_, by simp, by unfold stWD; simp [wipeE, hq]⟩⟩
      rw [hq]
      have hv := labD_add n (look' (Fs at' (sortS nm) m) n)
      unfold look' at hv ⊢
      cases hk : look (Fs at' (sortS nm) m) n with
      | none =>
        rw [hk] at hv
        simp [hk]
        rw [show opAdd (.tuple [.str n]) (.tuple [.str "open", .int (-1)]) = _ from hv]
        rfl
      | some v =>
        rw [hk] at hv
        simp [hk]
        rw [show opAdd (.tuple [.str n]) (labD v) = _ from hv]
        rfl
  have ev : m_law_due R [some (s0, nmD nm), some (s1, atD at'), none, none, none, none, none, none, none, none, none] = some (.ret (.kept (toldD (Fs at' (sortS nm) m) (sortS nm))), stWD (some (s0, nmD nm)) (some (s1, atD at')) false (Fs at' (sortS nm) m) ((m + 1 : Nat) : Int) y5 y6 y7) := by
    show sSeq (sSet 2 xDict0) (sSeq (sSet 3 (xC (.int 0))) (sSeq (sSet 4 (xC (.bool true))) (sSeq (whileM 200 (tV (xV 4)) (wD R)) (sRet (xB oTuple (aC (xLc [6] (iS (xB oSorted (aC (xV 0) aN))) (gN 6) tYesM (x2 (xTup (aC (xV 6) aN)) (xIf (tV (x2 (xV 6) (xV 2) opInA)) (x2i (xV 2) (xV 6) opIx) (xTup (aC (xC (.str "open")) (aC (x1 opNeg (xC (.int 1))) aN)))) opAdd)) aN)))))) _ = _
    generalize xLc [6] (iS (xB oSorted (aC (xV 0) aN))) (gN 6) tYesM (x2 (xTup (aC (xV 6) aN)) (xIf (tV (x2 (xV 6) (xV 2) opInA)) (x2i (xV 2) (xV 6) opIx) (xTup (aC (xC (.str "open")) (aC (x1 opNeg (xC (.int 1))) aN)))) opAdd) = X at lc ⊢
    generalize wD R = W at ew ⊢
    have ew' : whileM 200 (tV (xV 4)) W [some (s0, nmD nm), some (s1, atD at'), some (.own, .dict []), some (.shr, .int 0), some (.shr, .bool true), none, none, none, none, none, none] = _ := ew
    generalize stWD (some (s0, nmD nm)) (some (s1, atD at')) false (Fs at' (sortS nm) m) ((m + 1 : Nat) : Int) y5 y6 y7 = st at ew' lc ⊢
    generalize whileM 200 (tV (xV 4)) W = WW at ew' ⊢
    simp [ew', lc]
    rfl
  refine run_ret ?_ ?_ ev rfl
  · rcases h0 with rfl | rfl <;> rcases h1 with rfl | rfl <;> rfl
  · rcases h0 with rfl | rfl <;> rfl
end PyK53

namespace PyK53
open PySem PySem.Spec L2 PyI
theorem plain_bools : ∀ xs : List Bool, PyData.plainAll (xs.map .bool) = true
  | [] => by simp [PyData.plainAll]
  | x :: xs => by simp [PyData.plainAll, PyData.plain, plain_bools xs]
theorem inD_bools (x : Bool) (xs : List Bool) : inD (.bool x) (.list (xs.map .bool)) = some (xs.any fun y => y == x) := by
  show (if (PyData.bool x).plain = true ∧ PyData.plainAll (xs.map .bool) = true ∧ (PyData.bool x).depth ≤ 50 then some ((xs.map PyData.bool).any fun y => y.eqv (.bool x)) else none) = _
  rw [if_pos ⟨by simp [PyData.plain], plain_bools xs, by simp [PyData.depth]⟩, List.any_map]
  rfl
@[simp] theorem o_inB (x : Bool) (xs : List Bool) : opInA (.bool x) (.list (xs.map .bool)) = some (.bool (xs.any fun y => y == x)) := by
  unfold opInA anyIn
  dsimp only
  rw [inD_bools]; rfl
@[simp] theorem o_ninB (x : Bool) (xs : List Bool) : opNotInA (.bool x) (.list (xs.map .bool)) = some (.bool (!(xs.any fun y => y == x))) := by
  unfold opNotInA anyIn
  dsimp only
  rw [inD_bools]; rfl
def rk (f : Fd) (x : Str) : Int := ((look f x).getD ("open", -1)).2
/-- what is asked of a note, its label and its rank -/
def setO (g : Fd) (os : List Str) (e : Str × Int) : Bool :=
  if e.1 = "stands" then decide (0 ≤ e.2) && os.all fun o => lab g o == "falls" && decide (rk g o < e.2)
  else if e.1 = "falls" then decide (0 ≤ e.2) && os.any fun o => lab g o == "stands" && decide (rk g o < e.2)
  else e.2 == -1 && (!(os.any fun o => lab g o == "stands") && os.any fun o => lab g o == "open")
def Known (g : Fd) (os : List Str) : Prop := ∀ o ∈ os, ∃ v, look g o = some v
theorem any_f {α : Type} (os : List α) (p : α → Bool) : ((os.map p).any fun y => y == false) = !os.all p := by
  induction os with
  | nil => rfl
  | cons o os ih => rw [List.map_cons, List.any_cons, ih, List.all_cons, Bool.not_and]; cases p o <;> rfl
theorem any_t {α : Type} (os : List α) (p : α → Bool) : ((os.map p).any fun y => y == true) = os.any p := by
  induction os with
  | nil => rfl
  | cons o os ih => rw [List.map_cons, List.any_cons, ih, List.any_cons]; cases p o <;> rfl
theorem settled_ok (R : Fns) (g : Fd) (os : List Str) (e : Str × Int) (s0 s1 : Stt) (h0 : Rdg s0) (h1 : Rdg s1) (hk : Known g os) (hl : os.length < 1000) :
    runF 3 7 (m_is_settled R) [(s0, .dict (fdk g)), (s1, .list (os.map .str)), (.shr, labD e)] = some (.kept (.bool (setO g os e)), none) := by
  obtain ⟨l, k⟩ := e
  obtain ⟨d0, hd0⟩ : ∃ d0 : Option (Stt × PyData), d0 = some (s0, .dict (fdk g)) := ⟨_, rfl⟩
  obtain ⟨d1, hd1⟩ : ∃ d1 : Option (Stt × PyData), d1 = some (s1, .list (os.map .str)) := ⟨_, rfl⟩
  obtain ⟨d2, hd2⟩ : ∃ d2 : Option (Stt × PyData), d2 = some (.shr, labD (l, k)) := ⟨_, rfl⟩
  have lim : os.length ≤ LIM := Nat.le_trans (Nat.le_of_lt hl) (by decide)
  have it : ∀ x5 : Option (Stt × PyData), iS (xV 1) [d0, d1, d2, some (.shr, .str l), some (.shr, .int k), x5, none] = some (os.map .str, [d0, d1, d2, some (.shr, .str l), some (.shr, .int k), x5, none]) := by
    intro x5; subst hd1; rcases h1 with rfl | rfl <;> simp
  have lc1 : xLc [6] (iS (xV 1)) (gN 6) tYesM (x2i (x2i (xV 0) (xV 6) opIx) (xC (.int 0)) opIx) [d0, d1, d2, some (.shr, .str l), some (.shr, .int k), none, none] = some (.fresh (.list ((os.map (lab g)).map .str)), [d0, d1, d2, some (.shr, .str l), some (.shr, .int k), none, none]) := by
    have := lc_evalT (vs := [6]) (g := gN 6) (t := tYesM) (fe := x2i (x2i (xV 0) (xV 6) opIx) (xC (.int 0)) opIx) (fun _ => true) (fun o => .str (lab g o)) (it none) lim (fun o ho => ?_)
    · rw [this, List.filter_eq_self.mpr (fun _ _ => rfl)]
      simp [restE, wipeE]
    · obtain ⟨v, hv⟩ := hk o ho
      obtain ⟨q, hq⟩ : ∃ q : Rho, q = [d0, d1, d2, some (.shr, .str l), some (.shr, .int k), none, some (.shr, .str o)] := ⟨_, rfl⟩
      refine ⟨q, by simp [wipeE, hq], q, by simp, fun h => (by cases h), fun _ => ⟨.kept (.str (lab g o)), q, q, ?_, by simp, by simp [wipeE, hq]⟩⟩
      subst hd0
      rw [hq]
      unfold lab
      rcases h0 with rfl | rfl <;> simp [hv, labD]
  have lc2 : ∀ w : Str, xLc [6] (iS (xV 1)) (gN 6) tYesM (xAnd (x2 (x2i (x2i (xV 0) (xV 6) opIx) (xC (.int 0)) opIx) (xC (.str w)) opEq) (x2 (x2i (x2i (xV 0) (xV 6) opIx) (xC (.int 1)) opIx) (xV 4) opLt)) [d0, d1, d2, some (.shr, .str l), some (.shr, .int k), some (.own, .list ((os.map (lab g)).map .str)), none] = some (.fresh (.list ((os.map fun o => lab g o == w && decide (rk g o < k)).map .bool)), [d0, d1, d2, some (.shr, .str l), some (.shr, .int k), some (.own, .list ((os.map (lab g)).map .str)), none]) := by
    intro w
    have := lc_evalT (vs := [6]) (g := gN 6) (t := tYesM) (fe := xAnd (x2 (x2i (x2i (xV 0) (xV 6) opIx) (xC (.int 0)) opIx) (xC (.str w)) opEq) (x2 (x2i (x2i (xV 0) (xV 6) opIx) (xC (.int 1)) opIx) (xV 4) opLt)) (fun _ => true) (fun o => .bool (lab g o == w && decide (rk g o < k))) (it (some (.own, .list ((os.map (lab g)).map .str)))) lim (fun o ho => ?_)
    · rw [this, List.filter_eq_self.mpr (fun _ _ => rfl)]
      simp [restE, wipeE]
    · obtain ⟨v, hv⟩ := hk o ho
      obtain ⟨q, hq⟩ : ∃ q : Rho, q = [d0, d1, d2, some (.shr, .str l), some (.shr, .int k), some (.own, .list ((os.map (lab g)).map .str)), some (.shr, .str o)] := ⟨_, rfl⟩
      refine ⟨q, by simp [wipeE, hq], q, by simp, fun h => (by cases h), fun _ => ⟨.kept (.bool (lab g o == w && decide (rk g o < k))), q, q, ?_, by simp, by simp [wipeE, hq]⟩⟩
      subst hd0
      rw [hq]
      unfold lab rk
      cases hb : v.1 == w <;> rcases h0 with rfl | rfl <;> simp [hv, labD, hb]
  have up : sUnp (xV 2) (gT (gsC (gN 3) (gsC (gN 4) gsN))) [d0, d1, d2, none, none, none, none] = some (.nx, [d0, d1, d2, some (.shr, .str l), some (.shr, .int k), none, none]) := by
    subst hd2
    simp [labD]
  have fin : ∃ ρ', m_is_settled R [d0, d1, d2, none, none, none, none] = some (.ret (.kept (.bool (setO g os (l, k)))), ρ') := by
    unfold m_is_settled
    have a1 := any_f os fun o => lab g o == "falls" && decide (rk g o < k)
    have a2 := any_t os fun o => lab g o == "stands" && decide (rk g o < k)
    have a3 : ((os.map (lab g)).any fun y => y == "stands") = os.any fun o => lab g o == "stands" := by rw [List.any_map]; rfl
    have a4 : ((os.map (lab g)).any fun y => y == "open") = os.any fun o => lab g o == "open" := by rw [List.any_map]; rfl
    have b1 := lc2 "falls"
    have b2 := lc2 "stands"
    rw [e_sq, up, e_sqn, e_sq, e_st, lc1]
    unfold setO
    simp only [beq_false, beq_true] at a1 a2
    generalize (os.map fun o => lab g o == "falls" && decide (rk g o < k)) = B1 at a1 b1
    generalize (os.map fun o => lab g o == "stands" && decide (rk g o < k)) = B2 at a2 b2
    have sf : ¬ ("falls" : Str) = "stands" := by decide
    generalize xLc [6] (iS (xV 1)) (gN 6) tYesM (xAnd (x2 (x2i (x2i (xV 0) (xV 6) opIx) (xC (.int 0)) opIx) (xC (.str "falls")) opEq) (x2 (x2i (x2i (xV 0) (xV 6) opIx) (xC (.int 1)) opIx) (xV 4) opLt)) = X1 at b1 ⊢
    generalize xLc [6] (iS (xV 1)) (gN 6) tYesM (xAnd (x2 (x2i (x2i (xV 0) (xV 6) opIx) (xC (.int 0)) opIx) (xC (.str "stands")) opEq) (x2 (x2i (x2i (xV 0) (xV 6) opIx) (xC (.int 1)) opIx) (xV 4) opLt)) = X2 at b2 ⊢
    by_cases c1 : l = "stands"
    · subst c1
      by_cases c : 0 ≤ k
      · simp [-List.map_map, c, b1, a1]
      · simp [-List.map_map, c]
    · have c1b : (l == "stands") = false := by simp [c1]
      by_cases c2 : l = "falls"
      · subst c2
        by_cases c : 0 ≤ k
        · simp [-List.map_map, c, b2, a2, c1b, sf]
        · simp [-List.map_map, c, c1b, sf]
      · have c2b : (l == "falls") = false := by simp [c2]
        by_cases c : k = -1
        · cases c4 : os.any fun o => lab g o == "stands" <;> simp [-List.map_map, c1, c2, c1b, c2b, c, a3, a4, c4]
        · have cb : (k == -1) = false := by simp [c]
          simp [-List.map_map, c1, c2, c1b, c2b, cb]
  obtain ⟨ρ', fin⟩ := fin
  subst hd0 hd1 hd2
  refine run_ret ?_ ?_ fin rfl
  · rcases h0 with rfl | rfl <;> rcases h1 with rfl | rfl <;> rfl
  · rcases h0 with rfl | rfl <;> rfl
end PyK53

namespace PyK53
open PySem PySem.Spec L2 PyI
/-! ### what is asked -/
abbrev T3 := Str × (Str ⊕ Str) × (Int ⊕ Bool)
def lD : Str ⊕ Str → PyData
  | .inl w => .str w
  | .inr w => .list [.str w]
def kD : Int ⊕ Bool → PyData
  | .inl i => .int i
  | .inr b => .bool b
def t3D (t : T3) : PyData := .tuple [.str t.1, lD t.2.1, kD t.2.2]
inductive Row
  | no
  | two (a b : Str)
  | three (t : T3)
def Row.D : Row → PyData
  | .no => .none
  | .two a b => .tuple [.str a, .str b]
  | .three t => t3D t
def Row.is3 : Row → Bool
  | .three _ => true
  | _ => false
def goodL : Str ⊕ Str → Bool
  | .inl w => w == "stands" || w == "falls" || w == "open"
  | .inr _ => false
def goodK : Int ⊕ Bool → Bool
  | .inl _ => true
  | .inr _ => false
def good (t : T3) : Bool := goodL t.2.1 && goodK t.2.2
def lS : Str ⊕ Str → Str
  | .inl w => w
  | .inr w => w
def kI : Int ⊕ Bool → Int
  | .inl i => i
  | .inr _ => 0
def ent (t : T3) : Str × (Str × Int) := (t.1, (lS t.2.1, kI t.2.2))
def all3 : List Row → Option (List T3)
  | [] => some []
  | .three t :: rs => (all3 rs).map fun ts => t :: ts
  | _ :: _ => none
theorem all3_some : ∀ {rs : List Row} {ts : List T3}, all3 rs = some ts → rs = ts.map .three
  | [], _, h => by cases h; rfl
  | .no :: _, _, h => nomatch h
  | .two .. :: _, _, h => nomatch h
  | .three t :: rs, ts, h => by
    obtain ⟨us, e, rfl⟩ := Option.map_eq_some_iff.mp h
    rw [all3_some e]; rfl
theorem all3_none : ∀ {rs : List Row}, all3 rs = none → rs.all Row.is3 = false
  | [], h => nomatch h
  | .no :: _, _ => rfl
  | .two .. :: _, _ => rfl
  | .three t :: rs, h => by
    rw [List.all_cons, all3_none (Option.map_eq_none_iff.mp h)]; rfl
theorem all3_all (ts : List T3) : (ts.map Row.three).all Row.is3 = true := by
  induction ts with
  | nil => rfl
  | cons t ts ih => rw [List.map_cons, List.all_cons, ih]; rfl
/-- every note has what its label asks -/
def okAll (at' : List (Str × Str)) (g : Fd) : Bool := g.all fun e => setO g (ones at' e.1) e.2
def verdict (at' : List (Str × Str)) (S : List Str) (rs : List Row) : Bool := match all3 rs with
  | none => false
  | some ts => decide (ts.map (·.1) = S) && (ts.all good && okAll at' (ts.map ent))
theorem all_mem {α : Type} {os os' : List α} {p : α → Bool} (h : ∀ x, x ∈ os ↔ x ∈ os') : os.all p = os'.all p := by
  rw [Bool.eq_iff_iff, List.all_eq_true, List.all_eq_true]
  exact ⟨fun z x hx => z x ((h x).mpr hx), fun z x hx => z x ((h x).mp hx)⟩
theorem any_mem {α : Type} {os os' : List α} {p : α → Bool} (h : ∀ x, x ∈ os ↔ x ∈ os') : os.any p = os'.any p := by
  rw [Bool.eq_iff_iff, List.any_eq_true, List.any_eq_true]
  exact ⟨fun ⟨x, hx, z⟩ => ⟨x, (h x).mp hx, z⟩, fun ⟨x, hx, z⟩ => ⟨x, (h x).mpr hx, z⟩⟩
theorem setO_mem {os os' : List Str} (g : Fd) (e : Str × Int) (h : ∀ x, x ∈ os ↔ x ∈ os') : setO g os e = setO g os' e := by
  unfold setO
  rw [all_mem (p := fun o => lab g o == "falls" && decide (rk g o < e.2)) h, any_mem (p := fun o => lab g o == "stands" && decide (rk g o < e.2)) h, any_mem (p := fun o => lab g o == "stands") h, any_mem (p := fun o => lab g o == "open") h]
theorem look_in {g : Fd} (nd : (g.map (·.1)).Nodup) {e : Str × (Str × Int)} (h : e ∈ g) : look g e.1 = some e.2 := by
  induction g with
  | nil => cases h
  | cons a g ih =>
    rw [List.map_cons, List.nodup_cons] at nd
    rw [look_cons]
    rcases List.mem_cons.mp h with rfl | h
    · rw [if_pos rfl]
    · rw [if_neg fun z : a.1 = e.1 => nd.1 (z ▸ List.mem_map.mpr ⟨e, h, rfl⟩), ih nd.2 h]
theorem look_key {g : Fd} {x : Str} (h : x ∈ g.map (·.1)) : ∃ v, look g x = some v := by
  cases e : look g x with
  | none => exact absurd h (look_none.mp e)
  | some v => exact ⟨v, rfl⟩
/-! ### comparing -/
theorem eqv_strs : ∀ xs ys : List Str, PyData.eqvAll (xs.map .str) (ys.map .str) = decide (xs = ys)
  | [], [] => by simp [PyData.eqvAll]
  | [], _ :: _ => by simp [PyData.eqvAll]
  | _ :: _, [] => by simp [PyData.eqvAll]
  | x :: xs, y :: ys => by
    simp only [List.map_cons, PyData.eqvAll, eqv_strs xs ys, PyData.eqv]
    rw [Bool.eq_iff_iff]
    simp
theorem depth_strs : ∀ xs : List Str, PyData.depthAll (xs.map .str) ≤ 1
  | [] => by simp [PyData.depthAll]
  | x :: xs => by
    have := depth_strs xs
    simp only [List.map_cons, PyData.depthAll, PyData.depth]
    omega
theorem ne_strs (xs ys : List Str) : opNe (.list (xs.map .str)) (.list (ys.map .str)) = some (.bool (!decide (xs = ys))) := by
  unfold opNe
  have : eqD (.list (xs.map .str)) (.list (ys.map .str)) = some (decide (xs = ys)) := by
    show (if (PyData.list (xs.map .str)).plain = true ∧ (PyData.list (ys.map .str)).plain = true ∧ min (PyData.list (xs.map .str)).depth (PyData.list (ys.map .str)).depth ≤ 60 then some ((PyData.list (xs.map .str)).eqv (.list (ys.map .str))) else none) = _
    rw [if_pos ⟨by simp [PyData.plain, plain_strs], by simp [PyData.plain, plain_strs], Nat.le_trans (Nat.min_le_left _ _) (by have := depth_strs xs; simp only [PyData.depth]; omega)⟩]
    unfold PyData.eqv
    rw [eqv_strs]
  rw [this]; rfl
theorem beq_c (a b : Str) : (a == b) = (b == a) := by
  by_cases h : a = b
  · subst h; rfl
  · rw [beq_eq_false_iff_ne.mpr h, beq_eq_false_iff_ne.mpr (Ne.symm h)]
theorem lab_in (l : Str ⊕ Str) : opNotInA (lD l) c_LABELS = some (.bool (!goodL l)) := by
  cases l with
  | inl w =>
    show Option.map _ (if (PyData.str w).plain = true ∧ PyData.plainAll ((["stands", "falls", "open"] : List Str).map .str) = true ∧ (PyData.str w).depth ≤ 50 then some (((["stands", "falls", "open"] : List Str).map PyData.str).any fun y => y.eqv (.str w)) else none) = _
    rw [if_pos ⟨by simp [PyData.plain], plain_strs _, by simp [PyData.depth]⟩]
    have : ((["stands", "falls", "open"] : List Str).map PyData.str).any (fun y => y.eqv (.str w)) = goodL (.inl w) := by
      simp only [List.map_cons, List.map_nil, List.any_cons, List.any_nil, PyData.eqv, goodL, Bool.or_false]
      rw [Bool.or_assoc, beq_c w, beq_c w, beq_c w]
    rw [this]; rfl
  | inr w =>
    show Option.map _ (if (PyData.list [.str w]).plain = true ∧ PyData.plainAll ((["stands", "falls", "open"] : List Str).map .str) = true ∧ (PyData.list [.str w]).depth ≤ 50 then some (((["stands", "falls", "open"] : List Str).map PyData.str).any fun y => y.eqv (.list [.str w])) else none) = _
    rw [if_pos ⟨by simp [PyData.plain, PyData.plainAll], plain_strs _, by simp [PyData.depth, PyData.depthAll]⟩]
    simp [PyData.eqv, goodL]
end PyK53

namespace PyK53
open PySem PySem.Spec L2 PyI
def SetOk (R : Fns) : Prop := ∀ (g : Fd) (os : List Str) (e : Str × Int) (s0 : Stt), Rdg s0 → Known g os → os.length < 1000 → R.is_settled [(s0, .dict (fdk g)), (.shr, .list (os.map .str)), (.shr, labD e)] = some (.kept (.bool (setO g os e)), none)
/-- those that attack and those attacked are notes -/
structure Case2 (nm : List Str) (at' : List (Str × Str)) : Prop extends Case nm at' where
  ins : ∀ p ∈ at', p.1 ∈ nm
theorem Case2.ones {nm : List Str} {at' : List (Str × Str)} (C : Case2 nm at') {n o : Str} (h : o ∈ ones at' n) : o ∈ sortS nm := by
  unfold PyK53.ones at h
  obtain ⟨p, hp, rfl⟩ := List.mem_map.mp h
  exact (sortS_perm nm).mem_iff.mpr (C.ins p (List.mem_filter.mp hp).1)
/-- the body of the loop over the told rows -/
def jB : Mo Fl := sSeq (sIf (tOrM (tV (x2 (xV 5) (xC c_LABELS) opNotInA)) (tOrM (tNotM (tV (xIsi "int" (xV 6)))) (tV (xIsi "bool" (xV 6))))) (sRet (xC (.bool false))) sPass)
    (sPut 3 (xV 4) (xTup (aC (xV 5) (aC (xV 6) aN))))
def jSt (d0 d1 d2 : Option (Stt × PyData)) (g : Fd) (x4 x5 x6 : Option (Stt × PyData)) : Rho := [d0, d1, d2, some (.own, .dict (fdk g)), x4, x5, x6, none, none]
theorem jB_good (d0 d1 d2 : Option (Stt × PyData)) (g : Fd) (t : T3) (h : good t = true) (hg : g.length < 1000) (hn : look g t.1 = none) : jB (jSt d0 d1 d2 g (some (.shr, .str t.1)) (some (.shr, lD t.2.1)) (some (.shr, kD t.2.2))) = some (.nx, jSt d0 d1 d2 (g ++ [ent t]) (some (.shr, .str t.1)) (some (.shr, lD t.2.1)) (some (.shr, kD t.2.2))) := by
  obtain ⟨n, l, k⟩ := t
  unfold good at h
  rw [Bool.and_eq_true] at h
  have e1 := lab_in l
  rw [h.1] at e1
  cases l with
  | inr w => exact absurd h.1 (by simp [goodL])
  | inl w =>
    cases k with
    | inr b => exact absurd h.2 (by simp [goodK])
    | inl i =>
      have sn := set_new (v := (w, i)) hn hg
      unfold labD at sn
      unfold jB jSt
      unfold lD at e1 ⊢
      unfold kD
      simp at e1 sn
      simp [e1, sn, isSub, tyD, ent, lS, kI]
theorem jB_bad (d0 d1 d2 : Option (Stt × PyData)) (g : Fd) (t : T3) (h : good t = false) : ∃ ρ', jB (jSt d0 d1 d2 g (some (.shr, .str t.1)) (some (.shr, lD t.2.1)) (some (.shr, kD t.2.2))) = some (.ret (.kept (.bool false)), ρ') := by
  obtain ⟨n, l, k⟩ := t
  unfold good at h
  have e1 := lab_in l
  unfold jB jSt
  cases hl : goodL l with
  | false =>
    rw [hl] at e1
    simp [e1]
  | true =>
    rw [hl] at e1
    simp only [hl, Bool.true_and] at h
    cases k with
    | inl i => exact absurd h (by simp [goodK])
    | inr b => unfold kD; simp [e1, isSub, tyD]
theorem jLoop (d0 d1 d2 : Option (Stt × PyData)) (ts : List T3) (nd : (ts.map (·.1)).Nodup) (hl : ts.length < 1000) :
    (ts.all good = true ∧ ∃ x4 x5 x6, forM (ts.map t3D) (gT (gsC (gN 4) (gsC (gN 5) (gsC (gN 6) gsN)))) jB (jSt d0 d1 d2 [] none none none) = some (.nx, jSt d0 d1 d2 (ts.map ent) x4 x5 x6)) ∨ (ts.all good = false ∧ ∃ ρ', forM (ts.map t3D) (gT (gsC (gN 4) (gsC (gN 5) (gsC (gN 6) gsN)))) jB (jSt d0 d1 d2 [] none none none) = some (.ret (.kept (.bool false)), ρ')) := by
  have := for_inv (ds := ts.map t3D) (g := gT (gsC (gN 4) (gsC (gN 5) (gsC (gN 6) gsN)))) (b := jB) (fun i ρ => (ts.take i).all good = true ∧ ∃ x4 x5 x6, ρ = jSt d0 d1 d2 ((ts.take i).map ent) x4 x5 x6) (fun r => r = .kept (.bool false) ∧ ts.all good = false)
    (fun i d ρ hd hI => by
      obtain ⟨hg, x4, x5, x6, rfl⟩ := hI
      rw [List.getElem?_map] at hd
      obtain ⟨t, ht, rfl⟩ := Option.map_eq_some_iff.mp hd
      have et : ts.take (i + 1) = ts.take i ++ [t] := by rw [List.take_succ, ht]; rfl
      have hlt : i < ts.length := (List.getElem?_eq_some_iff.mp ht).1
      have hn : look ((ts.take i).map ent) t.1 = none := look_none.mpr (by
        rw [List.map_map]
        have := nodup_at nd (i := i) (n := t.1) (by rw [List.getElem?_map, ht]; rfl)
        rw [← List.map_take] at this
        exact this)
      have eg : (gT (gsC (gN 4) (gsC (gN 5) (gsC (gN 6) gsN)))).run (t3D t) (jSt d0 d1 d2 ((ts.take i).map ent) x4 x5 x6) = some ((), jSt d0 d1 d2 ((ts.take i).map ent) (some (.shr, .str t.1)) (some (.shr, lD t.2.1)) (some (.shr, kD t.2.2))) := by
        unfold t3D jSt
        simp
      cases hgt : good t with
      | true =>
        refine ⟨_, .nx, _, eg, jB_good d0 d1 d2 _ t hgt (by rw [List.length_map, List.length_take]; omega) hn, .inl ⟨.inl rfl, ?_, some (.shr, .str t.1), some (.shr, lD t.2.1), some (.shr, kD t.2.2), ?_⟩⟩
        · rw [et, List.all_append, hg]; simp [hgt]
        · rw [et, List.map_append]; rfl
      | false =>
        obtain ⟨ρ', e⟩ := jB_bad d0 d1 d2 ((ts.take i).map ent) t hgt
        refine ⟨_, _, _, eg, e, .inr ⟨_, rfl, rfl, ?_⟩⟩
        rw [Bool.eq_false_iff]
        intro z
        rw [List.all_eq_true] at z
        rw [z t (List.mem_of_getElem? ht)] at hgt
        cases hgt) (jSt d0 d1 d2 [] none none none) ⟨by simp, none, none, none, by simp⟩
  rcases this with ⟨ρ', e, hg, x4, x5, x6, rfl⟩ | ⟨r, ρ', e, rfl, hg⟩
  · rw [List.length_map, List.take_length] at hg e
    exact .inl ⟨hg, x4, x5, x6, e⟩
  · exact .inr ⟨hg, ρ', e⟩
def jSt2 (d0 d1 d2 : Option (Stt × PyData)) (g : Fd) (x4 x5 x6 : Option (Stt × PyData)) : Rho := [d0, d1, d2, some (.shr, .dict (fdk g)), x4, x5, x6, none, none]
def jEnd (R : Fns) : Mo Rs := xLc [4] (iDict .keys 3) (gN 4) tYesM (xCall R.is_settled (aC (xV 3) (aC (xCall R.attackers (aC (xV 1) (aC (xV 4) aN))) (aC (x2i (xV 3) (xV 4) opIx) aN))))
theorem jEnd_ok (R : Fns) {nm : List Str} {at' : List (Str × Str)} (C : Case2 nm at') (A : AttOk R at') (Se : SetOk R) (d0 d2 : Option (Stt × PyData)) (s1 : Stt) (h1 : Rdg s1) (g : Fd) (hg : g.map (·.1) = sortS nm) (x4 x5 x6 : Option (Stt × PyData)) :
    jEnd R (jSt d0 (some (s1, atD at')) d2 g x4 x5 x6) = some (.fresh (.list ((g.map fun e => setO g (ones at' e.1) e.2).map .bool)), jSt2 d0 (some (s1, atD at')) d2 g x4 x5 x6) := by
  have nd : (g.map (·.1)).Nodup := hg ▸ sort_nodup C.nd
  have hl := C.nl
  have gl : g.length = nm.length := by rw [← sort_len nm, ← hg, List.length_map]
  have := lc_evalT (vs := [4]) (fi := iDict .keys 3) (g := gN 4) (t := tYesM) (fe := xCall R.is_settled (aC (xV 3) (aC (xCall R.attackers (aC (xV 1) (aC (xV 4) aN))) (aC (x2i (xV 3) (xV 4) opIx) aN)))) (ρ := jSt d0 (some (s1, atD at')) d2 g x4 x5 x6) (ρ1 := jSt2 d0 (some (s1, atD at')) d2 g x4 x5 x6) (l := g) (e := fun e => .str e.1)
    (fun _ => true) (fun e => .bool (setO g (ones at' e.1) e.2)) (by unfold jSt jSt2; simp [selD, fdk]) (by rw [gl]; exact Nat.le_trans (Nat.le_of_lt hl) (by decide)) (fun e he => ?_)
  · unfold jEnd
    rw [this, List.filter_eq_self.mpr (fun _ _ => rfl)]
    unfold jSt2
    simp [restE, wipeE]
  · obtain ⟨q, hq⟩ : ∃ q : Rho, q = [d0, some (s1, atD at'), d2, some (.shr, .dict (fdk g)), some (.shr, .str e.1), x5, x6, none, none] := ⟨_, rfl⟩
    refine ⟨q, by unfold jSt2; simp [wipeE, hq], q, by simp, fun h => (by cases h), fun _ => ⟨.kept (.bool (setO g (ones at' e.1) e.2)), q, q, ?_, by simp, by unfold jSt2; simp [wipeE, hq]⟩⟩
    have ek := look_in nd he
    have es := Se g (sortS (dedupS (ones at' e.1))) e.2 .shr (.inl rfl) (fun o ho => look_key (hg ▸ C.ones (sod_mem.mp ho))) (by rw [sort_len]; exact Nat.lt_trans (C.ds e.1) (by decide))
    rw [setO_mem g e.2 (fun x => sod_mem (x := x) (xs := ones at' e.1))] at es
    rw [hq]
    rcases h1 with rfl | rfl <;> simp [ek, es, A e.1 _ .shr (.inl rfl) (.inl rfl), A e.1 _ .shr (.inr rfl) (.inl rfl)]
/-- the rows that are asked -/
theorem lc_is3 (d0 d1 : Option (Stt × PyData)) (rs : List Row) (hl : rs.length < 1000) : xLc [8] (iS (xV 2)) (gN 8) tYesM (xAnd (xIsi "tuple" (xV 8)) (x2 (xB oLen (aC (xV 8) aN)) (xC (.int 3)) opEq)) [d0, d1, some (.shr, .tuple (rs.map Row.D)), none, none, none, none, none, none] = some (.fresh (.list ((rs.map Row.is3).map .bool)), [d0, d1, some (.shr, .tuple (rs.map Row.D)), none, none, none, none, none, none]) := by
  have := lc_evalT (vs := [8]) (fi := iS (xV 2)) (g := gN 8) (t := tYesM) (fe := xAnd (xIsi "tuple" (xV 8)) (x2 (xB oLen (aC (xV 8) aN)) (xC (.int 3)) opEq)) (ρ := [d0, d1, some (.shr, .tuple (rs.map Row.D)), none, none, none, none, none, none]) (ρ1 := [d0, d1, some (.shr, .tuple (rs.map Row.D)), none, none, none, none, none, none]) (l := rs) (e := Row.D)
    (fun _ => true) (fun r => .bool r.is3) (by simp) (Nat.le_trans (Nat.le_of_lt hl) (by decide)) (fun r hr => ?_)
  · rw [this, List.filter_eq_self.mpr (fun _ _ => rfl)]
    simp [restE, wipeE]
  · obtain ⟨q, hq⟩ : ∃ q : Rho, q = [d0, d1, some (.shr, .tuple (rs.map Row.D)), none, none, none, none, none, some (.shr, r.D)] := ⟨_, rfl⟩
    refine ⟨q, by simp [wipeE, hq], q, by simp, fun h => (by cases h), fun _ => ⟨.kept (.bool r.is3), q, q, ?_, by simp, by simp [wipeE, hq]⟩⟩
    rw [hq]
    cases r <;> simp [Row.D, Row.is3, isSub, tyD, t3D]
theorem lc_nm (d0 d1 : Option (Stt × PyData)) (ts : List T3) (hl : ts.length < 1000) : xLc [4, 7, 7] (iS (xV 2)) (gT (gsC (gN 4) (gsC (gN 7) (gsC (gN 7) gsN)))) tYesM (xV 4) [d0, d1, some (.shr, .tuple (ts.map t3D)), none, none, none, none, none, none] = some (.fresh (.list ((ts.map (·.1)).map .str)), [d0, d1, some (.shr, .tuple (ts.map t3D)), none, none, none, none, none, none]) := by
  have := lc_evalT (vs := [4, 7, 7]) (fi := iS (xV 2)) (g := gT (gsC (gN 4) (gsC (gN 7) (gsC (gN 7) gsN)))) (t := tYesM) (fe := xV 4) (ρ := [d0, d1, some (.shr, .tuple (ts.map t3D)), none, none, none, none, none, none]) (ρ1 := [d0, d1, some (.shr, .tuple (ts.map t3D)), none, none, none, none, none, none]) (l := ts) (e := t3D)
    (fun _ => true) (fun t => .str t.1) (by simp) (Nat.le_trans (Nat.le_of_lt hl) (by decide)) (fun t ht => ?_)
  · rw [this, List.filter_eq_self.mpr (fun _ _ => rfl)]
    simp [restE, wipeE]
  · obtain ⟨q, hq⟩ : ∃ q : Rho, q = [d0, d1, some (.shr, .tuple (ts.map t3D)), none, some (.shr, .str t.1), none, none, some (.shr, kD t.2.2), none] := ⟨_, rfl⟩
    refine ⟨q, by simp [wipeE, hq, t3D], q, by simp, fun h => (by cases h), fun _ => ⟨.slot 4, q, q, by simp [hq], by simp [hq], by simp [wipeE, hq]⟩⟩
/-- judge_stands -/
theorem judge_ok (R : Fns) {nm : List Str} {at' : List (Str × Str)} (C : Case2 nm at') (A : AttOk R at') (Se : SetOk R) (s0 s1 : Stt) (h0 : Rdg s0) (h1 : Rdg s1) (rs : List Row) (hl : rs.length < 1000) :
    runF 3 9 (m_judge_stands R) [(s0, nmD nm), (s1, atD at'), (.shr, .tuple (rs.map Row.D))] = some (.kept (.bool (verdict at' (sortS nm) rs)), none) := by
  obtain ⟨d1, hd1⟩ : ∃ d1 : Option (Stt × PyData), d1 = some (s1, atD at') := ⟨_, rfl⟩
  obtain ⟨d0, hd0⟩ : ∃ d0 : Option (Stt × PyData), d0 = some (s0, nmD nm) := ⟨_, rfl⟩
  have fin : ∃ ρ', m_judge_stands R [d0, d1, some (.shr, .tuple (rs.map Row.D)), none, none, none, none, none, none] = some (.ret (.kept (.bool (verdict at' (sortS nm) rs))), ρ') := by
    have l3 := lc_is3 d0 d1 rs hl
    have a3 := any_f rs Row.is3
    simp only [beq_false] at a3
    unfold m_judge_stands
    generalize xLc [8] (iS (xV 2)) (gN 8) tYesM (xAnd (xIsi "tuple" (xV 8)) (x2 (xB oLen (aC (xV 8) aN)) (xC (.int 3)) opEq)) = X3 at l3 ⊢
    generalize hB : rs.map Row.is3 = B at a3 l3
    unfold verdict
    cases ha : all3 rs with
    | none =>
      rw [all3_none ha] at a3
      simp [isSub, tyD, l3, a3]
    | some ts =>
      obtain rfl := all3_some ha
      rw [all3_all] at a3
      have ln := lc_nm d0 d1 ts (by rwa [List.length_map] at hl)
      have so := sorted_ok C.nl
      have ne := ne_strs (ts.map (·.1)) (sortS nm)
      have em : (ts.map Row.three).map Row.D = ts.map t3D := by rw [List.map_map]; rfl
      rw [em] at l3 ⊢
      dsimp only
      generalize xLc [4, 7, 7] (iS (xV 2)) (gT (gsC (gN 4) (gsC (gN 7) (gsC (gN 7) gsN)))) tYesM (xV 4) = X4 at ln ⊢
      by_cases hn : ts.map (·.1) = sortS nm
      · have nd : (ts.map (·.1)).Nodup := hn ▸ sort_nodup C.nd
        rw [decide_eq_true hn] at ne ⊢
        rcases jLoop d0 d1 (some (.shr, .tuple (ts.map t3D))) ts nd (by rwa [List.length_map] at hl) with ⟨hg, x4, x5, x6, el⟩ | ⟨hg, ρ', el⟩
        · have ee := jEnd_ok R C A Se d0 (some (.shr, .tuple (ts.map t3D))) s1 h1 (ts.map ent) (by rw [List.map_map]; exact hn) x4 x5 x6
          have a4 := any_f (ts.map ent) fun e => setO (ts.map ent) (ones at' e.1) e.2
          simp only [beq_false] at a4
          rw [← hd1] at ee
          rw [hg]
          unfold okAll
          unfold jEnd at ee
          unfold jB at el
          generalize xLc [4] (iDict .keys 3) (gN 4) tYesM (xCall R.is_settled (aC (xV 3) (aC (xCall R.attackers (aC (xV 1) (aC (xV 4) aN))) (aC (x2i (xV 3) (xV 4) opIx) aN)))) = X5 at ee ⊢
          generalize ((ts.map ent).map fun e => setO (ts.map ent) (ones at' e.1) e.2) = B5 at ee a4
          generalize jSt d0 d1 (some (.shr, .tuple (ts.map t3D))) (ts.map ent) x4 x5 x6 = st5 at el ee
          generalize jSt2 d0 d1 (some (.shr, .tuple (ts.map t3D))) (ts.map ent) x4 x5 x6 = st6 at ee
          unfold jSt at el
          generalize gT (gsC (gN 4) (gsC (gN 5) (gsC (gN 6) gsN))) = G at el ⊢
          generalize (sSeq (sIf (tOrM (tV (x2 (xV 5) (xC c_LABELS) opNotInA)) (tOrM (tNotM (tV (xIsi "int" (xV 6)))) (tV (xIsi "bool" (xV 6))))) (sRet (xC (.bool false))) sPass) (sPut 3 (xV 4) (xTup (aC (xV 5) (aC (xV 6) aN))))) = BB at el ⊢
          subst hd0
          simp only [fdk, List.map_nil] at el
          rcases h0 with rfl | rfl <;> simp [-List.map_map, isSub, tyD, l3, a3, ln, so, ne, el, ee, a4]
        · rw [hg]
          unfold jB at el
          unfold jSt at el
          generalize gT (gsC (gN 4) (gsC (gN 5) (gsC (gN 6) gsN))) = G at el ⊢
          generalize (sSeq (sIf (tOrM (tV (x2 (xV 5) (xC c_LABELS) opNotInA)) (tOrM (tNotM (tV (xIsi "int" (xV 6)))) (tV (xIsi "bool" (xV 6))))) (sRet (xC (.bool false))) sPass) (sPut 3 (xV 4) (xTup (aC (xV 5) (aC (xV 6) aN))))) = BB at el ⊢
          subst hd0
          simp only [fdk, List.map_nil] at el
          rcases h0 with rfl | rfl <;> simp [-List.map_map, isSub, tyD, l3, a3, ln, so, ne, el]
      · rw [decide_eq_false hn] at ne ⊢
        subst hd0
        rcases h0 with rfl | rfl <;> simp [-List.map_map, isSub, tyD, l3, a3, ln, so, ne]
  obtain ⟨ρ', fin⟩ := fin
  subst hd0 hd1
  refine run_ret ?_ ?_ fin rfl
  · rcases h0 with rfl | rfl <;> rcases h1 with rfl | rfl <;> rfl
  · rcases h0 with rfl | rfl <;> rfl
end PyK53

namespace PyK53
open PySem PySem.Spec L2 PyI
theorem ne_nil (l : List PyData) (h : PyData.plainAll l = true) : opNe (.list l) (.list []) = some (.bool (!l.isEmpty)) := by
  have : eqD (.list l) (.list []) = some l.isEmpty := by
    show (if (PyData.list l).plain = true ∧ (PyData.list []).plain = true ∧ min (PyData.list l).depth (PyData.list []).depth ≤ 60 then some ((PyData.list l).eqv (.list [])) else none) = _
    rw [if_pos ⟨by simp [PyData.plain, h], by simp [PyData.plain, PyData.plainAll], Nat.le_trans (Nat.min_le_right _ _) (by simp [PyData.depth, PyData.depthAll])⟩]
    cases l <;> simp [PyData.eqv, PyData.eqvAll]
  unfold opNe
  rw [this]; rfl
theorem eq_nil (l : List PyData) (h : PyData.plainAll l = true) : opEq (.list l) (.list []) = some (.bool l.isEmpty) := by
  have : eqD (.list l) (.list []) = some l.isEmpty := by
    show (if (PyData.list l).plain = true ∧ (PyData.list []).plain = true ∧ min (PyData.list l).depth (PyData.list []).depth ≤ 60 then some ((PyData.list l).eqv (.list [])) else none) = _
    rw [if_pos ⟨by simp [PyData.plain, h], by simp [PyData.plain, PyData.plainAll], Nat.le_trans (Nat.min_le_right _ _) (by simp [PyData.depth, PyData.depthAll])⟩]
    cases l <;> simp [PyData.eqv, PyData.eqvAll]
  unfold opEq
  rw [this]; rfl
theorem plain_map {α : Type} {f : α → PyData} (l : List α) (h : ∀ x ∈ l, (f x).plain = true) : PyData.plainAll (l.map f) = true := by
  induction l with
  | nil => simp [PyData.plainAll]
  | cons x l ih => simp [PyData.plainAll, h x List.mem_cons_self, ih fun y hy => h y (List.mem_cons_of_mem _ hy)]
theorem plain_t3 (t : T3) : (t3D t).plain = true := by
  obtain ⟨n, l, k⟩ := t
  cases l <;> cases k <;> simp [t3D, lD, kD, PyData.plain, PyData.plainAll]
theorem plain_row (r : Row) : r.D.plain = true := by
  cases r with
  | no => simp [Row.D, PyData.plain]
  | two a b => simp [Row.D, PyData.plain, PyData.plainAll]
  | three t => exact plain_t3 t
theorem filter_all {α : Type} (l : List α) (p : α → Bool) : (l.filter fun x => !p x).isEmpty = l.all p := by
  induction l with
  | nil => rfl
  | cons a l ih => cases h : p a <;> simp [h, ← ih]
theorem filter_any {α : Type} (l : List α) (p : α → Bool) : (l.filter p).isEmpty = !l.any p := by
  induction l with
  | nil => rfl
  | cons a l ih => cases h : p a <;> simp [h, ← ih]
theorem emp_map {α : Type} {l : List α} {f : α → PyData} : (l.map f).isEmpty = l.isEmpty := by cases l <;> rfl
theorem lab_in2 (l : Str ⊕ Str) : opNotInA (lD l) (.list [.str "stands", .str "falls", .str "open"]) = some (.bool (!goodL l)) := by
  rw [← lab_in l]
  cases l <;> rfl
/-! ### the first tests of accepts -/
def aSt (d0 d1 d2 : Option (Stt × PyData)) : Rho := [d0, d1, d2, none, none, none, none, none, none, none, none, none, none]
def aSt9 (d0 d1 d2 d9 : Option (Stt × PyData)) : Rho := [d0, d1, d2, none, none, none, none, none, none, d9, none, none, none]
def X1 : Mo Rs := xLc [9] (iS (xV 2)) (gN 9) (tOrM (tNotM (tV (xIsi "tuple" (xV 9)))) (tV (x2 (xB oLen (aC (xV 9) aN)) (xC (.int 3)) opNe))) (xV 9)
def X2 : Mo Rs := xLc [9] (iS (xV 2)) (gN 9) tYesM (x2i (xV 9) (xC (.int 0)) opIx)
def X3 : Mo Rs := xLc [9] (iS (xV 2)) (gN 9) (tV (x2 (x2i (xV 9) (xC (.int 1)) opIx) (xLst (aC (xC (.str "stands")) (aC (xC (.str "falls")) (aC (xC (.str "open")) aN)))) opNotInA)) (xV 9)
def X4 : Mo Rs := xLc [9] (iS (xV 2)) (gN 9) (tOrM (tNotM (tV (xIsi "int" (x2i (xV 9) (xC (.int 2)) opIx)))) (tV (xIsi "bool" (x2i (xV 9) (xC (.int 2)) opIx)))) (xV 9)
def X5 : Mo Rs := xLc [4, 5, 6] (iS (xV 2)) (gT (gsC (gN 4) (gsC (gN 5) (gsC (gN 6) gsN)))) tYesM (xTup (aC (xV 4) (aC (xTup (aC (xV 5) (aC (xV 6) aN))) aN)))
theorem X1_ok (d0 d1 : Option (Stt × PyData)) (rs : List Row) (hl : rs.length < 1000) : X1 (aSt d0 d1 (some (.shr, .tuple (rs.map Row.D)))) = some (.fresh (.list ((rs.filter fun r => !r.is3).map Row.D)), aSt d0 d1 (some (.shr, .tuple (rs.map Row.D)))) := by
  have := lc_evalT (vs := [9]) (fi := iS (xV 2)) (g := gN 9) (t := tOrM (tNotM (tV (xIsi "tuple" (xV 9)))) (tV (x2 (xB oLen (aC (xV 9) aN)) (xC (.int 3)) opNe))) (fe := xV 9) (ρ := aSt d0 d1 (some (.shr, .tuple (rs.map Row.D)))) (ρ1 := aSt d0 d1 (some (.shr, .tuple (rs.map Row.D)))) (l := rs) (e := Row.D)
    (fun r => !r.is3) Row.D (by simp [aSt]) (Nat.le_trans (Nat.le_of_lt hl) (by decide)) (fun r hr => ?_)
  · unfold X1
    rw [this]
    simp [restE, wipeE, aSt]
  · obtain ⟨q, hq⟩ : ∃ q : Rho, q = aSt9 d0 d1 (some (.shr, .tuple (rs.map Row.D))) (some (.shr, r.D)) := ⟨_, rfl⟩
    refine ⟨q, by simp [wipeE, hq, aSt, aSt9], q, ?_, fun h => by simp [wipeE, hq, aSt, aSt9], fun _ => ⟨.slot 9, q, q, by simp [hq, aSt9], by simp [hq, aSt9], by simp [wipeE, hq, aSt, aSt9]⟩⟩
    rw [hq]
    cases r <;> simp [Row.D, Row.is3, isSub, tyD, t3D, aSt9]
theorem X2_ok (d0 d1 : Option (Stt × PyData)) (ts : List T3) (hl : ts.length < 1000) : X2 (aSt d0 d1 (some (.shr, .tuple (ts.map t3D)))) = some (.fresh (.list ((ts.map (·.1)).map .str)), aSt d0 d1 (some (.shr, .tuple (ts.map t3D)))) := by
  have := lc_evalT (vs := [9]) (fi := iS (xV 2)) (g := gN 9) (t := tYesM) (fe := x2i (xV 9) (xC (.int 0)) opIx) (ρ := aSt d0 d1 (some (.shr, .tuple (ts.map t3D)))) (ρ1 := aSt d0 d1 (some (.shr, .tuple (ts.map t3D)))) (l := ts) (e := t3D)
    (fun r => true) (fun t => .str t.1) (by simp [aSt]) (Nat.le_trans (Nat.le_of_lt hl) (by decide)) (fun t ht => ?_)
  · unfold X2
    rw [this, List.filter_eq_self.mpr (fun _ _ => rfl)]
    simp [restE, wipeE, aSt]
  · obtain ⟨q, hq⟩ : ∃ q : Rho, q = aSt9 d0 d1 (some (.shr, .tuple (ts.map t3D))) (some (.shr, t3D t)) := ⟨_, rfl⟩
    refine ⟨q, by simp [wipeE, hq, aSt, aSt9], q, by simp, fun h => (by cases h), fun _ => ⟨.kept (.str t.1), q, q, by simp [hq, aSt9, t3D], by simp, by simp [wipeE, hq, aSt, aSt9]⟩⟩
theorem X3_ok (d0 d1 : Option (Stt × PyData)) (ts : List T3) (hl : ts.length < 1000) : X3 (aSt d0 d1 (some (.shr, .tuple (ts.map t3D)))) = some (.fresh (.list ((ts.filter fun t => !goodL t.2.1).map t3D)), aSt d0 d1 (some (.shr, .tuple (ts.map t3D)))) := by
  have := lc_evalT (vs := [9]) (fi := iS (xV 2)) (g := gN 9) (t := tV (x2 (x2i (xV 9) (xC (.int 1)) opIx) (xLst (aC (xC (.str "stands")) (aC (xC (.str "falls")) (aC (xC (.str "open")) aN)))) opNotInA)) (fe := xV 9) (ρ := aSt d0 d1 (some (.shr, .tuple (ts.map t3D)))) (ρ1 := aSt d0 d1 (some (.shr, .tuple (ts.map t3D)))) (l := ts) (e := t3D)
    (fun t => !goodL t.2.1) t3D (by simp [aSt]) (Nat.le_trans (Nat.le_of_lt hl) (by decide)) (fun t ht => ?_)
  · unfold X3
    rw [this]
    simp [restE, wipeE, aSt]
  · obtain ⟨q, hq⟩ : ∃ q : Rho, q = aSt9 d0 d1 (some (.shr, .tuple (ts.map t3D))) (some (.shr, t3D t)) := ⟨_, rfl⟩
    have e := lab_in2 t.2.1
    refine ⟨q, by simp [wipeE, hq, aSt, aSt9], q, by rw [hq]; unfold t3D aSt9; simp [e], fun h => by simp [wipeE, hq, aSt, aSt9], fun _ => ⟨.slot 9, q, q, by simp [hq, aSt9], by simp [hq, aSt9], by simp [wipeE, hq, aSt, aSt9]⟩⟩
theorem X4_ok (d0 d1 : Option (Stt × PyData)) (ts : List T3) (hl : ts.length < 1000) : X4 (aSt d0 d1 (some (.shr, .tuple (ts.map t3D)))) = some (.fresh (.list ((ts.filter fun t => !goodK t.2.2).map t3D)), aSt d0 d1 (some (.shr, .tuple (ts.map t3D)))) := by
  have := lc_evalT (vs := [9]) (fi := iS (xV 2)) (g := gN 9) (t := tOrM (tNotM (tV (xIsi "int" (x2i (xV 9) (xC (.int 2)) opIx)))) (tV (xIsi "bool" (x2i (xV 9) (xC (.int 2)) opIx)))) (fe := xV 9) (ρ := aSt d0 d1 (some (.shr, .tuple (ts.map t3D)))) (ρ1 := aSt d0 d1 (some (.shr, .tuple (ts.map t3D)))) (l := ts) (e := t3D)
    (fun t => !goodK t.2.2) t3D (by simp [aSt]) (Nat.le_trans (Nat.le_of_lt hl) (by decide)) (fun t ht => ?_)
  · unfold X4
    rw [this]
    simp [restE, wipeE, aSt]
  · obtain ⟨q, hq⟩ : ∃ q : Rho, q = aSt9 d0 d1 (some (.shr, .tuple (ts.map t3D))) (some (.shr, t3D t)) := ⟨_, rfl⟩
    refine ⟨q, by simp [wipeE, hq, aSt, aSt9], q, ?_, fun h => by simp [wipeE, hq, aSt, aSt9], fun _ => ⟨.slot 9, q, q, by simp [hq, aSt9], by simp [hq, aSt9], by simp [wipeE, hq, aSt, aSt9]⟩⟩
    rw [hq]
    obtain ⟨n, l, k⟩ := t
    cases k <;> simp [t3D, kD, goodK, isSub, tyD, aSt9]
theorem X5_ok (d0 d1 : Option (Stt × PyData)) (ts : List T3) (hl : ts.length < 1000) (hg : ts.all good = true) : X5 (aSt d0 d1 (some (.shr, .tuple (ts.map t3D)))) = some (.fresh (.list (ts.map fun t => .tuple [.str t.1, labD (ent t).2])), aSt d0 d1 (some (.shr, .tuple (ts.map t3D)))) := by
  have := lc_evalT (vs := [4, 5, 6]) (fi := iS (xV 2)) (g := gT (gsC (gN 4) (gsC (gN 5) (gsC (gN 6) gsN)))) (t := tYesM) (fe := xTup (aC (xV 4) (aC (xTup (aC (xV 5) (aC (xV 6) aN))) aN))) (ρ := aSt d0 d1 (some (.shr, .tuple (ts.map t3D)))) (ρ1 := aSt d0 d1 (some (.shr, .tuple (ts.map t3D)))) (l := ts) (e := t3D)
    (fun t => true) (fun t => .tuple [.str t.1, labD (ent t).2]) (by simp [aSt]) (Nat.le_trans (Nat.le_of_lt hl) (by decide)) (fun t ht => ?_)
  · unfold X5
    rw [this, List.filter_eq_self.mpr (fun _ _ => rfl)]
    simp [restE, wipeE, aSt]
  · obtain ⟨q, hq⟩ : ∃ q : Rho, q = [d0, d1, some (.shr, .tuple (ts.map t3D)), none, some (.shr, .str t.1), some (.shr, lD t.2.1), some (.shr, kD t.2.2), none, none, none, none, none, none] := ⟨_, rfl⟩
    refine ⟨q, by simp [wipeE, hq, aSt, t3D], q, by simp, fun h => (by cases h), fun _ => ⟨.kept (.tuple [.str t.1, labD (ent t).2]), q, q, ?_, by simp, by simp [wipeE, hq, aSt]⟩⟩
    rw [hq]
    have hz := List.all_eq_true.mp hg t ht
    obtain ⟨n, l, k⟩ := t
    unfold good at hz
    rw [Bool.and_eq_true] at hz
    cases l with
    | inr w => exact absurd hz.1 (by simp [goodL])
    | inl w =>
      cases k with
      | inr b => exact absurd hz.2 (by simp [goodK])
      | inl i => simp [lD, kD, ent, lS, kI, labD]
theorem pairs_ok (g : Fd) : pairsD (g.map fun e => .tuple [.str e.1, labD e.2]) = some (fdk g) := by
  induction g with
  | nil => rfl
  | cons e g ih =>
    rw [List.map_cons]
    unfold pairsD
    rw [ih]
    rfl
theorem dictP_ok (g : Fd) (nd : (g.map (·.1)).Nodup) : oDictP [.list (g.map fun e => .tuple [.str e.1, labD e.2])] = some (.dict (fdk g)) := by
  show (pairsD (g.map fun e => .tuple [.str e.1, labD e.2])).map (fun l => PyData.dict (mergeD [] l)) = _
  rw [pairs_ok]
  have := merge_new (f := []) nd (fun e _ => rfl)
  show some (PyData.dict (mergeD (fdk []) (fdk g))) = _
  rw [this]; rfl
end PyK53

namespace PyK53
open PySem PySem.Spec L2 PyI
def eSt (d0 d1 d2 : Option (Stt × PyData)) (g : Fd) (x4 x5 x6 x7 x8 : Option (Stt × PyData)) : Rho := [d0, d1, d2, some (.shr, .dict (fdk g)), x4, x5, x6, x7, x8, none, none, none, none]
def Y1 : Mo Rs := xLc [10, 11] (iS (xV 1)) (gT (gsC (gN 10) (gsC (gN 11) gsN))) (tV (x2 (xV 11) (xV 4) opEq)) (x2i (xV 3) (xV 10) opIx)
def Y2 : Mo Rs := xLc [11, 12] (iS (xV 7)) (gT (gsC (gN 11) (gsC (gN 12) gsN))) (tOrM (tV (x2 (xV 11) (xC (.str "falls")) opNe)) (tV (x2 (xV 12) (xV 6) opGe))) (xC (.int 1))
def Y3 : Mo Rs := xLc [11, 12] (iS (xV 7)) (gT (gsC (gN 11) (gsC (gN 12) gsN))) (tAndM (tV (x2 (xV 11) (xC (.str "stands")) opEq)) (tV (x2 (xV 12) (xV 6) opLt))) (xC (.int 1))
def Y4 : Mo Rs := xLc [11, 12] (iS (xV 7)) (gT (gsC (gN 11) (gsC (gN 12) gsN))) tYesM (xV 11)
def eB : Mo Fl := sSeq (sUnp (x2i (xV 3) (xV 4) opIx) (gT (gsC (gN 5) (gsC (gN 6) gsN))))
    (sSeq (sSet 7 Y1)
    (sSeq (sIf (tAndM (tV (x2 (xV 5) (xC (.str "stands")) opEq)) (tOrM (tV (x2 (xV 6) (xC (.int 0)) opLt)) (tV (x2 Y2 (xLst aN) opNe)))) (sRet (xC (.bool false))) sPass)
    (sSeq (sIf (tAndM (tV (x2 (xV 5) (xC (.str "falls")) opEq)) (tOrM (tV (x2 (xV 6) (xC (.int 0)) opLt)) (tV (x2 Y3 (xLst aN) opEq)))) (sRet (xC (.bool false))) sPass)
    (sSeq (sSet 8 Y4)
    (sIf (tAndM (tV (x2 (xV 5) (xC (.str "open")) opEq)) (tOrM (tV (x2 (xV 6) (x1 opNeg (xC (.int 1))) opNe)) (tOrM (tV (x2 (xC (.str "stands")) (xV 8) opInA)) (tV (x2 (xC (.str "open")) (xV 8) opNotInA))))) (sRet (xC (.bool false))) sPass)))))
def labL (g : Fd) (os : List Str) : PyData := .list (os.map fun o => labD (lab g o, rk g o))
theorem Y1_ok (d0 d2 : Option (Stt × PyData)) (s1 : Stt) (h1 : Rdg s1) (at' : List (Str × Str)) (g : Fd) (n : Str) (x5 x6 x7 x8 : Option (Stt × PyData)) (hl : at'.length < 1000) (hk : Known g (ones at' n)) : Y1 (eSt d0 (some (s1, atD at')) d2 g (some (.shr, .str n)) x5 x6 x7 x8) = some (.fresh (labL g (ones at' n)), eSt d0 (some (s1, atD at')) d2 g (some (.shr, .str n)) x5 x6 x7 x8) := by
  have := lc_evalT (vs := [10, 11]) (fi := iS (xV 1)) (g := gT (gsC (gN 10) (gsC (gN 11) gsN))) (t := tV (x2 (xV 11) (xV 4) opEq)) (fe := x2i (xV 3) (xV 10) opIx) (ρ := eSt d0 (some (s1, atD at')) d2 g (some (.shr, .str n)) x5 x6 x7 x8) (ρ1 := eSt d0 (some (s1, atD at')) d2 g (some (.shr, .str n)) x5 x6 x7 x8) (l := at') (e := pairD)
    (fun p => p.2 == n) (fun p => labD (lab g p.1, rk g p.1)) (by rcases h1 with rfl | rfl <;> simp [eSt, atD]) (Nat.le_trans (Nat.le_of_lt hl) (by decide)) (fun p hp => ?_)
  · unfold Y1
    rw [this]
    simp [restE, wipeE, eSt, labL, ones]
  · obtain ⟨q, hq⟩ : ∃ q : Rho, q = [d0, some (s1, atD at'), d2, some (.shr, .dict (fdk g)), some (.shr, .str n), x5, x6, x7, x8, none, some (.shr, .str p.1), some (.shr, .str p.2), none] := ⟨_, rfl⟩
    refine ⟨q, by simp [wipeE, hq, eSt, pairD], q, by simp [hq], fun h => by simp [wipeE, hq, eSt], fun hp2 => ⟨.kept (labD (lab g p.1, rk g p.1)), q, q, ?_, by simp, by simp [wipeE, hq, eSt]⟩⟩
    obtain ⟨v, hv⟩ := hk p.1 (List.mem_map.mpr ⟨p, List.mem_filter.mpr ⟨hp, hp2⟩, rfl⟩)
    rw [hq]
    simp [hv, lab, rk]
theorem Yi_ok (d0 d1 d2 : Option (Stt × PyData)) (st7 : Stt) (h7 : st7 = .own ∨ st7 = .shr) (g : Fd) (os : List Str) (l : Str) (k : Int) (x4 x8 : Option (Stt × PyData)) (t : Mo Bool) (fe : Mo Rs) (p : Str → Bool) (f : Str → PyData) (hl : os.length < 1000)
    (ht : ∀ o, t [d0, d1, d2, some (.shr, .dict (fdk g)), x4, some (.shr, .str l), some (.shr, .int k), some (.shr, labL g os), x8, none, none, some (.shr, .str (lab g o)), some (.shr, .int (rk g o))] = some (p o, [d0, d1, d2, some (.shr, .dict (fdk g)), x4, some (.shr, .str l), some (.shr, .int k), some (.shr, labL g os), x8, none, none, some (.shr, .str (lab g o)), some (.shr, .int (rk g o))]))
    (he : ∀ o, ∃ r, fe [d0, d1, d2, some (.shr, .dict (fdk g)), x4, some (.shr, .str l), some (.shr, .int k), some (.shr, labL g os), x8, none, none, some (.shr, .str (lab g o)), some (.shr, .int (rk g o))] = some (r, [d0, d1, d2, some (.shr, .dict (fdk g)), x4, some (.shr, .str l), some (.shr, .int k), some (.shr, labL g os), x8, none, none, some (.shr, .str (lab g o)), some (.shr, .int (rk g o))]) ∧ keepR r [d0, d1, d2, some (.shr, .dict (fdk g)), x4, some (.shr, .str l), some (.shr, .int k), some (.shr, labL g os), x8, none, none, some (.shr, .str (lab g o)), some (.shr, .int (rk g o))] = some (f o, [d0, d1, d2, some (.shr, .dict (fdk g)), x4, some (.shr, .str l), some (.shr, .int k), some (.shr, labL g os), x8, none, none, some (.shr, .str (lab g o)), some (.shr, .int (rk g o))])) :
    xLc [11, 12] (iS (xV 7)) (gT (gsC (gN 11) (gsC (gN 12) gsN))) t fe (eSt d0 d1 d2 g x4 (some (.shr, .str l)) (some (.shr, .int k)) (some (st7, labL g os)) x8) = some (.fresh (.list ((os.filter p).map f)), eSt d0 d1 d2 g x4 (some (.shr, .str l)) (some (.shr, .int k)) (some (.shr, labL g os)) x8) := by
  have := lc_evalT (vs := [11, 12]) (fi := iS (xV 7)) (g := gT (gsC (gN 11) (gsC (gN 12) gsN))) (t := t) (fe := fe) (ρ := eSt d0 d1 d2 g x4 (some (.shr, .str l)) (some (.shr, .int k)) (some (st7, labL g os)) x8) (ρ1 := eSt d0 d1 d2 g x4 (some (.shr, .str l)) (some (.shr, .int k)) (some (.shr, labL g os)) x8) (l := os) (e := fun o => labD (lab g o, rk g o))
    p f (by rcases h7 with rfl | rfl <;> simp [eSt, labL]) (Nat.le_trans (Nat.le_of_lt hl) (by decide)) (fun o ho => ?_)
  · rw [this]
    simp [restE, wipeE, eSt]
  · obtain ⟨r, e1, e2⟩ := he o
    have et := ht o
    generalize hq : ([d0, d1, d2, some (.shr, .dict (fdk g)), x4, some (.shr, .str l), some (.shr, .int k), some (.shr, labL g os), x8, none, none, some (.shr, .str (lab g o)), some (.shr, .int (rk g o))] : Rho) = q at e1 e2 et
    exact ⟨q, by simp [wipeE, ← hq, eSt, labD], q, et, fun _ => by simp [wipeE, ← hq, eSt], fun _ => ⟨r, q, q, e1, e2, by simp [wipeE, ← hq, eSt]⟩⟩
theorem plain_ones {os : List Str} : PyData.plainAll (os.map fun _ => PyData.int 1) = true := plain_map os fun _ _ => by simp [PyData.plain]
theorem eB_ok (d0 d2 : Option (Stt × PyData)) (s1 : Stt) (h1 : Rdg s1) (at' : List (Str × Str)) (g : Fd) (n l : Str) (k : Int) (x5 x6 x7 x8 : Option (Stt × PyData)) (hl : at'.length < 1000) (hk : Known g (ones at' n)) (hn : look g n = some (l, k)) (hw : goodL (.inl l) = true) :
    (setO g (ones at' n) (l, k) = true ∧ ∃ y5 y6 y7 y8, eB (eSt d0 (some (s1, atD at')) d2 g (some (.shr, .str n)) x5 x6 x7 x8) = some (.nx, eSt d0 (some (s1, atD at')) d2 g (some (.shr, .str n)) y5 y6 y7 y8)) ∨ (setO g (ones at' n) (l, k) = false ∧ ∃ ρ', eB (eSt d0 (some (s1, atD at')) d2 g (some (.shr, .str n)) x5 x6 x7 x8) = some (.ret (.kept (.bool false)), ρ')) := by
  have ho : (ones at' n).length < 1000 := by unfold ones; rw [List.length_map]; exact Nat.lt_of_le_of_lt (List.length_filter_le _ _) hl
  have z1 := Y1_ok d0 d2 s1 h1 at' g n (some (.shr, .str l)) (some (.shr, .int k)) x7 x8 hl hk
  have z2 := Yi_ok d0 (some (s1, atD at')) d2 .own (.inl rfl) g (ones at' n) l k (some (.shr, .str n)) x8 (tOrM (tV (x2 (xV 11) (xC (.str "falls")) opNe)) (tV (x2 (xV 12) (xV 6) opGe))) (xC (.int 1)) (fun o => !(lab g o == "falls" && decide (rk g o < k))) (fun _ => .int 1) ho
    (fun o => by
      by_cases c : lab g o = "falls"
      · by_cases c2 : rk g o < k
        · have : ¬ k ≤ rk g o := by omega
          simp [c, c2, this]
        · have : k ≤ rk g o := by omega
          simp [c, c2, this]
      · have cb : (lab g o == "falls") = false := by simp [c]
        simp [cb]) (fun o => ⟨.kept (.int 1), by simp, by simp⟩)
  have z3 := Yi_ok d0 (some (s1, atD at')) d2 .own (.inl rfl) g (ones at' n) l k (some (.shr, .str n)) x8 (tAndM (tV (x2 (xV 11) (xC (.str "stands")) opEq)) (tV (x2 (xV 12) (xV 6) opLt))) (xC (.int 1)) (fun o => lab g o == "stands" && decide (rk g o < k)) (fun _ => .int 1) ho
    (fun o => by
      by_cases c : lab g o = "stands"
      · simp [c]
      · have cb : (lab g o == "stands") = false := by simp [c]
        simp [cb]) (fun o => ⟨.kept (.int 1), by simp, by simp⟩)
  have z4 : ∀ st7 : Stt, (st7 = .own ∨ st7 = .shr) → Y4 (eSt d0 (some (s1, atD at')) d2 g (some (.shr, .str n)) (some (.shr, .str l)) (some (.shr, .int k)) (some (st7, labL g (ones at' n))) x8) = some (.fresh (.list (((ones at' n).map (lab g)).map .str)), eSt d0 (some (s1, atD at')) d2 g (some (.shr, .str n)) (some (.shr, .str l)) (some (.shr, .int k)) (some (.shr, labL g (ones at' n))) x8) := fun st7 h7 => by
    have := Yi_ok d0 (some (s1, atD at')) d2 st7 h7 g (ones at' n) l k (some (.shr, .str n)) x8 tYesM (xV 11) (fun o => true) (fun o => .str (lab g o)) ho
      (fun o => by simp) (fun o => ⟨.slot 11, by simp, by simp⟩)
    unfold Y4
    rw [this, List.filter_eq_self.mpr (fun _ _ => rfl)]
    simp
  have e2 := ne_nil (((ones at' n).filter fun o => !(lab g o == "falls" && decide (rk g o < k))).map fun _ => PyData.int 1) plain_ones
  have e3 := eq_nil (((ones at' n).filter fun o => lab g o == "stands" && decide (rk g o < k)).map fun _ => PyData.int 1) plain_ones
  rw [emp_map, filter_all] at e2
  rw [emp_map, filter_any] at e3
  have a3 : (((ones at' n).map (lab g)).any fun y => y == "stands") = (ones at' n).any fun o => lab g o == "stands" := by rw [List.any_map]; rfl
  have a4 : (((ones at' n).map (lab g)).any fun y => y == "open") = (ones at' n).any fun o => lab g o == "open" := by rw [List.any_map]; rfl
  have z4o := z4 .own (.inl rfl)
  have z4s := z4 .shr (.inr rfl)
  unfold setO
  unfold eB
  change Y2 _ = _ at z2
  change Y3 _ = _ at z3
  generalize (((ones at' n).filter fun o => !(lab g o == "falls" && decide (rk g o < k))).map fun _ => PyData.int 1) = L2 at e2 z2
  generalize (((ones at' n).filter fun o => lab g o == "stands" && decide (rk g o < k)).map fun _ => PyData.int 1) = L3 at e3 z3
  generalize (ones at' n).map (lab g) = L4 at z4o z4s a3 a4
  have sf : ¬ ("falls" : Str) = "stands" := by decide
  have sfb : (("falls" : Str) == "stands") = false := by decide
  have sb : (("stands" : Str) == "falls") = false := by decide
  have sob : (("stands" : Str) == "open") = false := by decide
  have fob : (("falls" : Str) == "open") = false := by decide
  have os : ¬ ("open" : Str) = "stands" := by decide
  have of : ¬ ("open" : Str) = "falls" := by decide
  have osb : (("open" : Str) == "stands") = false := by decide
  have ofb : (("open" : Str) == "falls") = false := by decide
  generalize Y1 = W1 at *
  generalize Y2 = W2 at *
  generalize Y3 = W3 at *
  generalize Y4 = W4 at *
  unfold eSt at *
  have hw' : l = "stands" ∨ l = "falls" ∨ l = "open" := by
    unfold goodL at hw
    simp at hw
    rcases hw with (h | h) | h
    · exact .inl h
    · exact .inr (.inl h)
    · exact .inr (.inr h)
  rcases hw' with rfl | rfl | rfl
  · by_cases c : 0 ≤ k
    · have c' : ¬ k < 0 := by omega
      cases ha : (ones at' n).all fun o => lab g o == "falls" && decide (rk g o < k) with
      | true =>
        rw [ha] at e2
        left
        simp [hn, labD, z1, c, c', z2, e2, sb, sob, z4s]
      | false =>
        rw [ha] at e2
        right
        simp [hn, labD, z1, c, c', z2, e2, sb, sob, z4s]
    · have c' : k < 0 := by omega
      right
      simp [hn, labD, z1, c, c']
  · by_cases c : 0 ≤ k
    · have c' : ¬ k < 0 := by omega
      cases ha : (ones at' n).any fun o => lab g o == "stands" && decide (rk g o < k) with
      | true =>
        rw [ha] at e3
        left
        simp [hn, labD, z1, c, c', z3, e3, sf, sfb, fob, z4s]
      | false =>
        rw [ha] at e3
        right
        simp [hn, labD, z1, c, c', z3, e3, sf, sfb, fob, z4s]
    · have c' : k < 0 := by omega
      right
      simp [hn, labD, z1, c, c', sf, sfb]
  · by_cases c : k = -1
    · subst c
      cases hs : (ones at' n).any fun o => lab g o == "stands" with
      | true =>
        rw [hs] at a3
        right
        simp [hn, labD, z1, os, of, osb, ofb, z4o, a3]
      | false =>
        rw [hs] at a3
        cases hop : (ones at' n).any fun o => lab g o == "open" with
        | true =>
          rw [hop] at a4
          left
          simp [hn, labD, z1, os, of, osb, ofb, z4o, a3, a4]
        | false =>
          rw [hop] at a4
          right
          simp [hn, labD, z1, os, of, osb, ofb, z4o, a3, a4]
    · have cb : (k == -1) = false := by simp [c]
      right
      simp [hn, labD, z1, c, cb, os, of, osb, ofb, z4o]
/-- the loop over the notes -/
theorem eLoop (d0 d2 : Option (Stt × PyData)) (s1 : Stt) (h1 : Rdg s1) (at' : List (Str × Str)) (g : Fd) (hl : at'.length < 1000) (hk : ∀ n, Known g (ones at' n)) (nd : (g.map (·.1)).Nodup) (hw : ∀ e ∈ g, goodL (.inl e.2.1) = true) :
    (okAll at' g = true ∧ ∃ ρ', forM (g.map fun e => .str e.1) (gN 4) eB (eSt d0 (some (s1, atD at')) d2 g none none none none none) = some (.nx, ρ')) ∨ (okAll at' g = false ∧ ∃ ρ', forM (g.map fun e => .str e.1) (gN 4) eB (eSt d0 (some (s1, atD at')) d2 g none none none none none) = some (.ret (.kept (.bool false)), ρ')) := by
  have := for_inv (ds := g.map fun e => .str e.1) (g := gN 4) (b := eB) (fun i ρ => (g.take i).all (fun e => setO g (ones at' e.1) e.2) = true ∧ ∃ x4 x5 x6 x7 x8, ρ = eSt d0 (some (s1, atD at')) d2 g x4 x5 x6 x7 x8) (fun r => r = .kept (.bool false) ∧ okAll at' g = false)
    (fun i d ρ hd hI => by
      obtain ⟨hg, x4, x5, x6, x7, x8, rfl⟩ := hI
      rw [List.getElem?_map] at hd
      obtain ⟨⟨n, l, k⟩, ht, rfl⟩ := Option.map_eq_some_iff.mp hd
      have hm := List.mem_of_getElem? ht
      have et : g.take (i + 1) = g.take i ++ [(n, l, k)] := by rw [List.take_succ, ht]; rfl
      have eg : (gN 4).run (.str n) (eSt d0 (some (s1, atD at')) d2 g x4 x5 x6 x7 x8) = some ((), eSt d0 (some (s1, atD at')) d2 g (some (.shr, .str n)) x5 x6 x7 x8) := rfl
      rcases eB_ok d0 d2 s1 h1 at' g n l k x5 x6 x7 x8 hl (hk n) (look_in nd hm) (hw _ hm) with ⟨z, y5, y6, y7, y8, e⟩ | ⟨z, ρ', e⟩
      · refine ⟨_, .nx, _, eg, e, .inl ⟨.inl rfl, ?_, some (.shr, .str n), y5, y6, y7, y8, rfl⟩⟩
        rw [et, List.all_append, hg]; simp [z]
      · refine ⟨_, _, _, eg, e, .inr ⟨_, rfl, rfl, ?_⟩⟩
        rw [Bool.eq_false_iff]
        intro y
        unfold okAll at y
        rw [List.all_eq_true] at y
        have := y _ hm
        dsimp only at this
        rw [z] at this
        cases this) (eSt d0 (some (s1, atD at')) d2 g none none none none none) ⟨by simp, none, none, none, none, none, rfl⟩
  rcases this with ⟨ρ', e, hg, _⟩ | ⟨r, ρ', e, rfl, hg⟩
  · rw [List.length_map, List.take_length] at hg
    exact .inl ⟨hg, ρ', e⟩
  · exact .inr ⟨hg, ρ', e⟩
theorem all_good (ts : List T3) : ts.all good = (ts.all (fun t => goodL t.2.1) && ts.all fun t => goodK t.2.2) := by
  induction ts with
  | nil => rfl
  | cons t ts ih =>
    rw [List.all_cons, List.all_cons, List.all_cons, ih]
    unfold good
    cases goodL t.2.1 <;> cases goodK t.2.2 <;> simp
/-- _law_accepts -/
theorem accepts_ok (R : Fns) {nm : List Str} {at' : List (Str × Str)} (C : Case2 nm at') (s0 s1 : Stt) (h0 : Rdg s0) (h1 : Rdg s1) (rs : List Row) (hl : rs.length < 1000) :
    runF 3 13 (m_law_accepts R) [(s0, nmD nm), (s1, atD at'), (.shr, .tuple (rs.map Row.D))] = some (.kept (.bool (verdict at' (sortS nm) rs)), none) := by
  obtain ⟨d1, hd1⟩ : ∃ d1 : Option (Stt × PyData), d1 = some (s1, atD at') := ⟨_, rfl⟩
  obtain ⟨d0, hd0⟩ : ∃ d0 : Option (Stt × PyData), d0 = some (s0, nmD nm) := ⟨_, rfl⟩
  have fin : ∃ ρ', m_law_accepts R (aSt d0 d1 (some (.shr, .tuple (rs.map Row.D)))) = some (.ret (.kept (.bool (verdict at' (sortS nm) rs))), ρ') := by
    have l1 := X1_ok d0 d1 rs hl
    have n1 := ne_nil ((rs.filter fun r => !r.is3).map Row.D) (plain_map _ fun r _ => plain_row r)
    rw [emp_map, filter_all] at n1
    generalize (rs.filter fun r => !r.is3).map Row.D = B1 at l1 n1
    unfold verdict
    show ∃ ρ', sSeq (sIf (tOrM (tNotM (tV (xIsi "tuple" (xV 2)))) (tV (x2 X1 (xLst aN) opNe))) (sRet (xC (.bool false))) sPass) (sSeq (sIf (tOrM (tV (x2 X2 (xB oSorted (aC (xV 0) aN)) opNe)) (tV (x2 X3 (xLst aN) opNe))) (sRet (xC (.bool false))) sPass) (sSeq (sIf (tV (x2 X4 (xLst aN) opNe)) (sRet (xC (.bool false))) sPass) (sSeq (sSet 3 (xB oDictP (aC X5 aN))) (sSeq (sFor (iDict .keys 3) (gN 4) eB) (sRet (xC (.bool true))))))) _ = _
    cases ha : all3 rs with
    | none =>
      rw [all3_none ha] at n1
      generalize X1 = Z1 at *
      unfold aSt at *
      simp [isSub, tyD, l1, n1]
    | some ts =>
      obtain rfl := all3_some ha
      rw [all3_all] at n1
      have hl' : ts.length < 1000 := by rwa [List.length_map] at hl
      have l2 := X2_ok d0 d1 ts hl'
      have l3 := X3_ok d0 d1 ts hl'
      have l4 := X4_ok d0 d1 ts hl'
      have n3 := ne_nil ((ts.filter fun t => !goodL t.2.1).map t3D) (plain_map _ fun r _ => plain_t3 r)
      have n4 := ne_nil ((ts.filter fun t => !goodK t.2.2).map t3D) (plain_map _ fun r _ => plain_t3 r)
      rw [emp_map, filter_all] at n3 n4
      have so := sorted_ok C.nl
      have ne := ne_strs (ts.map (·.1)) (sortS nm)
      have em : (ts.map Row.three).map Row.D = ts.map t3D := by rw [List.map_map]; rfl
      have l5 := X5_ok d0 d1 ts hl'
      rw [em] at l1 ⊢
      dsimp only
      generalize (ts.filter fun t => !goodL t.2.1).map t3D = B3 at l3 n3
      generalize (ts.filter fun t => !goodK t.2.2).map t3D = B4 at l4 n4
      generalize X1 = Z1 at *
      generalize X2 = Z2 at *
      generalize X3 = Z3 at *
      generalize X4 = Z4 at *
      generalize X5 = Z5 at *
      by_cases hn : ts.map (·.1) = sortS nm
      · have nd : (ts.map (·.1)).Nodup := hn ▸ sort_nodup C.nd
        rw [decide_eq_true hn] at ne ⊢
        rw [all_good]
        cases hL : ts.all fun t => goodL t.2.1 with
        | false =>
          rw [hL] at n3
          unfold aSt at *
          subst hd0
          rcases h0 with rfl | rfl <;> simp [-List.map_map, isSub, tyD, l1, n1, l2, so, ne, l3, n3]
        | true =>
          rw [hL] at n3
          cases hK : ts.all fun t => goodK t.2.2 with
          | false =>
            rw [hK] at n4
            unfold aSt at *
            subst hd0
            rcases h0 with rfl | rfl <;> simp [-List.map_map, isSub, tyD, l1, n1, l2, so, ne, l3, n3, l4, n4]
          | true =>
            rw [hK] at n4
            have hg : ts.all good = true := by rw [all_good, hL, hK]; rfl
            have l5 := l5 hg
            have gk : (ts.map ent).map (·.1) = sortS nm := by rw [List.map_map]; exact hn
            have dp := dictP_ok (ts.map ent) (by rw [gk]; exact sort_nodup C.nd)
            have ew : (ts.map ent).map (fun e => PyData.tuple [.str e.1, labD e.2]) = ts.map fun t => PyData.tuple [.str t.1, labD (ent t).2] := by rw [List.map_map]; rfl
            rw [ew] at dp
            generalize (ts.map fun t => PyData.tuple [.str t.1, labD (ent t).2]) = B5 at l5 dp
            have el := eLoop d0 (some (.shr, .tuple (ts.map t3D))) s1 h1 at' (ts.map ent) C.al (fun n o ho => look_key (gk ▸ C.ones ho)) (by rw [gk]; exact sort_nodup C.nd) (fun e he => by
              obtain ⟨t, ht, rfl⟩ := List.mem_map.mp he
              have := List.all_eq_true.mp hL t ht
              obtain ⟨n, l, k⟩ := t
              cases l with
              | inl w => exact this
              | inr w => exact absurd this (by simp [goodL]))
            rw [← hd1] at el
            have sel : selD .keys (fdk (ts.map ent)) = (ts.map ent).map fun e => .str e.1 := by simp [selD, fdk, List.map_map]
            generalize eB = ZB at *
            unfold eSt at el
            unfold aSt at *
            generalize (ts.map ent).map (fun e => PyData.str e.1) = K5 at el sel
            subst hd0
            rcases el with ⟨ho, ρ', el⟩ | ⟨ho, ρ', el⟩
            · rw [ho]
              rcases h0 with rfl | rfl <;> simp [-List.map_map, isSub, tyD, l1, n1, l2, so, ne, l3, n3, l4, n4, l5, dp, sel, el]
            · rw [ho]
              rcases h0 with rfl | rfl <;> simp [-List.map_map, isSub, tyD, l1, n1, l2, so, ne, l3, n3, l4, n4, l5, dp, sel, el]
      · rw [decide_eq_false hn] at ne ⊢
        unfold aSt at *
        subst hd0
        rcases h0 with rfl | rfl <;> simp [-List.map_map, isSub, tyD, l1, n1, l2, so, ne]
  obtain ⟨ρ', fin⟩ := fin
  subst hd0 hd1
  refine run_ret ?_ ?_ fin rfl
  · rcases h0 with rfl | rfl <;> rcases h1 with rfl | rfl <;> rfl
  · rcases h0 with rfl | rfl <;> rfl
end PyK53

namespace PyK53
open PySem PySem.Spec L2 PyI
/-! ### the labels of two tellings -/
theorem setO_congr {g h : Fd} {os : List Str} (e : Str × Int) (H : ∀ o ∈ os, look' g o = look' h o) : setO g os e = setO h os e := by
  have hl : ∀ o ∈ os, lab g o = lab h o := fun o ho => congrArg Prod.fst (H o ho)
  have hr : ∀ o ∈ os, rk g o = rk h o := fun o ho => congrArg Prod.snd (H o ho)
  have ca : ∀ (p q : Str → Bool), (∀ o ∈ os, p o = q o) → os.all p = os.all q := fun p q z => by
    rw [Bool.eq_iff_iff, List.all_eq_true, List.all_eq_true]
    exact ⟨fun y x hx => z x hx ▸ y x hx, fun y x hx => (z x hx).symm ▸ y x hx⟩
  have cy : ∀ (p q : Str → Bool), (∀ o ∈ os, p o = q o) → os.any p = os.any q := fun p q z => by
    rw [Bool.eq_iff_iff, List.any_eq_true, List.any_eq_true]
    exact ⟨fun ⟨x, hx, y⟩ => ⟨x, hx, z x hx ▸ y⟩, fun ⟨x, hx, y⟩ => ⟨x, hx, (z x hx).symm ▸ y⟩⟩
  unfold setO
  rw [ca _ (fun o => lab h o == "falls" && decide (rk h o < e.2)) fun o ho => by rw [hl o ho, hr o ho], cy (fun o => lab g o == "stands" && decide (rk g o < e.2)) (fun o => lab h o == "stands" && decide (rk h o < e.2)) fun o ho => by rw [hl o ho, hr o ho], cy (fun o => lab g o == "stands") (fun o => lab h o == "stands") fun o ho => by rw [hl o ho], cy (fun o => lab g o == "open") (fun o => lab h o == "open") fun o ho => by rw [hl o ho]]
structure Ok (at' : List (Str × Str)) (S : List Str) (h : Fd) : Prop where
  word : ∀ n ∈ S, lab h n = "stands" ∨ lab h n = "falls" ∨ lab h n = "open"
  set : ∀ n ∈ S, setO h (ones at' n) (lab h n, rk h n) = true
section
variable {at' : List (Str × Str)} {S : List Str} {h h' : Fd}
theorem Ok.st (o : Ok at' S h) {n : Str} (hn : n ∈ S) (e : lab h n = "stands") : 0 ≤ rk h n ∧ ∀ x ∈ ones at' n, lab h x = "falls" ∧ rk h x < rk h n := by
  have := o.set n hn
  unfold setO at this
  rw [if_pos e] at this
  simp only [Bool.and_eq_true, decide_eq_true_eq, List.all_eq_true, beq_iff_eq] at this
  exact this
theorem Ok.fa (o : Ok at' S h) {n : Str} (hn : n ∈ S) (e : lab h n = "falls") : 0 ≤ rk h n ∧ ∃ x ∈ ones at' n, lab h x = "stands" ∧ rk h x < rk h n := by
  have := o.set n hn
  unfold setO at this
  rw [if_neg (by dsimp only; rw [e]; decide), if_pos e] at this
  simp only [Bool.and_eq_true, decide_eq_true_eq, List.any_eq_true, beq_iff_eq] at this
  exact this
theorem Ok.op (o : Ok at' S h) {n : Str} (hn : n ∈ S) (e : lab h n = "open") : (∀ x ∈ ones at' n, lab h x ≠ "stands") ∧ ∃ x ∈ ones at' n, lab h x = "open" := by
  have := o.set n hn
  unfold setO at this
  rw [if_neg (by dsimp only; rw [e]; decide), if_neg (by dsimp only; rw [e]; decide)] at this
  rw [Bool.and_eq_true, Bool.and_eq_true, Bool.not_eq_true', List.any_eq_false, List.any_eq_true] at this
  obtain ⟨_, a, x, hx, b⟩ := this
  exact ⟨fun x hx z => a x hx (by rw [z]; decide), x, hx, eq_of_beq b⟩
theorem sf_ne : ("stands" : Str) ≠ "falls" := by decide
theorem so_ne : ("stands" : Str) ≠ "open" := by decide
theorem fo_ne : ("falls" : Str) ≠ "open" := by decide
theorem same_half (o : Ok at' S h) (o' : Ok at' S h') (ins : ∀ n, ∀ x ∈ ones at' n, x ∈ S) : ∀ (k : Nat) (n : Str), n ∈ S → rk h n < k → (lab h n = "stands" → lab h' n = "stands") ∧ (lab h n = "falls" → lab h' n = "falls")
  | 0, n, hn, hk => ⟨fun e => by have := (o.st hn e).1; omega, fun e => by have := (o.fa hn e).1; omega⟩
  | k + 1, n, hn, hk => by
    refine ⟨fun e => ?_, fun e => ?_⟩
    · have all : ∀ x ∈ ones at' n, lab h' x = "falls" := fun x hx => by
        have := (o.st hn e).2 x hx
        exact (same_half o o' ins k x (ins n x hx) (by omega)).2 this.1
      rcases o'.word n hn with w | w | w
      · exact w
      · obtain ⟨_, x, hx, e1, _⟩ := o'.fa hn w
        exact absurd (e1.symm.trans (all x hx)) sf_ne
      · obtain ⟨_, x, hx, e1⟩ := o'.op hn w
        exact absurd ((all x hx).symm.trans e1) fo_ne
    · obtain ⟨_, x, hx, e1, e2⟩ := o.fa hn e
      have st := (same_half o o' ins k x (ins n x hx) (by omega)).1 e1
      rcases o'.word n hn with w | w | w
      · exact absurd (st.symm.trans ((o'.st hn w).2 x hx).1) sf_ne
      · exact w
      · exact absurd st ((o'.op hn w).1 x hx)
theorem same_labels (o : Ok at' S h) (o' : Ok at' S h') (ins : ∀ n, ∀ x ∈ ones at' n, x ∈ S) (n : Str) (hn : n ∈ S) : lab h n = lab h' n := by
  have a := same_half o o' ins ((rk h n).toNat + 1) n hn (by omega)
  have b := same_half o' o ins ((rk h' n).toNat + 1) n hn (by omega)
  rcases o.word n hn with w | w | w
  · rw [w, a.1 w]
  · rw [w, a.2 w]
  · rcases o'.word n hn with w' | w' | w'
    · exact (b.1 w').trans w'.symm
    · exact (b.2 w').trans w'.symm
    · rw [w, w']
end
/-! ### the rounds' telling is such a one -/
theorem look'_some {f : Fd} {x : Str} {v : Str × Int} (h : look f x = some v) : lab f x = v.1 ∧ rk f x = v.2 := by
  unfold lab rk
  rw [h]; exact ⟨rfl, rfl⟩
theorem look_keep {f g : Fd} {x : Str} {v : Str × Int} (h : look f x = some v) : look (f ++ g) x = some v := by rw [look_app, h]; rfl
structure Inv (at' : List (Str × Str)) (r : Nat) (f : Fd) : Prop where
  rank : ∀ x v, look f x = some v → 0 ≤ v.2 ∧ v.2 < r
  st : ∀ n v, look f n = some v → v.1 = "stands" → ∀ x ∈ ones at' n, lab f x = "falls" ∧ rk f x < v.2
  fa : ∀ n v, look f n = some v → v.1 = "falls" → ∃ x ∈ ones at' n, lab f x = "stands" ∧ rk f x < v.2
theorem lab_some {f : Fd} {x : Str} (h : lab f x ≠ "open") : ∃ v, look f x = some v := by
  unfold lab at h
  cases e : look f x with
  | none => rw [e] at h; exact absurd rfl h
  | some v => exact ⟨v, rfl⟩
theorem inv_Fs (at' : List (Str × Str)) (S : List Str) : ∀ r, Inv at' r (Fs at' S r)
  | 0 => ⟨fun _ _ h => (nomatch h), fun _ _ h => (nomatch h), fun _ _ h => (nomatch h)⟩
  | r + 1 => by
    have I := inv_Fs at' S r
    have keepL : ∀ x, lab (Fs at' S r) x ≠ "open" → lab (Fs at' S (r + 1)) x = lab (Fs at' S r) x ∧ rk (Fs at' S (r + 1)) x = rk (Fs at' S r) x := fun x hx => by
      obtain ⟨v, hv⟩ := lab_some hx
      have a := look'_some hv
      have b := look'_some (look_keep (g := round at' (Fs at' S r) r S) hv)
      exact ⟨b.1.trans a.1.symm, b.2.trans a.2.symm⟩
    have cases' : ∀ x v, look (Fs at' S (r + 1)) x = some v → look (Fs at' S r) x = some v ∨ (look (Fs at' S r) x = none ∧ newLab at' (Fs at' S r) x = some v.1 ∧ v.2 = r) := fun x v hv => by
      have hv' : look (Fs at' S r ++ round at' (Fs at' S r) r S) x = some v := hv
      rw [look_app] at hv'
      cases e : look (Fs at' S r) x with
      | some u => rw [e] at hv'; exact .inl hv'
      | none =>
        rw [e] at hv'
        have := round_keys (look_mem (show look (round at' (Fs at' S r) r S) x = some v from hv'))
        exact .inr ⟨rfl, this.2.1, this.2.2⟩
    have below : ∀ x, lab (Fs at' S r) x ≠ "open" → rk (Fs at' S r) x < r := fun x hx => by
      obtain ⟨v, hv⟩ := lab_some hx
      rw [(look'_some hv).2]
      exact (I.rank x v hv).2
    refine ⟨fun x v hv => ?_, fun n v hv e x hx => ?_, fun n v hv e => ?_⟩
    · rcases cases' x v hv with h | ⟨_, _, h⟩
      · have := I.rank x v h; omega
      · omega
    · rcases cases' n v hv with h | ⟨h0, h1, h2⟩
      · have := I.st n v h e x hx
        have k := keepL x (by rw [this.1]; decide)
        rw [k.1, k.2]; exact this
      · have hall : lab (Fs at' S r) x = "falls" := by
          unfold newLab at h1
          rw [h0] at h1
          simp only [Option.isSome_none, Bool.false_eq_true, if_false] at h1
          split at h1
          · exact absurd ((Option.some.inj h1).trans e).symm sf_ne
          · split at h1
            · rename_i z
              exact eq_of_beq (List.all_eq_true.mp z x hx)
            · cases h1
        have k := keepL x (by rw [hall]; decide)
        rw [k.1, k.2]
        exact ⟨hall, by rw [h2]; exact below x (by rw [hall]; decide)⟩
    · rcases cases' n v hv with h | ⟨h0, h1, h2⟩
      · obtain ⟨x, hx, a, b⟩ := I.fa n v h e
        have k := keepL x (by rw [a]; decide)
        exact ⟨x, hx, k.1.trans a, by rw [k.2]; exact b⟩
      · unfold newLab at h1
        rw [h0] at h1
        simp only [Option.isSome_none, Bool.false_eq_true, if_false] at h1
        split at h1
        · rename_i z
          obtain ⟨x, hx, a⟩ := List.any_eq_true.mp z
          have a := eq_of_beq a
          have k := keepL x (by rw [a]; decide)
          exact ⟨x, hx, k.1.trans a, by rw [k.2, h2]; exact below x (by rw [a]; decide)⟩
        · split at h1
          · exact absurd ((Option.some.inj h1).trans e) sf_ne
          · cases h1
theorem stop_new {at' : List (Str × Str)} {S : List Str} {f : Fd} {r : Int} (h : round at' f r S = []) : ∀ n ∈ S, newLab at' f n = none := by
  induction S with
  | nil => intro n hn; cases hn
  | cons a S ih =>
    intro n hn
    unfold round at h
    rw [List.append_eq_nil_iff] at h
    rcases List.mem_cons.mp hn with rfl | hn
    · have := h.1
      unfold entry at this
      cases e : newLab at' f n with
      | none => rfl
      | some l => rw [e] at this; cases this
    · exact ih h.2 n hn
theorem ok_Fs {at' : List (Str × Str)} {S : List Str} {m : Nat} (hm : Stop at' S m) : Ok at' S (Fs at' S m) := by
  have G := Fs_good at' S m
  have I := inv_Fs at' S m
  refine ⟨fun n _ => lab_word G n, fun n hn => ?_⟩
  cases e : look (Fs at' S m) n with
  | some v =>
    have a := look'_some e
    rw [a.1, a.2]
    have hr := (I.rank n v e).1
    rcases G _ (look_mem e) with w | w
    · have w : v.1 = "stands" := w
      unfold setO
      rw [if_pos w]
      simp only [Bool.and_eq_true, decide_eq_true_eq, List.all_eq_true, beq_iff_eq]
      exact ⟨hr, I.st n v e w⟩
    · have w : v.1 = "falls" := w
      unfold setO
      rw [if_neg (by dsimp only; rw [w]; decide), if_pos w]
      simp only [Bool.and_eq_true, decide_eq_true_eq, List.any_eq_true, beq_iff_eq]
      exact ⟨hr, I.fa n v e w⟩
  | none =>
    have a : lab (Fs at' S m) n = "open" ∧ rk (Fs at' S m) n = -1 := by unfold lab rk; rw [e]; exact ⟨rfl, rfl⟩
    rw [a.1, a.2]
    have nl := stop_new hm n hn
    unfold newLab at nl
    rw [e] at nl
    simp only [Option.isSome_none, Bool.false_eq_true, if_false] at nl
    split at nl
    · cases nl
    · rename_i h1
      split at nl
      · cases nl
      · rename_i h2
        have h1' : ((ones at' n).any fun o => lab (Fs at' S m) o == "stands") = false := by simpa using h1
        have h2' : ((ones at' n).all fun o => lab (Fs at' S m) o == "falls") = false := by simpa using h2
        unfold setO
        rw [if_neg (by decide), if_neg (by decide), h1', no_open _ G _ h1', h2']
        rfl
/-! ### verdicts -/
def dueT (f : Fd) (S : List Str) : List T3 := S.map fun n => (n, .inl (look' f n).1, .inl (look' f n).2)
theorem toldD_rows (f : Fd) (S : List Str) : toldD f S = .tuple (((dueT f S).map Row.three).map Row.D) := by
  unfold toldD dueT
  rw [List.map_map, List.map_map]
  rfl
theorem look_dueT {f : Fd} {S : List Str} {x : Str} (hx : x ∈ S) : look ((dueT f S).map ent) x = some (look' f x) := by
  induction S with
  | nil => cases hx
  | cons a S ih =>
    show look ((a, look' f a) :: (dueT f S).map ent) x = _
    rw [look_cons]
    by_cases e : a = x
    · subst e; rw [if_pos rfl]
    · rw [if_neg e]
      exact ih (List.mem_of_ne_of_mem (Ne.symm e) hx)
theorem all3_map (ts : List T3) : all3 (ts.map Row.three) = some ts := by
  induction ts with
  | nil => rfl
  | cons t ts ih =>
    rw [List.map_cons]
    unfold all3
    rw [ih]; rfl
theorem verdict_due {at' : List (Str × Str)} {S : List Str} {m : Nat} (hm : Stop at' S m) (ins : ∀ n, ∀ x ∈ ones at' n, x ∈ S) : verdict at' S ((dueT (Fs at' S m) S).map Row.three) = true := by
  have O := ok_Fs hm
  unfold verdict
  rw [all3_map]
  dsimp only
  rw [Bool.and_eq_true, Bool.and_eq_true, decide_eq_true_eq]
  refine ⟨?_, ?_, ?_⟩
  · unfold dueT
    rw [List.map_map]
    exact List.map_id'' (fun _ => rfl) _
  · rw [List.all_eq_true]
    intro t ht
    obtain ⟨n, hn, rfl⟩ := List.mem_map.mp ht
    have w : (look' (Fs at' S m) n).1 = "stands" ∨ (look' (Fs at' S m) n).1 = "falls" ∨ (look' (Fs at' S m) n).1 = "open" := O.word n hn
    unfold good goodL goodK
    rcases w with w | w | w <;> simp [w]
  · unfold okAll
    rw [List.all_eq_true]
    intro e he
    obtain ⟨t, ht, rfl⟩ := List.mem_map.mp he
    obtain ⟨n, hn, rfl⟩ := List.mem_map.mp ht
    show setO ((dueT (Fs at' S m) S).map ent) (ones at' n) (look' (Fs at' S m) n) = true
    rw [setO_congr (h := Fs at' S m) _ fun o ho => by unfold look'; rw [look_dueT (ins n o ho)]; rfl]
    exact O.set n hn
theorem verdict_ok {at' : List (Str × Str)} {S : List Str} {rs : List Row} (nd : S.Nodup) (h : verdict at' S rs = true) : ∃ ts : List T3, rs = ts.map Row.three ∧ ts.map (·.1) = S ∧ ts.all good = true ∧ Ok at' S (ts.map ent) := by
  unfold verdict at h
  cases ha : all3 rs with
  | none => rw [ha] at h; cases h
  | some ts =>
    rw [ha] at h
    dsimp only at h
    rw [Bool.and_eq_true, Bool.and_eq_true, decide_eq_true_eq] at h
    obtain ⟨h1, h2, h3⟩ := h
    have gk : (ts.map ent).map (·.1) = S := by rw [List.map_map]; exact h1
    have mem : ∀ n ∈ S, ∃ e ∈ ts.map ent, e.1 = n ∧ look (ts.map ent) n = some e.2 := fun n hn => by
      rw [← gk] at hn
      obtain ⟨e, he, rfl⟩ := List.mem_map.mp hn
      exact ⟨e, he, rfl, look_in (gk ▸ nd) he⟩
    refine ⟨ts, all3_some ha, h1, h2, ⟨fun n hn => ?_, fun n hn => ?_⟩⟩
    · obtain ⟨e, he, rfl, hl⟩ := mem n hn
      rw [(look'_some hl).1]
      obtain ⟨t, ht, rfl⟩ := List.mem_map.mp he
      have := List.all_eq_true.mp h2 t ht
      obtain ⟨n, l, k⟩ := t
      unfold good at this
      rw [Bool.and_eq_true] at this
      cases l with
      | inr w => exact absurd this.1 (by simp [goodL])
      | inl w =>
        have := this.1
        unfold goodL at this
        simp at this
        rcases this with (z | z) | z
        · exact .inl z
        · exact .inr (.inl z)
        · exact .inr (.inr z)
    · obtain ⟨e, he, rfl, hl⟩ := mem n hn
      rw [(look'_some hl).1, (look'_some hl).2]
      exact List.all_eq_true.mp h3 e he
end PyK53

namespace PyK53
open PySem PySem.Spec L2 PyI
/-! ### what is asked for -/
def Rows (l : List PyData) : Prop := ∀ x ∈ l, ∃ r : Row, x = r.D
def Ask (d : PyData) : Prop := isSub (tyD d) "tuple" = false ∨ ∃ rs : List Row, d = .tuple (rs.map Row.D) ∧ rs.length < 1000
theorem Rows.list {l : List PyData} (h : Rows l) : ∃ rs : List Row, l = rs.map Row.D := by
  induction l with
  | nil => exact ⟨[], rfl⟩
  | cons x l ih =>
    obtain ⟨r, rfl⟩ := h x List.mem_cons_self
    obtain ⟨rs, e⟩ := ih fun y hy => h y (List.mem_cons_of_mem _ hy)
    exact ⟨r :: rs, by rw [e]; rfl⟩
theorem Rows.ask {l : List PyData} (h : Rows l) (hl : l.length < 1000) : Ask (.tuple l) := by
  obtain ⟨rs, rfl⟩ := h.list
  exact .inr ⟨rs, rfl, by rwa [List.length_map] at hl⟩
theorem Rows.cut {l : List PyData} (h : Rows l) (lo hi : Option Int) : Rows (cutD l lo hi) := fun x hx => h x (List.mem_of_mem_drop (List.mem_of_mem_take hx))
theorem Rows.app {l m : List PyData} (h : Rows l) (h' : Rows m) : Rows (l ++ m) := fun x hx => (List.mem_append.mp hx).elim (h x) (h' x)
theorem Rows.rev {l : List PyData} (h : Rows l) : Rows l.reverse := fun x hx => h x (List.mem_reverse.mp hx)
theorem cut_len {α : Type} (l : List α) (lo hi : Option Int) : (cutD l lo hi).length ≤ l.length := by
  unfold cutD
  rw [List.length_take, List.length_drop]
  omega
theorem Rows.of {S : List Str} {h : Str → Str × Int} : Rows (S.map fun n => rowD n (h n)) := fun x hx => by
  obtain ⟨n, _, rfl⟩ := List.mem_map.mp hx
  exact ⟨.three (n, .inl (h n).1, .inl (h n).2), rfl⟩
theorem opSl_t (l : List PyData) (lo hi : Option Int) : opSl (.tuple l) lo hi = some (.tuple (cutD l lo hi)) := rfl
theorem opRev_t (l : List PyData) : opRev (.tuple l) = some (.tuple l.reverse) := rfl
theorem add_tt (a b : List PyData) (h : a.length + b.length ≤ 1000) : opAdd (.tuple a) (.tuple b) = some (.tuple (a ++ b)) := if_pos (Nat.le_trans h (by rw [sizeLine_eq]; decide))
theorem add_ll (a b : List PyData) (h : a.length + b.length ≤ 1000) : opAdd (.list a) (.list b) = some (.list (a ++ b)) := if_pos (Nat.le_trans h (by rw [sizeLine_eq]; decide))
theorem app_ok (a : List PyData) (x : PyData) (h : a.length ≤ 900) : mAppend (.list a) [x] = some (.list (a ++ [x]), .none) := if_pos (Nat.lt_of_le_of_lt h (by decide))
def uSt (d0 d1 d2 d3 d4 d5 d6 d7 d8 d9 : Option (Stt × PyData)) : Rho := [d0, d1, d2, d3, d4, d5, d6, d7, d8, d9]
abbrev told (S : List Str) (h : Str → Str × Int) : PyData := .tuple (S.map fun n => rowD n (h n))
/-- a comprehension over the sorted names -/
theorem lcN (d0 d3 : Option (Stt × PyData)) (s1 : Stt) (h1 : Rdg s1) {nm : List Str} (hl : nm.length < 64) (T : PyData) (w : Str) (k : Int) (fe : Mo Rs) (he : ∀ n : Str, fe [d0, some (s1, nmD nm), some (.shr, T), d3, none, some (.shr, .str n), none, none, none, none] = some (.kept (rowD n (w, k)), [d0, some (s1, nmD nm), some (.shr, T), d3, none, some (.shr, .str n), none, none, none, none])) :
    xLc [5] (iS (xB oSorted (aC (xV 1) aN))) (gN 5) tYesM fe [d0, some (s1, nmD nm), some (.shr, T), d3, none, none, none, none, none, none] = some (.fresh (.list ((sortS nm).map fun n => rowD n (w, k))), [d0, some (s1, nmD nm), some (.shr, T), d3, none, none, none, none, none, none]) := by
  have es := sorted_ok hl
  have := lc_evalT (vs := [5]) (fi := iS (xB oSorted (aC (xV 1) aN))) (g := gN 5) (t := tYesM) (fe := fe) (ρ := [d0, some (s1, nmD nm), some (.shr, T), d3, none, none, none, none, none, none]) (ρ1 := [d0, some (s1, nmD nm), some (.shr, T), d3, none, none, none, none, none, none]) (l := sortS nm) (e := .str)
    (fun _ => true) (fun n => rowD n (w, k)) (by rcases h1 with rfl | rfl <;> simp [es]) (by rw [sort_len]; exact Nat.le_trans (Nat.le_of_lt hl) (by decide)) (fun n hn => ?_)
  · rw [this, List.filter_eq_self.mpr (fun _ _ => rfl)]
    simp [restE, wipeE]
  · have e := he n
    generalize hq : ([d0, some (s1, nmD nm), some (.shr, T), d3, none, some (.shr, .str n), none, none, none, none] : Rho) = q at e
    exact ⟨q, by simp [wipeE, ← hq], q, by simp, fun h => (by cases h), fun _ => ⟨_, q, q, e, by simp, by simp [wipeE, ← hq]⟩⟩
/-- .. over the told rows -/
theorem lcT (d0 d1 d3 : Option (Stt × PyData)) (S : List Str) (hl : S.length < 64) (h : Str → Str × Int) (f : Int → Int) (fe : Mo Rs) (he : ∀ n : Str, fe [d0, d1, some (.shr, told S h), d3, none, some (.shr, .str n), some (.shr, .str (h n).1), some (.shr, .int (h n).2), none, none] = some (.kept (rowD n ((h n).1, f (h n).2)), [d0, d1, some (.shr, told S h), d3, none, some (.shr, .str n), some (.shr, .str (h n).1), some (.shr, .int (h n).2), none, none])) :
    xLc [5, 6, 7] (iS (xV 2)) (gT (gsC (gN 5) (gsC (gN 6) (gsC (gN 7) gsN)))) tYesM fe [d0, d1, some (.shr, told S h), d3, none, none, none, none, none, none] = some (.fresh (.list (S.map fun n => rowD n ((h n).1, f (h n).2))), [d0, d1, some (.shr, told S h), d3, none, none, none, none, none, none]) := by
  have := lc_evalT (vs := [5, 6, 7]) (fi := iS (xV 2)) (g := gT (gsC (gN 5) (gsC (gN 6) (gsC (gN 7) gsN)))) (t := tYesM) (fe := fe) (ρ := [d0, d1, some (.shr, told S h), d3, none, none, none, none, none, none]) (ρ1 := [d0, d1, some (.shr, told S h), d3, none, none, none, none, none, none]) (l := S) (e := fun n => rowD n (h n))
    (fun _ => true) (fun n => rowD n ((h n).1, f (h n).2)) (by simp) (Nat.le_trans (Nat.le_of_lt hl) (by decide)) (fun n hn => ?_)
  · rw [this, List.filter_eq_self.mpr (fun _ _ => rfl)]
    simp [restE, wipeE]
  · have e := he n
    generalize hq : ([d0, d1, some (.shr, told S h), d3, none, some (.shr, .str n), some (.shr, .str (h n).1), some (.shr, .int (h n).2), none, none] : Rho) = q at e
    exact ⟨q, by simp [wipeE, ← hq, rowD], q, by simp, fun h => (by cases h), fun _ => ⟨_, q, q, e, by simp, by simp [wipeE, ← hq]⟩⟩
def u1 : Mo Fl := sSet 3 (xLst (aC (xC .none) (aC (xB oList (aC (xV 2) aN)) (aC (x1 opRev (xV 2)) (aC (xSl (xV 2) (oS (xC (.int 1))) oN) (aC (x2 (xV 2) (xSl (xV 2) oN (oS (xC (.int 1)))) opAdd) (aC (xC (.str "told")) (aC xDict0 (aC (xTup aN) (aC (xB oTuple (aC (xLc [5] (iS (xB oSorted (aC (xV 1) aN))) (gN 5) tYesM (xTup (aC (xV 5) (aC (xC (.str "open")) (aC (x1 opNeg (xC (.int 1))) aN))))) aN)) aN))))))))))
theorem u1_ok (d0 : Option (Stt × PyData)) (s1 : Stt) (h1 : Rdg s1) {nm : List Str} (hl : nm.length < 64) (h : Str → Str × Int) :
    ∃ L, u1 [d0, some (s1, nmD nm), some (.shr, told (sortS nm) h), none, none, none, none, none, none, none] = some (.nx, [d0, some (s1, nmD nm), some (.shr, told (sortS nm) h), some (.own, .list L), none, none, none, none, none, none]) ∧ L.length = 9 ∧ ∀ x ∈ L, Ask x := by
  have lc := lcN d0 none s1 h1 hl (told (sortS nm) h) "open" (-1) (xTup (aC (xV 5) (aC (xC (.str "open")) (aC (x1 opNeg (xC (.int 1))) aN)))) (fun n => by simp [rowD])
  have sl : (sortS nm).length < 64 := by rw [sort_len]; exact hl
  have ad := add_tt ((sortS nm).map fun n => rowD n (h n)) (cutD ((sortS nm).map fun n => rowD n (h n)) none (some 1)) (by have := cut_len ((sortS nm).map fun n => rowD n (h n)) none (some 1); rw [List.length_map] at this ⊢; omega)
  have R := Rows.of (S := sortS nm) (h := h)
  have R2 := Rows.of (S := sortS nm) (h := fun _ => ("open", -1))
  unfold u1
  have tl : ((sortS nm).map fun n => rowD n (h n)).length < 64 := by rw [List.length_map]; exact sl
  have tl2 : ((sortS nm).map fun n => rowD n ((fun _ => (("open" : Str), (-1 : Int))) n)).length < 64 := by rw [List.length_map]; exact sl
  generalize xLc [5] (iS (xB oSorted (aC (xV 1) aN))) (gN 5) tYesM (xTup (aC (xV 5) (aC (xC (.str "open")) (aC (x1 opNeg (xC (.int 1))) aN)))) = X at lc ⊢
  unfold told at *
  generalize ((sortS nm).map fun n => rowD n (h n)) = T at *
  generalize hT2 : ((sortS nm).map fun n => rowD n ((fun _ => (("open" : Str), (-1 : Int))) n)) = T2 at *
  refine ⟨[.none, .list T, .tuple T.reverse, .tuple (cutD T (some 1) none), .tuple (T ++ cutD T none (some 1)), .str "told", .dict [], .tuple [], .tuple T2], ?_, rfl, ?_⟩
  · simp [opRev_t, opSl_t, ad, lc]
    rw [e_dsbt _ _ (by simp)]
    simp
  · intro x hx
    simp only [List.mem_cons, List.not_mem_nil, or_false] at hx
    rcases hx with rfl | rfl | rfl | rfl | rfl | rfl | rfl | rfl | rfl
    · exact .inl rfl
    · exact .inl rfl
    · exact R.rev.ask (by rw [List.length_reverse]; omega)
    · exact (R.cut _ _).ask (by have := cut_len T (some 1) none; omega)
    · exact (R.app (R.cut _ _)).ask (by have := cut_len T none (some 1); rw [List.length_append]; omega)
    · exact .inl rfl
    · exact .inl rfl
    · exact .inr ⟨[], rfl, by decide⟩
    · exact R2.ask (by omega)
end PyK53

namespace PyK53
open PySem PySem.Spec L2 PyI
/-- a state of the draws -/
def Dr (ns : List Int) (d : PyData) : Prop := ∃ p v s, d = stD ns p v s ∧ 0 ≤ s ∧ s < 2147483647 ∧ 0 ≤ v
def NextOk (R : Fns) (ns : List Int) : Prop := ∀ d, Dr ns d → ∀ limit : Nat, 0 < limit → limit < 1000 → ∃ (out : Nat) (d' : PyData), out < limit ∧ Dr ns d' ∧ R.law_next [(.lent, d), (.shr, .int (limit : Int))] = some (.kept (.int (out : Int)), some d')
def AskL (l : List PyData) : Prop := ∀ x ∈ l, Ask x
theorem AskL.app {l m : List PyData} (h : AskL l) (h' : AskL m) : AskL (l ++ m) := fun x hx => (List.mem_append.mp hx).elim (h x) (h' x)
theorem AskL.one {x : PyData} (h : Ask x) : AskL [x] := fun y hy => by rw [List.mem_singleton] at hy; exact hy ▸ h
def u2 : Mo Fl := sSet 3 (x2 (xV 3) (xLst (aC (xB oTuple (aC (xLc [5] (iS (xB oSorted (aC (xV 1) aN))) (gN 5) tYesM (xTup (aC (xV 5) (aC (xC (.str "stands")) (aC (xC (.int 0)) aN))))) aN)) aN)) opAdd)
def u3 : Mo Fl := sDrop (xMut "list" 3 mAppend (aC (xB oTuple (aC (xLc [5, 6, 7] (iS (xV 2)) (gT (gsC (gN 5) (gsC (gN 6) (gsC (gN 7) gsN)))) tYesM (xTup (aC (xV 5) (aC (xV 6) (aC (xIf (tV (x2 (xV 7) (xC (.int 0)) opGe)) (x2 (xV 7) (xC (.int 3)) opAdd) (xV 7)) aN))))) aN)) aN))
def u4 : Mo Fl := sDrop (xMut "list" 3 mAppend (aC (xB oTuple (aC (xLc [5, 6, 7] (iS (xV 2)) (gT (gsC (gN 5) (gsC (gN 6) (gsC (gN 7) gsN)))) tYesM (xTup (aC (xV 5) (aC (xV 6) (aC (xIf (tV (x2 (xV 7) (xC (.int 0)) opGe)) (x2 (xC (.int 2)) (xV 7) opMul) (xV 7)) aN))))) aN)) aN))
theorem u2_ok (d0 : Option (Stt × PyData)) (s1 : Stt) (h1 : Rdg s1) {nm : List Str} (hl : nm.length < 64) (T : PyData) (L : List PyData) (hL : L.length ≤ 100) (aL : AskL L) :
    ∃ L', u2 [d0, some (s1, nmD nm), some (.shr, T), some (.own, .list L), none, none, none, none, none, none] = some (.nx, [d0, some (s1, nmD nm), some (.shr, T), some (.own, .list L'), none, none, none, none, none, none]) ∧ L'.length = L.length + 1 ∧ AskL L' := by
  have lc := lcN d0 (some (.own, .list L)) s1 h1 hl T "stands" 0 (xTup (aC (xV 5) (aC (xC (.str "stands")) (aC (xC (.int 0)) aN)))) (fun n => by simp [rowD])
  have R2 := Rows.of (S := sortS nm) (h := fun _ => ("stands", 0))
  have tl2 : ((sortS nm).map fun n => rowD n ((fun _ => (("stands" : Str), (0 : Int))) n)).length < 64 := by rw [List.length_map, sort_len]; exact hl
  unfold u2
  generalize xLc [5] (iS (xB oSorted (aC (xV 1) aN))) (gN 5) tYesM (xTup (aC (xV 5) (aC (xC (.str "stands")) (aC (xC (.int 0)) aN)))) = X at lc ⊢
  generalize hT2 : ((sortS nm).map fun n => rowD n ((fun _ => (("stands" : Str), (0 : Int))) n)) = T2 at *
  refine ⟨L ++ [.tuple T2], ?_, by simp, aL.app (.one (R2.ask (by omega)))⟩
  have ad := add_ll L [.tuple T2] (by simp; omega)
  simp [lc, ad]
theorem u3_ok (d0 d1 : Option (Stt × PyData)) (S : List Str) (hl : S.length < 64) (h : Str → Str × Int) (L : List PyData) (hL : L.length ≤ 100) (aL : AskL L) :
    ∃ L', u3 [d0, d1, some (.shr, told S h), some (.own, .list L), none, none, none, none, none, none] = some (.nx, [d0, d1, some (.shr, told S h), some (.own, .list L'), none, none, none, none, none, none]) ∧ L'.length = L.length + 1 ∧ AskL L' := by
  have lc := lcT d0 d1 (some (.own, .list L)) S hl h (fun k => if 0 ≤ k then k + 3 else k) (xTup (aC (xV 5) (aC (xV 6) (aC (xIf (tV (x2 (xV 7) (xC (.int 0)) opGe)) (x2 (xV 7) (xC (.int 3)) opAdd) (xV 7)) aN)))) (fun n => by
    by_cases c : 0 ≤ (h n).2
    · simp [c, rowD]
    · simp [c, rowD])
  have R2 := Rows.of (S := S) (h := fun n => ((h n).1, if 0 ≤ (h n).2 then (h n).2 + 3 else (h n).2))
  have tl2 : (S.map fun n => rowD n ((h n).1, if 0 ≤ (h n).2 then (h n).2 + 3 else (h n).2)).length < 64 := by rw [List.length_map]; exact hl
  unfold u3
  generalize xLc [5, 6, 7] (iS (xV 2)) (gT (gsC (gN 5) (gsC (gN 6) (gsC (gN 7) gsN)))) tYesM (xTup (aC (xV 5) (aC (xV 6) (aC (xIf (tV (x2 (xV 7) (xC (.int 0)) opGe)) (x2 (xV 7) (xC (.int 3)) opAdd) (xV 7)) aN)))) = X at lc ⊢
  generalize hT2 : (S.map fun n => rowD n ((h n).1, if 0 ≤ (h n).2 then (h n).2 + 3 else (h n).2)) = T2 at *
  refine ⟨L ++ [.tuple T2], ?_, by simp, aL.app (.one (R2.ask (by omega)))⟩
  have ap := app_ok L (.tuple T2) (by omega)
  simp [lc, ap]
theorem u4_ok (d0 d1 : Option (Stt × PyData)) (S : List Str) (hl : S.length < 64) (h : Str → Str × Int) (L : List PyData) (hL : L.length ≤ 100) (aL : AskL L) :
    ∃ L', u4 [d0, d1, some (.shr, told S h), some (.own, .list L), none, none, none, none, none, none] = some (.nx, [d0, d1, some (.shr, told S h), some (.own, .list L'), none, none, none, none, none, none]) ∧ L'.length = L.length + 1 ∧ AskL L' := by
  have lc := lcT d0 d1 (some (.own, .list L)) S hl h (fun k => if 0 ≤ k then 2 * k else k) (xTup (aC (xV 5) (aC (xV 6) (aC (xIf (tV (x2 (xV 7) (xC (.int 0)) opGe)) (x2 (xC (.int 2)) (xV 7) opMul) (xV 7)) aN)))) (fun n => by
    have m : opMul (.int 2) (.int (h n).2) = some (.int (2 * (h n).2)) := o_mul1 (.inl (by omega))
    by_cases c : 0 ≤ (h n).2
    · simp [c, rowD, m]
    · simp [c, rowD])
  have R2 := Rows.of (S := S) (h := fun n => ((h n).1, if 0 ≤ (h n).2 then 2 * (h n).2 else (h n).2))
  have tl2 : (S.map fun n => rowD n ((h n).1, if 0 ≤ (h n).2 then 2 * (h n).2 else (h n).2)).length < 64 := by rw [List.length_map]; exact hl
  unfold u4
  generalize xLc [5, 6, 7] (iS (xV 2)) (gT (gsC (gN 5) (gsC (gN 6) (gsC (gN 7) gsN)))) tYesM (xTup (aC (xV 5) (aC (xV 6) (aC (xIf (tV (x2 (xV 7) (xC (.int 0)) opGe)) (x2 (xC (.int 2)) (xV 7) opMul) (xV 7)) aN)))) = X at lc ⊢
  generalize hT2 : (S.map fun n => rowD n ((h n).1, if 0 ≤ (h n).2 then 2 * (h n).2 else (h n).2)) = T2 at *
  refine ⟨L ++ [.tuple T2], ?_, by simp, aL.app (.one (R2.ask (by omega)))⟩
  have ap := app_ok L (.tuple T2) (by omega)
  simp [lc, ap]
/-! ### one row is changed -/
def u5 (R : Fns) : Mo Fl := sSeq (sSet 4 (xCallL R.law_next (aC (xV 0) (aC (xB oLen (aC (xV 2) aN)) aN))))
    (sUnp (x2i (xV 2) (xV 4) opIx) (gT (gsC (gN 5) (gsC (gN 6) (gsC (gN 7) gsN)))))
def u6 (R : Fns) : Mo Fl := sSet 8 (xLst (aC (xTup (aC (xV 5) (aC (x2i (xLst (aC (xC (.str "stands")) (aC (xC (.str "falls")) (aC (xC (.str "open")) (aC (xC (.str "maybe")) aN))))) (xCallL R.law_next (aC (xV 0) (aC (xC (.int 4)) aN))) opIx) (aC (xV 7) aN)))) (aC (xTup (aC (xV 5) (aC (xV 6) (aC (x2 (xV 7) (xC (.int 1)) opAdd) aN)))) (aC (xTup (aC (xV 5) (aC (xV 6) (aC (x2 (xV 7) (xC (.int 1)) opSub) aN)))) aN))))
def u7 : Mo Fl := sSet 8 (x2 (xV 8) (xLst (aC (xTup (aC (xV 5) (aC (xV 6) (aC (x2 (xV 7) (xC (.int 1)) opEq) aN)))) (aC (xTup (aC (xV 5) (aC (xV 6) aN))) (aC (xTup (aC (xV 5) (aC (xLst (aC (xC (.str "stands")) aN)) (aC (xV 7) aN)))) aN)))) opAdd)
def u8 (R : Fns) : Mo Fl := sSet 8 (x2 (xV 8) (xLst (aC (xTup (aC (xC (.str "zz")) (aC (xV 6) (aC (xV 7) aN)))) (aC (xTup (aC (xV 5) (aC (xC (.str "open")) (aC (x1 opNeg (xC (.int 1))) aN)))) (aC (xTup (aC (xV 5) (aC (xC (.str "stands")) (aC (xCallL R.law_next (aC (xV 0) (aC (xC (.int 4)) aN))) aN)))) (aC (xTup (aC (xV 5) (aC (xC (.str "falls")) (aC (xCallL R.law_next (aC (xV 0) (aC (xC (.int 4)) aN))) aN)))) (aC (xC .none) aN)))))) opAdd)
def u9 : Mo Fl := sSet 3 (x2 (xV 3) (xLc [9] (iS (xV 8)) (gN 9) tYesM (x2 (x2 (xSl (xV 2) oN (oS (xV 4))) (xTup (aC (xV 9) aN)) opAdd) (xSl (xV 2) (oS (x2 (xV 4) (xC (.int 1)) opAdd)) oN) opAdd)) opAdd)
theorem u5_ok (R : Fns) {ns : List Int} (N : NextOk R ns) (d : PyData) (hd : Dr ns d) (d1 d3 : Option (Stt × PyData)) (S : List Str) (hS : 0 < S.length) (hl : S.length < 64) (h : Str → Str × Int) :
    ∃ d' k n, Dr ns d' ∧ u5 R [some (.lent, d), d1, some (.shr, told S h), d3, none, none, none, none, none, none] = some (.nx, [some (.lent, d'), d1, some (.shr, told S h), d3, some (.shr, .int k), some (.shr, .str n), some (.shr, .str (h n).1), some (.shr, .int (h n).2), none, none]) := by
  obtain ⟨o, d', ho, hd', e⟩ := N d hd S.length hS (by omega)
  have eg : (S.map fun n => rowD n (h n))[o]? = some (rowD S[o] (h S[o])) := by rw [List.getElem?_map, List.getElem?_eq_getElem ho]; rfl
  refine ⟨d', o, S[o], hd', ?_⟩
  unfold u5
  simp [e, List.getElem?_eq_getElem ho, rowD]
theorem u6_ok (R : Fns) {ns : List Int} (N : NextOk R ns) (d : PyData) (hd : Dr ns d) (d1 d2 d3 d4 : Option (Stt × PyData)) (n l : Str) (k : Int) :
    ∃ d' L, Dr ns d' ∧ Rows L ∧ L.length = 3 ∧ u6 R [some (.lent, d), d1, d2, d3, d4, some (.shr, .str n), some (.shr, .str l), some (.shr, .int k), none, none] = some (.nx, [some (.lent, d'), d1, d2, d3, d4, some (.shr, .str n), some (.shr, .str l), some (.shr, .int k), some (.own, .list L), none]) := by
  obtain ⟨o, d', ho, hd', e⟩ := N d hd 4 (by decide) (by decide)
  have hw : ∃ w : Str, ([.str "stands", .str "falls", .str "open", .str "maybe"] : List PyData)[o]? = some (.str w) := by
    match o, ho with
    | 0, _ => exact ⟨_, rfl⟩
    | 1, _ => exact ⟨_, rfl⟩
    | 2, _ => exact ⟨_, rfl⟩
    | 3, _ => exact ⟨_, rfl⟩
  obtain ⟨w, hw⟩ := hw
  refine ⟨d', [.tuple [.str n, .str w, .int k], .tuple [.str n, .str l, .int (k + 1)], .tuple [.str n, .str l, .int (k - 1)]], hd', ?_, rfl, ?_⟩
  · intro x hx
    simp only [List.mem_cons, List.not_mem_nil, or_false] at hx
    rcases hx with rfl | rfl | rfl
    · exact ⟨.three (n, .inl w, .inl k), rfl⟩
    · exact ⟨.three (n, .inl l, .inl (k + 1)), rfl⟩
    · exact ⟨.three (n, .inl l, .inl (k - 1)), rfl⟩
  · unfold u6
    have e' : R.law_next [(.lent, d), (.shr, .int 4)] = some (.kept (.int (o : Int)), some d') := e
    simp [e', hw]
theorem u7_ok (d0 d1 d2 d3 d4 : Option (Stt × PyData)) (n l : Str) (k : Int) (L : List PyData) (rL : Rows L) (hL : L.length ≤ 100) :
    ∃ L', Rows L' ∧ L'.length = L.length + 3 ∧ u7 [d0, d1, d2, d3, d4, some (.shr, .str n), some (.shr, .str l), some (.shr, .int k), some (.own, .list L), none] = some (.nx, [d0, d1, d2, d3, d4, some (.shr, .str n), some (.shr, .str l), some (.shr, .int k), some (.own, .list L'), none]) := by
  refine ⟨L ++ [.tuple [.str n, .str l, .bool (k == 1)], .tuple [.str n, .str l], .tuple [.str n, .list [.str "stands"], .int k]], rL.app ?_, by simp, ?_⟩
  · intro x hx
    simp only [List.mem_cons, List.not_mem_nil, or_false] at hx
    rcases hx with rfl | rfl | rfl
    · exact ⟨.three (n, .inl l, .inr (k == 1)), rfl⟩
    · exact ⟨.two n l, rfl⟩
    · exact ⟨.three (n, .inr "stands", .inl k), rfl⟩
  · have ad := add_ll L [.tuple [.str n, .str l, .bool (k == 1)], .tuple [.str n, .str l], .tuple [.str n, .list [.str "stands"], .int k]] (by simp; omega)
    unfold u7
    simp [ad]
theorem u8_ok (R : Fns) {ns : List Int} (N : NextOk R ns) (d : PyData) (hd : Dr ns d) (d1 d2 d3 d4 : Option (Stt × PyData)) (n l : Str) (k : Int) (L : List PyData) (rL : Rows L) (hL : L.length ≤ 100) :
    ∃ d' L', Dr ns d' ∧ Rows L' ∧ L'.length = L.length + 5 ∧ u8 R [some (.lent, d), d1, d2, d3, d4, some (.shr, .str n), some (.shr, .str l), some (.shr, .int k), some (.own, .list L), none] = some (.nx, [some (.lent, d'), d1, d2, d3, d4, some (.shr, .str n), some (.shr, .str l), some (.shr, .int k), some (.own, .list L'), none]) := by
  obtain ⟨o, d', ho, hd', e⟩ := N d hd 4 (by decide) (by decide)
  obtain ⟨o2, d2', ho2, hd2', e2⟩ := N d' hd' 4 (by decide) (by decide)
  have e' : R.law_next [(.lent, d), (.shr, .int 4)] = some (.kept (.int (o : Int)), some d') := e
  have e2' : R.law_next [(.lent, d'), (.shr, .int 4)] = some (.kept (.int (o2 : Int)), some d2') := e2
  refine ⟨d2', L ++ [.tuple [.str "zz", .str l, .int k], .tuple [.str n, .str "open", .int (-1)], .tuple [.str n, .str "stands", .int (o : Int)], .tuple [.str n, .str "falls", .int (o2 : Int)], .none], hd2', rL.app ?_, by simp, ?_⟩
  · intro x hx
    simp only [List.mem_cons, List.not_mem_nil, or_false] at hx
    rcases hx with rfl | rfl | rfl | rfl | rfl
    · exact ⟨.three ("zz", .inl l, .inl k), rfl⟩
    · exact ⟨.three (n, .inl "open", .inl (-1)), rfl⟩
    · exact ⟨.three (n, .inl "stands", .inl (o : Int)), rfl⟩
    · exact ⟨.three (n, .inl "falls", .inl (o2 : Int)), rfl⟩
    · exact ⟨.no, rfl⟩
  · have ad := add_ll L [.tuple [.str "zz", .str l, .int k], .tuple [.str n, .str "open", .int (-1)], .tuple [.str n, .str "stands", .int (o : Int)], .tuple [.str n, .str "falls", .int (o2 : Int)], .none] (by simp; omega)
    have e5 := fun ρ => e_dsbt [.tuple [.str "zz", .str l, .int k], .tuple [.str n, .str "open", .int (-1)], .tuple [.str n, .str "stands", .int (o : Int)], .tuple [.str n, .str "falls", .int (o2 : Int)], .none] ρ (by simp)
    unfold u8
    simp [e', e2', ad, e5]
theorem u9_ok (d0 d1 : Option (Stt × PyData)) (T L L8 : List PyData) (rT : Rows T) (hT : T.length ≤ 100) (r8 : Rows L8) (h8 : L8.length ≤ 100) (aL : AskL L) (hL : L.length ≤ 100) (k : Int) (d5 d6 d7 : Option (Stt × PyData)) :
    ∃ L' d8, AskL L' ∧ L'.length = L.length + L8.length ∧ u9 [d0, d1, some (.shr, .tuple T), some (.own, .list L), some (.shr, .int k), d5, d6, d7, some (.own, .list L8), none] = some (.nx, [d0, d1, some (.shr, .tuple T), some (.own, .list L'), some (.shr, .int k), d5, d6, d7, d8, none]) := by
  have c1 := cut_len T none (some k)
  have c2 := cut_len T (some (k + 1)) none
  have ad1 : ∀ x : PyData, opAdd (.tuple (cutD T none (some k))) (.tuple [x]) = some (.tuple (cutD T none (some k) ++ [x])) := fun x => add_tt _ _ (by simp; omega)
  have ad2 : ∀ x : PyData, opAdd (.tuple (cutD T none (some k) ++ [x])) (.tuple (cutD T (some (k + 1)) none)) = some (.tuple (cutD T none (some k) ++ [x] ++ cutD T (some (k + 1)) none)) := fun x => add_tt _ _ (by simp; omega)
  have lc := lc_eval (vs := [9]) (fi := iS (xV 8)) (g := gN 9) (t := tYesM) (fe := x2 (x2 (xSl (xV 2) oN (oS (xV 4))) (xTup (aC (xV 9) aN)) opAdd) (xSl (xV 2) (oS (x2 (xV 4) (xC (.int 1)) opAdd)) oN) opAdd) (ρ := [d0, d1, some (.shr, .tuple T), some (.own, .list L), some (.shr, .int k), d5, d6, d7, some (.own, .list L8), none]) (ρ1 := [d0, d1, some (.shr, .tuple T), some (.own, .list L), some (.shr, .int k), d5, d6, d7, some (.shr, .list L8), none]) (ds := L8)
    (fun _ => true) (fun x => .tuple (cutD T none (some k) ++ [x] ++ cutD T (some (k + 1)) none)) (by simp) (Nat.le_trans h8 (by decide)) (fun x hx => by
      obtain ⟨q, hq⟩ : ∃ q : Rho, q = [d0, d1, some (.shr, .tuple T), some (.own, .list L), some (.shr, .int k), d5, d6, d7, some (.shr, .list L8), some (.shr, x)] := ⟨_, rfl⟩
      exact ⟨q, by simp [wipeE, hq], q, by simp, fun h => (by cases h), fun _ => ⟨.kept (.tuple (cutD T none (some k) ++ [x] ++ cutD T (some (k + 1)) none)), q, q, by rw [hq]; simp [opSl_t, ad1, ad2], by simp, by simp [wipeE, hq]⟩⟩)
  rw [List.filter_eq_self.mpr (fun _ _ => rfl)] at lc
  unfold u9
  generalize xLc [9] (iS (xV 8)) (gN 9) tYesM (x2 (x2 (xSl (xV 2) oN (oS (xV 4))) (xTup (aC (xV 9) aN)) opAdd) (xSl (xV 2) (oS (x2 (xV 4) (xC (.int 1)) opAdd)) oN) opAdd) = X at lc ⊢
  have lM : (L8.map fun x => PyData.tuple (cutD T none (some k) ++ [x] ++ cutD T (some (k + 1)) none)).length = L8.length := List.length_map ..
  have aM : AskL (L8.map fun x => PyData.tuple (cutD T none (some k) ++ [x] ++ cutD T (some (k + 1)) none)) := fun y hy => by
    obtain ⟨x, hx, rfl⟩ := List.mem_map.mp hy
    exact ((((rT.cut _ _).app fun z hz => by rw [List.mem_singleton] at hz; exact hz ▸ r8 x hx).app (rT.cut _ _))).ask (by simp; omega)
  generalize (L8.map fun x => PyData.tuple (cutD T none (some k) ++ [x] ++ cutD T (some (k + 1)) none)) = M at *
  have ad := add_ll L M (by omega)
  refine ⟨L ++ M, some (.shr, .list L8), aL.app aM, by rw [List.length_append, lM], ?_⟩
  simp only [restE, wipeE] at lc
  simp [lc, ad]
theorem ne_nilT (l : List PyData) (h : PyData.plainAll l = true) : opNe (.tuple l) (.tuple []) = some (.bool (!l.isEmpty)) := by
  have : eqD (.tuple l) (.tuple []) = some l.isEmpty := by
    show (if (PyData.tuple l).plain = true ∧ (PyData.tuple []).plain = true ∧ min (PyData.tuple l).depth (PyData.tuple []).depth ≤ 60 then some ((PyData.tuple l).eqv (.tuple [])) else none) = _
    rw [if_pos ⟨by simp [PyData.plain, h], by simp [PyData.plain, PyData.plainAll], Nat.le_trans (Nat.min_le_right _ _) (by simp [PyData.depth, PyData.depthAll])⟩]
    cases l <;> simp [PyData.eqv, PyData.eqvAll]
  unfold opNe
  rw [this]; rfl
end PyK53

namespace PyK53
open PySem PySem.Spec L2 PyI
theorem seq_assoc (a b c : Mo Fl) : sSeq a (sSeq b c) = sSeq (sSeq a b) c := by
  funext ρ
  rw [e_sq, e_sq, e_sq]
  cases a ρ with
  | none => rfl
  | some p =>
    obtain ⟨fl, ρ1⟩ := p
    cases fl <;> rfl
def uIf (R : Fns) : Mo Fl := sIf (tV (x2 (xV 2) (xTup aN) opNe)) (sSeq (u5 R) (sSeq (u6 R) (sSeq u7 (sSeq (u8 R) u9)))) sPass
def uEnd (R : Fns) : Mo Fl := sRet (x2i (xV 3) (xCallL R.law_next (aC (xV 0) (aC (xB oLen (aC (xV 3) aN)) aN))) opIx)
theorem spoilt_eq (R : Fns) : m_law_spoilt R = sSeq u1 (sSeq u2 (sSeq u3 (sSeq u4 (sSeq (uIf R) (uEnd R))))) := by
  unfold uIf u5
  rw [← seq_assoc]
  rfl
theorem uIf_ok (R : Fns) {ns : List Int} (N : NextOk R ns) (d : PyData) (hd : Dr ns d) (d1 : Option (Stt × PyData)) (S : List Str) (hl : S.length < 64) (h : Str → Str × Int) (L : List PyData) (hL : L.length ≤ 50) (aL : AskL L) :
    ∃ d' L' x4 x5 x6 x7 x8, Dr ns d' ∧ AskL L' ∧ L.length ≤ L'.length ∧ L'.length ≤ 90 ∧ uIf R [some (.lent, d), d1, some (.shr, told S h), some (.own, .list L), none, none, none, none, none, none] = some (.nx, [some (.lent, d'), d1, some (.shr, told S h), some (.own, .list L'), x4, x5, x6, x7, x8, none]) := by
  have rT := Rows.of (S := S) (h := h)
  have ne := ne_nilT (S.map fun n => rowD n (h n)) (plain_map _ fun n _ => by simp [rowD, PyData.plain, PyData.plainAll])
  rw [emp_map] at ne
  by_cases hS : 0 < S.length
  · have he : S.isEmpty = false := by cases S; (simp at hS); rfl
    rw [he] at ne
    obtain ⟨d5, k, n, hd5, e5⟩ := u5_ok R N d hd d1 (some (.own, .list L)) S hS hl h
    obtain ⟨d6, L6, hd6, r6, n6, e6⟩ := u6_ok R N d5 hd5 d1 (some (.shr, told S h)) (some (.own, .list L)) (some (.shr, .int k)) n (h n).1 (h n).2
    obtain ⟨L7, r7, n7, e7⟩ := u7_ok (some (.lent, d6)) d1 (some (.shr, told S h)) (some (.own, .list L)) (some (.shr, .int k)) n (h n).1 (h n).2 L6 r6 (by omega)
    obtain ⟨d8, L8, hd8, r8, n8, e8⟩ := u8_ok R N d6 hd6 d1 (some (.shr, told S h)) (some (.own, .list L)) (some (.shr, .int k)) n (h n).1 (h n).2 L7 r7 (by omega)
    obtain ⟨L9, x8, a9, n9, e9⟩ := u9_ok (some (.lent, d8)) d1 (S.map fun n => rowD n (h n)) L L8 rT (by rw [List.length_map]; omega) r8 (by omega) aL (by omega) k (some (.shr, .str n)) (some (.shr, .str (h n).1)) (some (.shr, .int (h n).2))
    refine ⟨d8, L9, some (.shr, .int k), some (.shr, .str n), some (.shr, .str (h n).1), some (.shr, .int (h n).2), x8, hd8, a9, by omega, by omega, ?_⟩
    unfold uIf
    generalize u5 R = U5 at *
    generalize u6 R = U6 at *
    generalize u7 = U7 at *
    generalize u8 R = U8 at *
    generalize u9 = U9 at *
    unfold told at *
    generalize (S.map fun n => rowD n (h n)) = T at *
    simp [ne, e5, e6, e7, e8, e9]
  · have he : S.isEmpty = true := by cases S; rfl; simp at hS
    rw [he] at ne
    refine ⟨d, L, none, none, none, none, none, hd, aL, by omega, by omega, ?_⟩
    unfold uIf
    unfold told at *
    generalize (S.map fun n => rowD n (h n)) = T at *
    simp [ne]
theorem spoilt_ok (R : Fns) {ns : List Int} (N : NextOk R ns) (d : PyData) (hd : Dr ns d) (s1 : Stt) (h1 : Rdg s1) {nm : List Str} (hl : nm.length < 64) (h : Str → Str × Int) :
    ∃ x d', Ask x ∧ Dr ns d' ∧ runF 3 10 (m_law_spoilt R) [(.lent, d), (s1, nmD nm), (.shr, told (sortS nm) h)] = some (.kept x, some d') := by
  have sl : (sortS nm).length < 64 := by rw [sort_len]; exact hl
  obtain ⟨L1, e1, n1, a1⟩ := u1_ok (some (.lent, d)) s1 h1 hl h
  obtain ⟨L2, e2, n2, a2⟩ := u2_ok (some (.lent, d)) s1 h1 hl (told (sortS nm) h) L1 (by omega) a1
  obtain ⟨L3, e3, n3, a3⟩ := u3_ok (some (.lent, d)) (some (s1, nmD nm)) (sortS nm) sl h L2 (by omega) a2
  obtain ⟨L4, e4, n4, a4⟩ := u4_ok (some (.lent, d)) (some (s1, nmD nm)) (sortS nm) sl h L3 (by omega) a3
  obtain ⟨d5, L5, x4, x5, x6, x7, x8, hd5, a5, m5, m5', e5⟩ := uIf_ok R N d hd (some (s1, nmD nm)) (sortS nm) sl h L4 (by omega) a4
  obtain ⟨o, d6, ho, hd6, e6⟩ := N d5 hd5 L5.length (by omega) (by omega)
  refine ⟨L5[o], d6, a5 _ (List.getElem_mem ho), hd6, ?_⟩
  have ev : m_law_spoilt R [some (.lent, d), some (s1, nmD nm), some (.shr, told (sortS nm) h), none, none, none, none, none, none, none] = some (.ret (.kept L5[o]), [some (.lent, d6), some (s1, nmD nm), some (.shr, told (sortS nm) h), some (.own, .list L5), x4, x5, x6, x7, x8, none]) := by
    rw [spoilt_eq]
    generalize u1 = U1 at *
    generalize u2 = U2 at *
    generalize u3 = U3 at *
    generalize u4 = U4 at *
    generalize uIf R = U5 at *
    unfold uEnd
    simp [e1, e2, e3, e4, e5, e6, List.getElem?_eq_getElem ho]
  rw [runF_def (by rcases h1 with rfl | rfl <;> rfl)]
  have : ([(Stt.lent, d), (s1, nmD nm), (Stt.shr, told (sortS nm) h)].map some ++ List.replicate (10 - [(Stt.lent, d), (s1, nmD nm), (Stt.shr, told (sortS nm) h)].length) none : Rho) = [some (.lent, d), some (s1, nmD nm), some (.shr, told (sortS nm) h), none, none, none, none, none, none, none] := rfl
  rw [this, ev]
  rfl
theorem judge_other (R : Fns) (s0 s1 : Stt) (h0 : Rdg s0) (h1 : Rdg s1) (a b d : PyData) (hd : isSub (tyD d) "tuple" = false) : runF 3 9 (m_judge_stands R) [(s0, a), (s1, b), (.shr, d)] = some (.kept (.bool false), none) := by
  refine run_ret (fl := .ret (.kept (.bool false))) (ρ' := [some (s0, a), some (s1, b), some (.shr, d), none, none, none, none, none, none]) ?_ ?_ ?_ rfl
  · rcases h0 with rfl | rfl <;> rcases h1 with rfl | rfl <;> rfl
  · rcases h0 with rfl | rfl <;> rfl
  · show m_judge_stands R [some (s0, a), some (s1, b), some (.shr, d), none, none, none, none, none, none] = _
    unfold m_judge_stands
    simp [hd]
theorem accepts_other (R : Fns) (s0 s1 : Stt) (h0 : Rdg s0) (h1 : Rdg s1) (a b d : PyData) (hd : isSub (tyD d) "tuple" = false) : runF 3 13 (m_law_accepts R) [(s0, a), (s1, b), (.shr, d)] = some (.kept (.bool false), none) := by
  refine run_ret (fl := .ret (.kept (.bool false))) (ρ' := [some (s0, a), some (s1, b), some (.shr, d), none, none, none, none, none, none, none, none, none, none]) ?_ ?_ ?_ rfl
  · rcases h0 with rfl | rfl <;> rcases h1 with rfl | rfl <;> rfl
  · rcases h0 with rfl | rfl <;> rfl
  · show m_law_accepts R [some (s0, a), some (s1, b), some (.shr, d), none, none, none, none, none, none, none, none, none, none] = _
    unfold m_law_accepts
    simp [hd]
end PyK53

namespace PyK53
open PySem PySem.Spec L2 PyI
structure Fine5 (R : Fns) (ns : List Int) : Prop where
  next : NextOk R ns
  due : ∀ (nm : List Str) (at' : List (Str × Str)) (s0 s1 : Stt), Case2 nm at' → Rdg s0 → Rdg s1 → ∃ m, Stop at' (sortS nm) m ∧ R.law_due [(s0, nmD nm), (s1, atD at')] = some (.kept (toldD (Fs at' (sortS nm) m) (sortS nm)), none)
  stands : ∀ (nm : List Str) (at' : List (Str × Str)) (s0 s1 : Stt), Case2 nm at' → Rdg s0 → Rdg s1 → ∃ m, Stop at' (sortS nm) m ∧ R.stands [(s0, nmD nm), (s1, atD at')] = some (.kept (toldD (Fs at' (sortS nm) m) (sortS nm)), none)
  judge : ∀ (nm : List Str) (at' : List (Str × Str)) (s0 s1 : Stt) (rs : List Row), Case2 nm at' → Rdg s0 → Rdg s1 → rs.length < 1000 → R.judge_stands [(s0, nmD nm), (s1, atD at'), (.shr, .tuple (rs.map Row.D))] = some (.kept (.bool (verdict at' (sortS nm) rs)), none)
  acc : ∀ (nm : List Str) (at' : List (Str × Str)) (s0 s1 : Stt) (rs : List Row), Case2 nm at' → Rdg s0 → Rdg s1 → rs.length < 1000 → R.law_accepts [(s0, nmD nm), (s1, atD at'), (.shr, .tuple (rs.map Row.D))] = some (.kept (.bool (verdict at' (sortS nm) rs)), none)
  judgeO : ∀ (a b d : PyData) (s0 s1 : Stt), Rdg s0 → Rdg s1 → isSub (tyD d) "tuple" = false → R.judge_stands [(s0, a), (s1, b), (.shr, d)] = some (.kept (.bool false), none)
  accO : ∀ (a b d : PyData) (s0 s1 : Stt), Rdg s0 → Rdg s1 → isSub (tyD d) "tuple" = false → R.law_accepts [(s0, a), (s1, b), (.shr, d)] = some (.kept (.bool false), none)
  spoilt : ∀ (d : PyData) (s1 : Stt) (nm : List Str) (h : Str → Str × Int), Dr ns d → Rdg s1 → nm.length < 64 → ∃ x d', Ask x ∧ Dr ns d' ∧ R.law_spoilt [(.lent, d), (s1, nmD nm), (.shr, told (sortS nm) h)] = some (.kept x, some d')
  same : ∀ d : PyData, shortB d = true → d.depth < 29 → R.law_same [(.shr, d), (.shr, d)] = some (.kept (.bool true), none)
theorem fine5 (ns : List Int) (k : Nat) (hk : 26 ≤ k) : Fine5 (lvl (k + 3)) ns := by
  have A : ∀ (j : Nat) (nm : List Str) (at' : List (Str × Str)), Case2 nm at' → AttOk (lvl (j + 1)) at' := fun j nm at' C n s1 s2 h1 h2 => att_ok (lvl j) at' n s1 s2 h1 h2 C.al (C.ds n)
  have Se : ∀ j, SetOk (lvl (j + 1)) := fun j g os e s0 h0 hk hl => settled_ok (lvl j) g os e s0 .shr h0 (.inl rfl) hk hl
  have N : ∀ j, NextOk (lvl (j + 1)) ns := fun j d hd limit h0 h1 => by
    obtain ⟨p, v, s, rfl, a, b, c⟩ := hd
    obtain ⟨out, p', v', s', g1, g2, g3, g4, g5, e⟩ := next_ok (lvl j) ns p v s limit (by omega) (by omega) a b c
    obtain ⟨o, rfl⟩ := Int.eq_ofNat_of_zero_le g1
    exact ⟨o, stD ns p' v' s', by omega, ⟨p', v', s', rfl, g3, g4, g5⟩, e⟩
  refine ⟨N (k + 2), fun nm at' s0 s1 C h0 h1 => ?_, fun nm at' s0 s1 C h0 h1 => ?_, fun nm at' s0 s1 rs C h0 h1 hl => ?_, fun nm at' s0 s1 rs C h0 h1 hl => ?_, fun a b d s0 s1 h0 h1 hd => ?_, fun a b d s0 s1 h0 h1 hd => ?_, fun d s1 nm h hd h1 hl => ?_, fun d h1 h2 => ?_⟩
  · exact due_ok (lvl (k + 2)) C.toCase s0 s1 h0 h1
  · exact stands_ok (lvl (k + 2)) C.toCase (A (k + 1) nm at' C) s0 s1 h0 h1
  · exact judge_ok (lvl (k + 2)) C (A (k + 1) nm at' C) (Se (k + 1)) s0 s1 h0 h1 rs hl
  · exact accepts_ok (lvl (k + 2)) C s0 s1 h0 h1 rs hl
  · exact judge_other (lvl (k + 2)) s0 s1 h0 h1 a b d hd
  · exact accepts_other (lvl (k + 2)) s0 s1 h0 h1 a b d hd
  · exact spoilt_ok (lvl (k + 2)) (N (k + 1)) d hd s1 h1 hl h
  · exact same_refl (k + 3) d .shr .shr (.inl rfl) (.inl rfl) h1 (by omega)
theorem ne_self (l : List PyData) (h : PyData.plainAll l = true) (hd : PyData.depthAll l ≤ 50) : opNe (.list l) (.list l) = some (.bool false) := by
  have : eqD (.list l) (.list l) = some true := by
    show (if (PyData.list l).plain = true ∧ (PyData.list l).plain = true ∧ min (PyData.list l).depth (PyData.list l).depth ≤ 60 then some ((PyData.list l).eqv (.list l)) else none) = _
    have pl : (PyData.list l).plain = true := by simp [PyData.plain, h]
    rw [if_pos ⟨pl, pl, Nat.le_trans (Nat.min_le_left _ _) (by simp only [PyData.depth]; omega)⟩, SeqAt.eqv_refl_plain _ pl]
  unfold opNe
  rw [this]; rfl
/-! ### one spoilt telling -/
def bI (R : Fns) : Mo Fl := sSeq (sSet 9 (xCallL R.law_spoilt (aC (xV 1) (aC (xV 4) (aC (xV 6) aN)))))
    (sSeq (sIf (tNotM (tV (xCall R.law_same (aC (xCall R.judge_stands (aC (x2i (xV 8) (xC (.int 0)) opIx) (aC (x2i (xV 8) (xC (.int 1)) opIx) (aC (xV 9) aN)))) (aC (xCall R.law_accepts (aC (xV 4) (aC (xV 5) (aC (xV 9) aN)))) aN))))) (sRet (xC (.bool false))) sPass)
    (sIf (tAndM (tV (xCall R.law_accepts (aC (xV 4) (aC (xV 5) (aC (xV 9) aN))))) (tV (x2 (xLc [10] (iS (xV 9)) (gN 10) tYesM (xSl (xV 10) oN (oS (xC (.int 2))))) (xLc [10] (iS (xV 6)) (gN 10) tYesM (xSl (xV 10) oN (oS (xC (.int 2))))) opNe))) (sRet (xC (.bool false))) sPass))
def iSt (d0 d2 d3 : Option (Stt × PyData)) (d : PyData) (nm : List Str) (at' : List (Str × Str)) (T : PyData) (x7 x9 : Option (Stt × PyData)) : Rho := [d0, some (.own, d), d2, d3, some (.shr, nmD nm), some (.shr, atD at'), some (.shr, T), x7, some (.own, .list [nmD nm, atD at']), x9, none]
theorem depth_map {α : Type} {f : α → PyData} (l : List α) (h : ∀ x ∈ l, (f x).depth ≤ 50) : PyData.depthAll (l.map f) ≤ 50 := by
  induction l with
  | nil => simp [PyData.depthAll]
  | cons x l ih =>
    have a := h x List.mem_cons_self
    have b := ih fun y hy => h y (List.mem_cons_of_mem _ hy)
    simp only [List.map_cons, PyData.depthAll]
    omega
def cut2 : PyData → PyData
  | .tuple l => .tuple (cutD l none (some 2))
  | y => y
/-- name and label of the rows -/
theorem lcSl (d0 d2 d3 x7 : Option (Stt × PyData)) (d : PyData) (nm : List Str) (at' : List (Str × Str)) (i : Nat) (T X : List PyData) {Y : List PyData} (hi : iS (xV i) (iSt d0 d2 d3 d nm at' (.tuple T) x7 (some (.shr, .tuple X))) = some (Y, iSt d0 d2 d3 d nm at' (.tuple T) x7 (some (.shr, .tuple X)))) (hl : Y.length < 1000) (f : PyData → PyData) (hf : ∀ y ∈ Y, opSl y none (some 2) = some (f y) ∧ ∃ l, f y = .tuple l) :
    xLc [10] (iS (xV i)) (gN 10) tYesM (xSl (xV 10) oN (oS (xC (.int 2)))) (iSt d0 d2 d3 d nm at' (.tuple T) x7 (some (.shr, .tuple X))) = some (.fresh (.list (Y.map f)), iSt d0 d2 d3 d nm at' (.tuple T) x7 (some (.shr, .tuple X))) := by
  have := lc_eval (vs := [10]) (g := gN 10) (t := tYesM) (fe := xSl (xV 10) oN (oS (xC (.int 2)))) (fun _ => true) f hi (Nat.le_trans (Nat.le_of_lt hl) (by decide)) (fun y hy => by
    obtain ⟨q, hq⟩ : ∃ q : Rho, q = [d0, some (.own, d), d2, d3, some (.shr, nmD nm), some (.shr, atD at'), some (.shr, .tuple T), x7, some (.own, .list [nmD nm, atD at']), some (.shr, .tuple X), some (.shr, y)] := ⟨_, rfl⟩
    obtain ⟨e, l, e2⟩ := hf y hy
    rw [e2] at e
    exact ⟨q, by simp [wipeE, hq, iSt], q, by simp, fun h => (by cases h), fun _ => ⟨.kept (f y), q, q, by rw [hq, e2]; simp [e], by simp, by simp [wipeE, hq, iSt]⟩⟩)
  rw [this, List.filter_eq_self.mpr (fun _ _ => rfl)]
  simp [restE, wipeE, iSt]
theorem bI_ok (R : Fns) {ns : List Int} (F : Fine5 R ns) {nm : List Str} {at' : List (Str × Str)} (C : Case2 nm at') {m : Nat} (hm : Stop at' (sortS nm) m) (d : PyData) (hd : Dr ns d) (d0 d2 d3 x7 x9 : Option (Stt × PyData)) :
    ∃ d' y9, Dr ns d' ∧ bI R (iSt d0 d2 d3 d nm at' (toldD (Fs at' (sortS nm) m) (sortS nm)) x7 x9) = some (.nx, iSt d0 d2 d3 d' nm at' (toldD (Fs at' (sortS nm) m) (sortS nm)) x7 y9) := by
  obtain ⟨x, d', ax, hd', e1⟩ := F.spoilt d .shr nm (look' (Fs at' (sortS nm) m)) hd (.inl rfl) C.nl
  refine ⟨d', some (.shr, x), hd', ?_⟩
  have sm : ∀ b : Bool, R.law_same [(.shr, .bool b), (.shr, .bool b)] = some (.kept (.bool true), none) := fun b => F.same (.bool b) rfl (by simp [PyData.depth])
  rcases ax with ho | ⟨rs, rfl, hl⟩
  · have e2 := F.judgeO (nmD nm) (atD at') x .shr .shr (.inl rfl) (.inl rfl) ho
    have e3 := F.accO (nmD nm) (atD at') x .shr .shr (.inl rfl) (.inl rfl) ho
    unfold bI iSt toldD
    simp [e1, e2, e3, sm]
  · have e2 := F.judge nm at' .shr .shr rs C (.inl rfl) (.inl rfl) hl
    have e3 := F.acc nm at' .shr .shr rs C (.inl rfl) (.inl rfl) hl
    cases hv : verdict at' (sortS nm) rs with
    | false =>
      rw [hv] at e2 e3
      unfold bI iSt toldD
      simp [e1, e2, e3, sm]
    | true =>
      rw [hv] at e2 e3
      obtain ⟨ts, rfl, ht, hg, O⟩ := verdict_ok (sort_nodup C.nd) hv
      have O' := ok_Fs hm
      have sl := same_labels O O' (fun n x hx => C.ones hx)
      rw [show (ts.map Row.three).map Row.D = ts.map t3D by rw [List.map_map]; rfl] at e1 e2 e3 ⊢
      have tsl : ts.length < 1000 := by rwa [List.length_map] at hl
      have lc1 := lcSl d0 d2 d3 x7 d' nm at' 9 ((sortS nm).map fun n => rowD n (look' (Fs at' (sortS nm) m) n)) (ts.map t3D) (Y := ts.map t3D) (by unfold iSt; simp) (by rw [List.length_map]; exact tsl) cut2 (fun y hy => by
        obtain ⟨t, _, rfl⟩ := List.mem_map.mp hy
        exact ⟨rfl, _, rfl⟩)
      have lc2 := lcSl d0 d2 d3 x7 d' nm at' 6 ((sortS nm).map fun n => rowD n (look' (Fs at' (sortS nm) m) n)) (ts.map t3D) (Y := (sortS nm).map fun n => rowD n (look' (Fs at' (sortS nm) m) n)) (by unfold iSt; simp) (by rw [List.length_map, sort_len]; have := C.nl; omega) cut2 (fun y hy => by
        obtain ⟨t, _, rfl⟩ := List.mem_map.mp hy
        exact ⟨rfl, _, rfl⟩)
      have eqL : (ts.map t3D).map cut2 = ((sortS nm).map fun n => rowD n (look' (Fs at' (sortS nm) m) n)).map cut2 := by
        rw [← ht, List.map_map, List.map_map, List.map_map]
        refine List.map_congr_left fun t htm => ?_
        show cut2 (t3D t) = cut2 (rowD t.1 (look' (Fs at' (ts.map (·.1)) m) t.1))
        have g1 := List.all_eq_true.mp hg t htm
        have l1 := look_in (g := ts.map ent) (by rw [List.map_map]; exact ht ▸ sort_nodup C.nd) (List.mem_map.mpr ⟨t, htm, rfl⟩)
        have l2 := sl t.1 (ht ▸ List.mem_map.mpr ⟨t, htm, rfl⟩)
        have l3 : lab (ts.map ent) t.1 = lS t.2.1 := (look'_some l1).1
        rw [l3, ← ht] at l2
        obtain ⟨n, l, k⟩ := t
        unfold good at g1
        rw [Bool.and_eq_true] at g1
        cases l with
        | inr w => exact absurd g1.1 (by simp [goodL])
        | inl w =>
          have l2 : w = (look' (Fs at' (ts.map (·.1)) m) n).1 := l2
          show PyData.tuple [.str n, .str w] = PyData.tuple [.str n, .str (look' (Fs at' (ts.map (·.1)) m) n).1]
          rw [← l2]
      have pl : PyData.plainAll (((sortS nm).map fun n => rowD n (look' (Fs at' (sortS nm) m) n)).map cut2) = true := by
        rw [List.map_map]
        exact plain_map _ fun n _ => by simp [cut2, rowD, cutD, HT.sIx, PyData.plain, PyData.plainAll]
      have pd : PyData.depthAll (((sortS nm).map fun n => rowD n (look' (Fs at' (sortS nm) m) n)).map cut2) ≤ 50 := by
        rw [List.map_map]
        exact depth_map _ fun n _ => by simp [cut2, rowD, cutD, HT.sIx, PyData.depth, PyData.depthAll]
      have ne := ne_self _ pl pd
      rw [eqL] at lc1
      generalize ((sortS nm).map fun n => rowD n (look' (Fs at' (sortS nm) m) n)).map cut2 = L2 at *
      unfold bI toldD
      unfold told at e1
      generalize ((sortS nm).map fun n => rowD n (look' (Fs at' (sortS nm) m) n)) = L1 at *
      generalize xLc [10] (iS (xV 9)) (gN 10) tYesM (xSl (xV 10) oN (oS (xC (.int 2)))) = Z1 at *
      generalize xLc [10] (iS (xV 6)) (gN 10) tYesM (xSl (xV 10) oN (oS (xC (.int 2)))) = Z2 at *
      unfold iSt at *
      simp [e1, e2, e3, sm, lc1, lc2, ne]
end PyK53

namespace PyK53
open PySem PySem.Spec L2 PyI
def lSt (d0 : Option (Stt × PyData)) (d : PyData) (x2 x3 x4 x5 x6 x7 x8 x9 : Option (Stt × PyData)) : Rho := [d0, some (.own, d), x2, x3, x4, x5, x6, x7, x8, x9, none]
def seven : List Str := ["q", "a", "m", "b", "z", "c", "n"]
theorem seven_nodup : seven.Nodup := by decide
def t1 (R : Fns) : Mo Fl := sSet 4 (xSl (xLst (aC (xC (.str "q")) (aC (xC (.str "a")) (aC (xC (.str "m")) (aC (xC (.str "b")) (aC (xC (.str "z")) (aC (xC (.str "c")) (aC (xC (.str "n")) aN)))))))) oN (oS (xCallL R.law_next (aC (xV 1) (aC (xC (.int 8)) aN)))))
theorem t1_ok (R : Fns) {ns : List Int} (F : Fine5 R ns) (d0 : Option (Stt × PyData)) (d : PyData) (hd : Dr ns d) (x2 x3 x4 x5 x6 x7 x8 x9 : Option (Stt × PyData)) :
    ∃ d' nm, Dr ns d' ∧ nm.Nodup ∧ nm.length ≤ 7 ∧ t1 R (lSt d0 d x2 x3 x4 x5 x6 x7 x8 x9) = some (.nx, lSt d0 d' x2 x3 (some (.own, nmD nm)) x5 x6 x7 x8 x9) := by
  obtain ⟨o, d', ho, hd', e⟩ := F.next d hd 8 (by decide) (by decide)
  have e' : R.law_next [(.lent, d), (.shr, .int 8)] = some (.kept (.int (o : Int)), some d') := e
  refine ⟨d', seven.take (min o 7), hd', seven_nodup.sublist (List.take_sublist _ _), by rw [List.length_take]; show min (min o 7) 7 ≤ 7; omega, ?_⟩
  have sl : opSl (.list [.str "q", .str "a", .str "m", .str "b", .str "z", .str "c", .str "n"]) none (some (o : Int)) = some (nmD (seven.take (min o 7))) := by
    show some (PyData.list (cutD (seven.map PyData.str) none (some (o : Int)))) = some (PyData.list ((seven.take (min o 7)).map .str))
    rw [List.map_take]
    unfold cutD
    rw [HT.sIx_none, HT.sIx_nat]
    rfl
  have e7 := fun ρ => e_dsbt [.str "q", .str "a", .str "m", .str "b", .str "z", .str "c", .str "n"] ρ (by simp)
  unfold nmD at *
  unfold t1 lSt
  simp [e', e7, sl]
def tB (R : Fns) : Mo Fl := sDrop (xMut "list" 5 mAppend (aC (xTup (aC (x2i (xV 4) (xCallL R.law_next (aC (xV 1) (aC (xB oLen (aC (xV 4) aN)) aN))) opIx) (aC (x2i (xV 4) (xCallL R.law_next (aC (xV 1) (aC (xB oLen (aC (xV 4) aN)) aN))) opIx) aN))) aN))
theorem tB_ok (R : Fns) {ns : List Int} (F : Fine5 R ns) (d0 : Option (Stt × PyData)) (d : PyData) (hd : Dr ns d) (x2 x3 x6 x7 x8 x9 : Option (Stt × PyData)) (nm : List Str) (hn : 0 < nm.length) (hl : nm.length ≤ 7) (at' : List (Str × Str)) (ha : at'.length ≤ 100) :
    ∃ d' a b, Dr ns d' ∧ a ∈ nm ∧ b ∈ nm ∧ tB R (lSt d0 d x2 x3 (some (.own, nmD nm)) (some (.own, atD at')) x6 x7 x8 x9) = some (.nx, lSt d0 d' x2 x3 (some (.own, nmD nm)) (some (.own, atD (at' ++ [(a, b)]))) x6 x7 x8 x9) := by
  obtain ⟨o, d', ho, hd', e⟩ := F.next d hd nm.length hn (by omega)
  obtain ⟨o2, d2, ho2, hd2, e2⟩ := F.next d' hd' nm.length hn (by omega)
  refine ⟨d2, nm[o], nm[o2], hd2, List.getElem_mem ho, List.getElem_mem ho2, ?_⟩
  have ap := app_ok (at'.map pairD) (.tuple [.str nm[o], .str nm[o2]]) (by rw [List.length_map]; omega)
  unfold nmD atD at *
  unfold tB lSt
  simp [e, e2, List.getElem?_eq_getElem ho, List.getElem?_eq_getElem ho2, ap, pairD]
def t3 (R : Fns) : Mo Fl := sFor (iR1 (xCallL R.law_next (aC (xV 1) (aC (x2 (x2 (xC (.int 2)) (xB oLen (aC (xV 4) aN)) opMul) (xC (.int 1)) opAdd) aN)))) (gN 7) (tB R)
theorem t3_ok (R : Fns) {ns : List Int} (F : Fine5 R ns) (d0 : Option (Stt × PyData)) (d : PyData) (hd : Dr ns d) (x2 x3 x6 x7 x8 x9 : Option (Stt × PyData)) (nm : List Str) (hl : nm.length ≤ 7) :
    ∃ d' at' y7, Dr ns d' ∧ at'.length ≤ 15 ∧ (∀ p ∈ at', p.1 ∈ nm) ∧ t3 R (lSt d0 d x2 x3 (some (.own, nmD nm)) (some (.own, atD [])) x6 x7 x8 x9) = some (.nx, lSt d0 d' x2 x3 (some (.own, nmD nm)) (some (.own, atD at')) x6 y7 x8 x9) := by
  obtain ⟨o, d1, ho, hd1, e⟩ := F.next d hd (2 * nm.length + 1) (by omega) (by omega)
  have e' : R.law_next [(.lent, d), (.shr, .int (2 * (nm.length : Int) + 1))] = some (.kept (.int (o : Int)), some d1) := e
  have em : opMul (.int 2) (.int (nm.length : Int)) = some (.int (2 * (nm.length : Int))) := o_mul1 (.inl (by omega))
  have el : ∃ d' at' y7, Dr ns d' ∧ at'.length ≤ 15 ∧ (∀ p ∈ at', p.1 ∈ nm) ∧ forM (rngD 0 o) (gN 7) (tB R) (lSt d0 d1 x2 x3 (some (.own, nmD nm)) (some (.own, atD [])) x6 x7 x8 x9) = some (.nx, lSt d0 d' x2 x3 (some (.own, nmD nm)) (some (.own, atD at')) x6 y7 x8 x9) := by
    by_cases hn : 0 < nm.length
    · have := for_all (ds := rngD 0 o) (g := gN 7) (b := tB R) (fun i ρ => i ≤ o → ∃ d' at' y7, Dr ns d' ∧ at'.length = i ∧ (∀ p ∈ at', p.1 ∈ nm) ∧ ρ = lSt d0 d' x2 x3 (some (.own, nmD nm)) (some (.own, atD at')) x6 y7 x8 x9)
        (fun i x ρ hx hI => by
          have hi := (rngD_at hx).2
          obtain ⟨d', at', y7, g1, g2, g3, rfl⟩ := hI (by omega)
          obtain ⟨d2, a, b, k1, k2, k3, k4⟩ := tB_ok R F d0 d' g1 x2 x3 x6 (some (.shr, x)) x8 x9 nm hn hl at' (by omega)
          refine ⟨_, _, rfl, k4, fun _ => ⟨d2, at' ++ [(a, b)], some (.shr, x), k1, by rw [List.length_append]; simp [g2], fun p hp => ?_, rfl⟩⟩
          rcases List.mem_append.mp hp with hp | hp
          · exact g3 p hp
          · rw [List.mem_singleton] at hp; subst hp; exact k2) (ρ := lSt d0 d1 x2 x3 (some (.own, nmD nm)) (some (.own, atD [])) x6 x7 x8 x9) (fun _ => ⟨d1, [], x7, hd1, rfl, fun p hp => (nomatch hp), rfl⟩)
      obtain ⟨ρ', e, hI⟩ := this
      obtain ⟨d', at', y7, g1, g2, g3, rfl⟩ := hI (by rw [rngD_len]; exact Nat.le_refl _)
      rw [rngD_len] at g2
      exact ⟨d', at', y7, g1, by omega, g3, e⟩
    · obtain rfl : o = 0 := by omega
      exact ⟨d1, [], x7, hd1, by decide, fun p hp => (nomatch hp), rfl⟩
  obtain ⟨d', at', y7, g1, g2, g3, g4⟩ := el
  refine ⟨d', at', y7, g1, g2, g3, ?_⟩
  unfold t3
  generalize tB R = B at *
  have ir := fun ρ => e_irb o ρ (by omega)
  unfold nmD at *
  unfold lSt at *
  simp [em, e', ir, g4]
theorem case2 {nm : List Str} {at' : List (Str × Str)} (nd : nm.Nodup) (hl : nm.length < 64) (ha : at'.length < 1000) (ins : ∀ p ∈ at', p.1 ∈ nm) : Case2 nm at' := by
  refine { nl := hl, nd := nd, al := ha, ds := fun n => ?_, ins := ins }
  refine Nat.lt_of_le_of_lt (nodup_len (dedup_nodup _) (m := nm) fun x hx => ?_) hl
  rw [dedup_mem] at hx
  unfold ones at hx
  obtain ⟨p, hp, rfl⟩ := List.mem_map.mp hx
  exact ins p (List.mem_filter.mp hp).1
/-! ### the judgements of a case -/
theorem short_told (S : List Str) (f : Fd) (h : S.length < 1000) : shortB (toldD f S) = true ∧ (toldD f S).depth < 29 := by
  unfold toldD
  constructor
  · rw [shortB, Bool.and_eq_true, decide_eq_true_eq]
    refine ⟨by rw [List.length_map]; exact h, ?_⟩
    clear h
    induction S with
    | nil => rfl
    | cons n S ih =>
      rw [List.map_cons, shortAll, ih]
      simp [rowD, shortB, shortAll]
  · have : PyData.depthAll (S.map fun n => rowD n (look' f n)) ≤ 5 := by
      clear h
      induction S with
      | nil => simp [PyData.depthAll]
      | cons n S ih =>
        simp only [List.map_cons, PyData.depthAll]
        have : (rowD n (look' f n)).depth ≤ 5 := by simp [rowD, PyData.depth, PyData.depthAll]
        omega
    simp only [PyData.depth]
    omega
theorem told_rows (f : Fd) (S : List Str) : toldD f S = .tuple (((dueT f S).map Row.three).map Row.D) := toldD_rows f S
structure Judged (R : Fns) (nm : List Str) (at' : List (Str × Str)) (m : Nat) : Prop where
  acc : ∀ s0 s1, Rdg s0 → Rdg s1 → R.law_accepts [(s0, nmD nm), (s1, atD at'), (.shr, toldD (Fs at' (sortS nm) m) (sortS nm))] = some (.kept (.bool true), none)
  jud : ∀ s0 s1, Rdg s0 → Rdg s1 → R.judge_stands [(s0, nmD nm), (s1, atD at'), (.shr, toldD (Fs at' (sortS nm) m) (sortS nm))] = some (.kept (.bool true), none)
  sta : ∀ s0 s1, Rdg s0 → Rdg s1 → R.stands [(s0, nmD nm), (s1, atD at')] = some (.kept (toldD (Fs at' (sortS nm) m) (sortS nm)), none)
  sam : R.law_same [(.shr, toldD (Fs at' (sortS nm) m) (sortS nm)), (.shr, toldD (Fs at' (sortS nm) m) (sortS nm))] = some (.kept (.bool true), none)
theorem judged (R : Fns) {ns : List Int} (F : Fine5 R ns) {nm : List Str} {at' : List (Str × Str)} (C : Case2 nm at') {m : Nat} (hm : Stop at' (sortS nm) m) : Judged R nm at' m := by
  have sl : (sortS nm).length < 1000 := by rw [sort_len]; have := C.nl; omega
  have v := verdict_due hm (fun n x hx => C.ones hx)
  have len : ((dueT (Fs at' (sortS nm) m) (sortS nm)).map Row.three).length < 1000 := by unfold dueT; rw [List.length_map, List.length_map]; exact sl
  refine ⟨fun s0 s1 h0 h1 => ?_, fun s0 s1 h0 h1 => ?_, fun s0 s1 h0 h1 => ?_, ?_⟩
  · rw [told_rows, F.acc nm at' s0 s1 _ C h0 h1 len, v]
  · rw [told_rows, F.judge nm at' s0 s1 _ C h0 h1 len, v]
  · obtain ⟨m', hm', e⟩ := F.stands nm at' s0 s1 C h0 h1
    rw [e, Fs_same hm' hm]
  · exact F.same _ (short_told _ _ sl).1 (short_told _ _ sl).2
end PyK53

namespace PyK53
open PySem PySem.Spec L2 PyI
def t4 (R : Fns) : Mo Fl := sSet 6 (xCall R.law_due (aC (xV 4) (aC (xV 5) aN)))
def t5 (R : Fns) : Mo Fl := sIf (tNotM (tV (xCall R.law_accepts (aC (xV 4) (aC (xV 5) (aC (xV 6) aN)))))) (sRet (xC (.bool false))) sPass
def t6 : Mo Fl := sSet 8 (xLst (aC (xB oList (aC (xV 4) aN)) (aC (xB oList (aC (xV 5) aN)) aN)))
def t7 (R : Fns) : Mo Fl := sIf (tOrM (tNotM (tV (xCall R.law_same (aC (xCall R.stands (aC (x2i (xV 8) (xC (.int 0)) opIx) (aC (x2i (xV 8) (xC (.int 1)) opIx) aN))) (aC (xV 6) aN))))) (tOrM (tV (x2 (xV 8) (xLst (aC (xV 4) (aC (xV 5) aN))) opNe)) (tV (x2 (xCall R.judge_stands (aC (x2i (xV 8) (xC (.int 0)) opIx) (aC (x2i (xV 8) (xC (.int 1)) opIx) (aC (xV 6) aN)))) (xC (.bool true)) opNotB)))) (sRet (xC (.bool false))) sPass
def t8 (R : Fns) : Mo Fl := sFor (iR1 (xC (.int 9))) (gN 7) (bI R)
def tT (R : Fns) : Mo Fl := sSeq (t1 R) (sSeq (sSet 5 (xLst aN)) (sSeq (t3 R) (sSeq (t4 R) (sSeq (t5 R) (sSeq t6 (sSeq (t7 R) (t8 R)))))))
theorem plain_at (at' : List (Str × Str)) : (atD at').plain = true := by
  unfold atD PyData.plain
  exact plain_map _ fun p _ => by simp [pairD, PyData.plain, PyData.plainAll]
theorem plain_nm (nm : List Str) : (nmD nm).plain = true := by
  unfold nmD PyData.plain
  exact plain_strs _
theorem depth_two (nm : List Str) (at' : List (Str × Str)) : PyData.depthAll [nmD nm, atD at'] ≤ 55 := by
  have a : PyData.depthAll (nm.map PyData.str) ≤ 50 := depth_map _ fun x _ => by simp [PyData.depth]
  have b : PyData.depthAll (at'.map pairD) ≤ 50 := depth_map _ fun x _ => by simp [pairD, PyData.depth, PyData.depthAll]
  simp only [PyData.depthAll, nmD, atD, PyData.depth]
  omega
theorem ne_two (nm : List Str) (at' : List (Str × Str)) : opNe (.list [nmD nm, atD at']) (.list [nmD nm, atD at']) = some (.bool false) := by
  have pl : (PyData.list [nmD nm, atD at']).plain = true := by simp [PyData.plain, PyData.plainAll, plain_at, plain_nm]
  have : eqD (.list [nmD nm, atD at']) (.list [nmD nm, atD at']) = some true := by
    show (if (PyData.list [nmD nm, atD at']).plain = true ∧ (PyData.list [nmD nm, atD at']).plain = true ∧ min (PyData.list [nmD nm, atD at']).depth (PyData.list [nmD nm, atD at']).depth ≤ 60 then some ((PyData.list [nmD nm, atD at']).eqv (.list [nmD nm, atD at'])) else none) = _
    rw [if_pos ⟨pl, pl, Nat.le_trans (Nat.min_le_left _ _) (by have := depth_two nm at'; simp only [PyData.depth]; omega)⟩, SeqAt.eqv_refl_plain _ pl]
  unfold opNe
  rw [this]; rfl
theorem t8_ok (R : Fns) {ns : List Int} (F : Fine5 R ns) {nm : List Str} {at' : List (Str × Str)} (C : Case2 nm at') {m : Nat} (hm : Stop at' (sortS nm) m) (d : PyData) (hd : Dr ns d) (d0 d2 d3 x7 x9 : Option (Stt × PyData)) :
    ∃ d' y7 y9, Dr ns d' ∧ t8 R (iSt d0 d2 d3 d nm at' (toldD (Fs at' (sortS nm) m) (sortS nm)) x7 x9) = some (.nx, iSt d0 d2 d3 d' nm at' (toldD (Fs at' (sortS nm) m) (sortS nm)) y7 y9) := by
  have := for_all (ds := rngD 0 9) (g := gN 7) (b := bI R) (fun i ρ => ∃ d' y7 y9, Dr ns d' ∧ ρ = iSt d0 d2 d3 d' nm at' (toldD (Fs at' (sortS nm) m) (sortS nm)) y7 y9)
    (fun i x ρ hx hI => by
      obtain ⟨d', y7, y9, g1, rfl⟩ := hI
      obtain ⟨d2', z9, k1, k2⟩ := bI_ok R F C hm d' g1 d0 d2 d3 (some (.shr, x)) y9
      exact ⟨_, _, rfl, k2, d2', some (.shr, x), z9, k1, rfl⟩) (ρ := iSt d0 d2 d3 d nm at' (toldD (Fs at' (sortS nm) m) (sortS nm)) x7 x9) ⟨d, x7, x9, hd, rfl⟩
  obtain ⟨ρ', e, d', y7, y9, g1, rfl⟩ := this
  refine ⟨d', y7, y9, g1, ?_⟩
  have ir : ∀ ρ, irb (some (.int 9)) ρ = some (rngD 0 9, ρ) := fun ρ => e_irb 9 ρ (by omega)
  unfold t8
  generalize bI R = B at *
  generalize iSt d0 d2 d3 d nm at' (toldD (Fs at' (sortS nm) m) (sortS nm)) x7 x9 = st at *
  simp [ir, e]
theorem tT_ok (R : Fns) {ns : List Int} (F : Fine5 R ns) (d0 : Option (Stt × PyData)) (d : PyData) (hd : Dr ns d) (x2 x3 x4 x5 x6 x7 x8 x9 : Option (Stt × PyData)) :
    ∃ d' y4 y5 y6 y7 y8 y9, Dr ns d' ∧ tT R (lSt d0 d x2 x3 x4 x5 x6 x7 x8 x9) = some (.nx, lSt d0 d' x2 x3 y4 y5 y6 y7 y8 y9) := by
  obtain ⟨d1, nm, hd1, nd, nl, e1⟩ := t1_ok R F d0 d hd x2 x3 x4 x5 x6 x7 x8 x9
  obtain ⟨d3, at', z7, hd3, al, ins, e3⟩ := t3_ok R F d0 d1 hd1 x2 x3 x6 x7 x8 x9 nm nl
  have C := case2 nd (by omega) (by omega) ins
  obtain ⟨m, hm, e4⟩ := F.due nm at' .bor .bor C (.inr rfl) (.inr rfl)
  have J := judged R F C hm
  obtain ⟨d8, y7, y9, hd8, e8⟩ := t8_ok R F C hm d3 hd3 d0 x2 x3 z7 x9
  refine ⟨d8, some (.shr, nmD nm), some (.shr, atD at'), some (.shr, toldD (Fs at' (sortS nm) m) (sortS nm)), y7, some (.own, .list [nmD nm, atD at']), y9, hd8, ?_⟩
  have j1 := J.acc .bor .bor (.inr rfl) (.inr rfl)
  have j2 := J.sta .shr .shr (.inl rfl) (.inl rfl)
  have j3 := J.sam
  have j4 := J.jud .shr .shr (.inl rfl) (.inl rfl)
  generalize toldD (Fs at' (sortS nm) m) (sortS nm) = T at *
  have e2 : sSet 5 (xLst aN) (lSt d0 d1 x2 x3 (some (.own, nmD nm)) x5 x6 x7 x8 x9) = some (.nx, lSt d0 d1 x2 x3 (some (.own, nmD nm)) (some (.own, atD [])) x6 x7 x8 x9) := by
    unfold lSt atD; simp
  have e4' : t4 R (lSt d0 d3 x2 x3 (some (.own, nmD nm)) (some (.own, atD at')) x6 z7 x8 x9) = some (.nx, lSt d0 d3 x2 x3 (some (.own, nmD nm)) (some (.own, atD at')) (some (.shr, T)) z7 x8 x9) := by
    unfold t4 lSt; simp [e4]
  have e5 : t5 R (lSt d0 d3 x2 x3 (some (.own, nmD nm)) (some (.own, atD at')) (some (.shr, T)) z7 x8 x9) = some (.nx, lSt d0 d3 x2 x3 (some (.own, nmD nm)) (some (.own, atD at')) (some (.shr, T)) z7 x8 x9) := by
    unfold t5 lSt; simp [j1]
  have e6 : t6 (lSt d0 d3 x2 x3 (some (.own, nmD nm)) (some (.own, atD at')) (some (.shr, T)) z7 x8 x9) = some (.nx, lSt d0 d3 x2 x3 (some (.own, nmD nm)) (some (.own, atD at')) (some (.shr, T)) z7 (some (.own, .list [nmD nm, atD at'])) x9) := by
    unfold t6 lSt nmD atD; simp
  have ne := ne_two nm at'
  have e7 : t7 R (lSt d0 d3 x2 x3 (some (.own, nmD nm)) (some (.own, atD at')) (some (.shr, T)) z7 (some (.own, .list [nmD nm, atD at'])) x9) = some (.nx, lSt d0 d3 x2 x3 (some (.shr, nmD nm)) (some (.shr, atD at')) (some (.shr, T)) z7 (some (.own, .list [nmD nm, atD at'])) x9) := by
    generalize nmD nm = N at *
    generalize atD at' = A at *
    unfold t7 lSt; simp [j2, j3, j4, ne]
  unfold tT
  rw [e_sq, e1, e_sqn, e_sq, e2, e_sqn, e_sq, e3, e_sqn, e_sq, e4', e_sqn, e_sq, e5, e_sqn, e_sq, e6, e_sqn, e_sq, e7, e_sqn]
  exact e8
theorem three_ok (R : Fns) {ns : List Int} (F : Fine5 R ns) (d0 : Option (Stt × PyData)) (d : PyData) (hd : Dr ns d) :
    ∃ d' y2 y4 y5 y6 y7 y8 y9, Dr ns d' ∧ sFor (iR1 (xC (.int 3))) (gN 2) (tT R) (lSt d0 d none none none none none none none none) = some (.nx, lSt d0 d' y2 none y4 y5 y6 y7 y8 y9) := by
  have := for_all (ds := rngD 0 3) (g := gN 2) (b := tT R) (fun i ρ => ∃ d' y2 y4 y5 y6 y7 y8 y9, Dr ns d' ∧ ρ = lSt d0 d' y2 none y4 y5 y6 y7 y8 y9)
    (fun i x ρ hx hI => by
      obtain ⟨d', y2, y4, y5, y6, y7, y8, y9, g1, rfl⟩ := hI
      obtain ⟨d2', z4, z5, z6, z7, z8, z9, k1, k2⟩ := tT_ok R F d0 d' g1 (some (.shr, x)) none y4 y5 y6 y7 y8 y9
      exact ⟨_, _, rfl, k2, d2', some (.shr, x), z4, z5, z6, z7, z8, z9, k1, rfl⟩) (ρ := lSt d0 d none none none none none none none none) ⟨d, none, none, none, none, none, none, none, hd, rfl⟩
  obtain ⟨ρ', e, d', y2, y4, y5, y6, y7, y8, y9, g1, rfl⟩ := this
  refine ⟨d', y2, y4, y5, y6, y7, y8, y9, g1, ?_⟩
  have ir : ∀ ρ, irb (some (.int 3)) ρ = some (rngD 0 3, ρ) := fun ρ => e_irb 3 ρ (by omega)
  generalize tT R = B at *
  generalize lSt d0 d none none none none none none none none = st at *
  simp [ir, e]
/-! ### the long row -/
def tS (i : Nat) : Str := toString (i : Int)
def xN (i : Nat) : Str := "x" ++ tS i
theorem xN_nodup : ((List.range 39).map xN).Nodup := by decide
theorem xN_short : ∀ i : Nat, i < 39 → (tS i).length ≤ 10 := by decide
theorem rng_map (n : Nat) : rngD 0 n = (List.range n).map fun i : Nat => PyData.int (i : Int) := by
  apply List.ext_getElem?
  intro i
  by_cases h : i < n
  · rw [rngD_get n 0 i h, List.getElem?_map, List.getElem?_range h]
    simp
  · rw [List.getElem?_eq_none (by rw [rngD_len]; omega), List.getElem?_eq_none (by simp; omega)]
theorem str_ok {i : Nat} (h : i < 39) : oStr [.int (i : Int)] = some (.str (tS i)) := by
  show (if (i : Int).natAbs.log2 < 1920 then some (PyData.str (toString (i : Int))) else none) = _
  rw [if_pos]
  · rfl
  rw [Int.natAbs_natCast]
  exact Nat.lt_of_le_of_lt (Nat.log2_le_self i) (by omega)
theorem addx_ok {i : Nat} (h : i < 39) : opAdd (.str "x") (.str (tS i)) = some (.str (xN i)) := by
  show (if ("x" : Str).length + (tS i).length ≤ sizeLine then some (PyData.str ("x" ++ (tS i))) else none) = _
  have hs := xN_short i h
  have h1 : ("x" : Str).length = 1 := by decide
  rw [if_pos (Nat.le_trans (show ("x" : Str).length + (tS i).length ≤ 1000 by omega) (by rw [sizeLine_eq]; decide))]
  rfl
def z1 (R : Fns) : Mo Fl := sSet 3 (x2 (xC (.int 20)) (xCallL R.law_next (aC (xV 1) (aC (xC (.int 20)) aN))) opAdd)
def z2 : Mo Fl := sSet 4 (xLc [7] (iR1 (xV 3)) (gN 7) tYesM (x2 (xC (.str "x")) (xB oStr (aC (xV 7) aN)) opAdd))
def z3a : Mo Rs := xLc [7] (iR1 (x2 (xV 3) (xC (.int 1)) opSub)) (gN 7) tYesM (xTup (aC (x2i (xV 4) (xV 7) opIx) (aC (x2i (xV 4) (x2 (xV 7) (xC (.int 1)) opAdd) opIx) aN)))
def z3 (R : Fns) : Mo Fl := sSet 5 (x2 z3a (xSl (xLst (aC (xTup (aC (x2i (xV 4) (x2 (xV 3) (xC (.int 1)) opSub) opIx) (aC (x2i (xV 4) (xCallL R.law_next (aC (xV 1) (aC (xV 3) aN))) opIx) aN))) aN)) oN (oS (xCallL R.law_next (aC (xV 1) (aC (xC (.int 2)) aN))))) opAdd)
def z5 (R : Fns) : Mo Fl := sRet (xAnd (xCall R.law_same (aC (xCall R.stands (aC (xB oList (aC (xV 4) aN)) (aC (xB oList (aC (xV 5) aN)) aN))) (aC (xV 6) aN))) (x2 (xCall R.judge_stands (aC (xB oList (aC (xV 4) aN)) (aC (xB oList (aC (xV 5) aN)) (aC (xV 6) aN)))) (xC (.bool true)) opIsB))
theorem law_eq (R : Fns) : m_law R = sSeq (sSet 1 (xLst (aC (xScr 0) (aC (xC (.int 0)) (aC (xC (.int 0)) (aC (xC (.int 1)) aN)))))) (sSeq (sFor (iR1 (xC (.int 3))) (gN 2) (tT R)) (sSeq (z1 R) (sSeq z2 (sSeq (z3 R) (sSeq (t4 R) (z5 R)))))) := rfl
theorem z2_ok (d0 : Option (Stt × PyData)) (d : PyData) (n : Nat) (hn : n ≤ 39) (x2 x4 x5 x6 x7 x8 x9 : Option (Stt × PyData)) :
    z2 (lSt d0 d x2 (some (.shr, .int (n : Int))) x4 x5 x6 x7 x8 x9) = some (.nx, lSt d0 d x2 (some (.shr, .int (n : Int))) (some (.own, nmD ((List.range n).map xN))) x5 x6 x7 x8 x9) := by
  have ir : ∀ ρ, irb (some (.int (n : Int))) ρ = some (rngD 0 n, ρ) := fun ρ => e_irb n ρ (by omega)
  have lc := lc_evalT (vs := [7]) (fi := iR1 (xV 3)) (g := gN 7) (t := tYesM) (fe := PyI.x2 (xC (.str "x")) (xB oStr (aC (xV 7) aN)) opAdd) (ρ := lSt d0 d x2 (some (.shr, .int (n : Int))) x4 x5 x6 x7 x8 x9) (ρ1 := lSt d0 d x2 (some (.shr, .int (n : Int))) x4 x5 x6 x7 x8 x9) (l := List.range n) (e := fun i : Nat => .int (i : Int))
    (fun _ => true) (fun i => .str (xN i)) (by unfold lSt; simp [ir, rng_map]) (by rw [List.length_range]; exact Nat.le_trans (show n ≤ 63 by omega) (by decide)) (fun i hi => by
      have hi' : i < 39 := by have := List.mem_range.mp hi; omega
      obtain ⟨q, hq⟩ : ∃ q : Rho, q = [d0, some (.own, d), x2, some (.shr, .int (n : Int)), x4, x5, x6, some (.shr, .int (i : Int)), x8, x9, none] := ⟨_, rfl⟩
      exact ⟨q, by simp [wipeE, hq, lSt], q, by simp, fun h => (by cases h), fun _ => ⟨.kept (.str (xN i)), q, q, by rw [hq]; simp [str_ok hi', addx_ok hi'], by simp, by simp [wipeE, hq, lSt]⟩⟩)
  rw [List.filter_eq_self.mpr (fun _ _ => rfl)] at lc
  unfold z2
  rw [e_st, lc]
  unfold lSt nmD
  simp [restE, wipeE]
/-- the arrows of the row -/
def rowA (n : Nat) : List (Str × Str) := (List.range (n - 1)).map fun i => (xN i, xN (i + 1))
theorem xN_get {n i : Nat} (h : i < n) : (((List.range n).map xN).map PyData.str)[i]? = some (.str (xN i)) := by
  rw [List.getElem?_map, List.getElem?_map, List.getElem?_range h]; rfl
theorem z3a_ok (d0 : Option (Stt × PyData)) (d : PyData) (n : Nat) (hn : n ≤ 39) (h0 : 0 < n) (x2 x5 x6 x7 x8 x9 : Option (Stt × PyData)) :
    z3a (lSt d0 d x2 (some (.shr, .int (n : Int))) (some (.own, nmD ((List.range n).map xN))) x5 x6 x7 x8 x9) = some (.fresh (atD (rowA n)), lSt d0 d x2 (some (.shr, .int (n : Int))) (some (.own, nmD ((List.range n).map xN))) x5 x6 x7 x8 x9) := by
  have en : (n : Int) - 1 = ((n - 1 : Nat) : Int) := by omega
  have ir : ∀ ρ, irb (some (.int ((n : Int) - 1))) ρ = some (rngD 0 (n - 1), ρ) := fun ρ => by rw [en]; exact e_irb (n - 1) ρ (by omega)
  have lc := lc_evalT (vs := [7]) (fi := iR1 (PyI.x2 (xV 3) (xC (.int 1)) opSub)) (g := gN 7) (t := tYesM) (fe := xTup (aC (x2i (xV 4) (xV 7) opIx) (aC (x2i (xV 4) (PyI.x2 (xV 7) (xC (.int 1)) opAdd) opIx) aN))) (ρ := lSt d0 d x2 (some (.shr, .int (n : Int))) (some (.own, nmD ((List.range n).map xN))) x5 x6 x7 x8 x9) (ρ1 := lSt d0 d x2 (some (.shr, .int (n : Int))) (some (.own, nmD ((List.range n).map xN))) x5 x6 x7 x8 x9) (l := List.range (n - 1)) (e := fun i : Nat => .int (i : Int))
    (fun _ => true) (fun i => pairD (xN i, xN (i + 1))) (by unfold lSt; simp [ir, rng_map]) (by rw [List.length_range]; exact Nat.le_trans (show n - 1 ≤ 63 by omega) (by decide)) (fun i hi => by
      have hi' : i < n - 1 := List.mem_range.mp hi
      have g1 : opIx (nmD ((List.range n).map xN)) (.int (i : Int)) = some (.str (xN i)) := by unfold nmD; rw [o_ixL, xN_get (by omega)]
      have g2 : opIx (nmD ((List.range n).map xN)) (.int ((i : Int) + 1)) = some (.str (xN (i + 1))) := by
        have : (i : Int) + 1 = ((i + 1 : Nat) : Int) := by omega
        rw [this]
        unfold nmD; rw [o_ixL, xN_get (by omega)]
      obtain ⟨q, hq⟩ : ∃ q : Rho, q = [d0, some (.own, d), x2, some (.shr, .int (n : Int)), some (.own, nmD ((List.range n).map xN)), x5, x6, some (.shr, .int (i : Int)), x8, x9, none] := ⟨_, rfl⟩
      generalize nmD ((List.range n).map xN) = N at *
      exact ⟨q, by simp [wipeE, hq, lSt], q, by simp, fun h => (by cases h), fun _ => ⟨.kept (pairD (xN i, xN (i + 1))), q, q, by rw [hq]; simp [g1, g2, pairD], by simp, by simp [wipeE, hq, lSt]⟩⟩)
  rw [List.filter_eq_self.mpr (fun _ _ => rfl)] at lc
  unfold z3a
  rw [lc]
  unfold lSt atD rowA
  simp [restE, wipeE, List.map_map, Function.comp_def]
theorem z3_ok (R : Fns) {ns : List Int} (F : Fine5 R ns) (d0 : Option (Stt × PyData)) (d : PyData) (hd : Dr ns d) (n : Nat) (hn : n ≤ 39) (h0 : 0 < n) (x2 x5 x6 x7 x8 x9 : Option (Stt × PyData)) :
    ∃ d' at', Dr ns d' ∧ at'.length ≤ 60 ∧ (∀ p ∈ at', p.1 ∈ (List.range n).map xN) ∧ z3 R (lSt d0 d x2 (some (.shr, .int (n : Int))) (some (.own, nmD ((List.range n).map xN))) x5 x6 x7 x8 x9) = some (.nx, lSt d0 d' x2 (some (.shr, .int (n : Int))) (some (.own, nmD ((List.range n).map xN))) (some (.own, atD at')) x6 x7 x8 x9) := by
  obtain ⟨o, d1, ho, hd1, e1⟩ := F.next d hd n h0 (by omega)
  obtain ⟨o2, d2, ho2, hd2, e2⟩ := F.next d1 hd1 2 (by decide) (by decide)
  have e2' : R.law_next [(.lent, d1), (.shr, .int 2)] = some (.kept (.int (o2 : Int)), some d2) := e2
  have lc := z3a_ok d0 d n hn h0 x2 x5 x6 x7 x8 x9
  have g1 : opIx (nmD ((List.range n).map xN)) (.int ((n : Int) - 1)) = some (.str (xN (n - 1))) := by
    have : (n : Int) - 1 = ((n - 1 : Nat) : Int) := by omega
    rw [this]
    unfold nmD; rw [o_ixL, xN_get (by omega)]
  have g2 : opIx (nmD ((List.range n).map xN)) (.int (o : Int)) = some (.str (xN o)) := by unfold nmD; rw [o_ixL, xN_get ho]
  have sl : opSl (.list [.tuple [.str (xN (n - 1)), .str (xN o)]]) none (some (o2 : Int)) = some (atD ([(xN (n - 1), xN o)].take (min o2 1))) := by
    show some (PyData.list (cutD ([(xN (n - 1), xN o)].map pairD) none (some (o2 : Int)))) = some (PyData.list (([(xN (n - 1), xN o)].take (min o2 1)).map pairD))
    rw [List.map_take]
    unfold cutD
    rw [HT.sIx_none, HT.sIx_nat]
    rfl
  have rl : (rowA n).length ≤ 38 := by unfold rowA; rw [List.length_map, List.length_range]; omega
  have tl : ([(xN (n - 1), xN o)].take (min o2 1)).length ≤ 1 := by rw [List.length_take]; show min _ 1 ≤ 1; omega
  have ad : opAdd (atD (rowA n)) (atD ([(xN (n - 1), xN o)].take (min o2 1))) = some (atD (rowA n ++ [(xN (n - 1), xN o)].take (min o2 1))) := by
    unfold atD
    rw [add_ll _ _ (by rw [List.length_map, List.length_map]; omega), List.map_append]
  refine ⟨d2, rowA n ++ [(xN (n - 1), xN o)].take (min o2 1), hd2, by rw [List.length_append]; omega, fun p hp => ?_, ?_⟩
  · rcases List.mem_append.mp hp with hp | hp
    · obtain ⟨i, hi, rfl⟩ := List.mem_map.mp hp
      exact List.mem_map.mpr ⟨i, List.mem_range.mpr (by have := List.mem_range.mp hi; omega), rfl⟩
    · have := List.mem_of_mem_take hp
      rw [List.mem_singleton] at this
      subst this
      exact List.mem_map.mpr ⟨n - 1, List.mem_range.mpr (by omega), rfl⟩
  · generalize nmD ((List.range n).map xN) = N at *
    have rn : ∀ a : List (Str × Str), resN (atD a) = .fresh (atD a) := fun _ => rfl
    generalize [(xN (n - 1), xN o)].take (min o2 1) = TK at *
    unfold z3
    generalize z3a = Z at *
    generalize hA : atD (rowA n) = A at *
    unfold lSt at *
    simp [lc, e1, e2', g1, g2, sl, ad, rn]
theorem law_holds : ∀ ns : List Int, ns.length ≤ 63 → (lvl 30).law [(.scr, .list (ns.map .int))] = some (.kept (.bool true), none) := by
  intro ns hns
  have F : Fine5 (lvl 29) ns := fine5 ns 26 (Nat.le_refl _)
  show runF 1 11 (m_law (lvl 29)) [(.scr, .list (ns.map .int))] = _
  generalize lvl 29 = R at *
  obtain ⟨d0, hd0⟩ : ∃ d0 : Option (Stt × PyData), d0 = some (.scr, .list (ns.map .int)) := ⟨_, rfl⟩
  have es : sSet 1 (xLst (aC (xScr 0) (aC (xC (.int 0)) (aC (xC (.int 0)) (aC (xC (.int 1)) aN))))) [d0, none, none, none, none, none, none, none, none, none, none] = some (.nx, lSt d0 (stD ns 0 0 1) none none none none none none none none) := by
    subst hd0
    have : ∀ ρ : Rho, xScr 0 (some (.scr, .list (ns.map .int)) :: ρ) = some (.fresh (.list (ns.map .int)), some (.scr, .list (ns.map .int)) :: ρ) := fun ρ => rfl
    unfold lSt stD
    simp [this]
  obtain ⟨d1, y2, y4, y5, y6, y7, y8, y9, hd1, e3⟩ := three_ok R F d0 (stD ns 0 0 1) ⟨0, 0, 1, rfl, by omega, by omega, by omega⟩
  obtain ⟨o, d2, ho, hd2, en⟩ := F.next d1 hd1 20 (by decide) (by decide)
  have en' : R.law_next [(.lent, d1), (.shr, .int 20)] = some (.kept (.int (o : Int)), some d2) := en
  obtain ⟨n, hn⟩ : ∃ n : Nat, n = 20 + o := ⟨_, rfl⟩
  have ez1 : z1 R (lSt d0 d1 y2 none y4 y5 y6 y7 y8 y9) = some (.nx, lSt d0 d2 y2 (some (.shr, .int (n : Int))) y4 y5 y6 y7 y8 y9) := by
    have : (20 : Int) + (o : Int) = (n : Int) := by omega
    unfold z1 lSt
    simp [en', this]
  have ez2 := z2_ok d0 d2 n (by omega) y2 y4 y5 y6 y7 y8 y9
  obtain ⟨d3, at', hd3, al, ins, ez3⟩ := z3_ok R F d0 d2 hd2 n (by omega) (by omega) y2 y5 y6 y7 y8 y9
  have nd : ((List.range n).map xN).Nodup := by
    have : (List.range n).map xN = ((List.range 39).map xN).take n := by rw [← List.map_take, List.take_range, show min n 39 = n by omega]
    rw [this]
    exact xN_nodup.sublist (List.take_sublist _ _)
  have C := case2 nd (by rw [List.length_map, List.length_range]; omega) (by omega) ins
  generalize (List.range n).map xN = nm at *
  obtain ⟨m, hm, e4⟩ := F.due nm at' .bor .bor C (.inr rfl) (.inr rfl)
  have J := judged R F C hm
  have j2 := J.sta .shr .shr (.inl rfl) (.inl rfl)
  have j3 := J.sam
  have j4 := J.jud .shr .shr (.inl rfl) (.inl rfl)
  generalize toldD (Fs at' (sortS nm) m) (sortS nm) = T at *
  have e4' : t4 R (lSt d0 d3 y2 (some (.shr, .int (n : Int))) (some (.own, nmD nm)) (some (.own, atD at')) y6 y7 y8 y9) = some (.nx, lSt d0 d3 y2 (some (.shr, .int (n : Int))) (some (.own, nmD nm)) (some (.own, atD at')) (some (.shr, T)) y7 y8 y9) := by
    unfold t4 lSt; simp [e4]
  have ez5 : z5 R (lSt d0 d3 y2 (some (.shr, .int (n : Int))) (some (.own, nmD nm)) (some (.own, atD at')) (some (.shr, T)) y7 y8 y9) = some (.ret (.kept (.bool true)), lSt d0 d3 y2 (some (.shr, .int (n : Int))) (some (.own, nmD nm)) (some (.own, atD at')) (some (.shr, T)) y7 y8 y9) := by
    unfold nmD atD at *
    unfold z5 lSt; simp [j2, j3, j4]
  have ev : m_law R [d0, none, none, none, none, none, none, none, none, none, none] = some (.ret (.kept (.bool true)), lSt d0 d3 y2 (some (.shr, .int (n : Int))) (some (.own, nmD nm)) (some (.own, atD at')) (some (.shr, T)) y7 y8 y9) := by
    rw [law_eq, e_sq, es, e_sqn, e_sq, e3, e_sqn, e_sq, ez1, e_sqn, e_sq, ez2, e_sqn, e_sq, ez3, e_sqn, e_sq, e4', e_sqn]
    exact ez5
  subst hd0
  exact run_ret rfl rfl ev rfl
end PyK53

open PySem PySem.W PyProof.Rows
set_option maxHeartbeats 0 in
theorem PySem.Challenge.cw_loregreat_k53_notes_that_attack_holds : PySem.Challenge.rw_loregreat_k53_notes_that_attack.Holds := by
  w_on; o_law; k_head; (case hw => w_witness2)
  k_fill
  refine L2.walk_of (l := PySem.Challenge.rw_loregreat_k53_notes_that_attack) (n := 63) (k := 30) (x := "script") (CX := fun _ => L2.CX0) (sp := fun w => PyK53.spLaw _) rfl (by decide) rfl ⟨rfl, by decide, by decide⟩ (fun w h Y => PySem.W.kIn_of Y) ?F (fun _ _ a ns hl on hS => ⟨a, ns, rfl, hS, on, hl, fun _ => rfl⟩) (fun _ _ _ _ _ h => h)
  case F =>
    intro w mg fa h KX G hmg
    refine' PyK53.all_mk PyK53.law_holds KX G hmg ?a_attackers ?l_attackers ?c_attackers ?k_attackers ?a_stands ?l_stands ?c_stands ?k_stands ?a_judge_stands ?l_judge_stands ?c_judge_stands ?k_judge_stands ?a_is_settled ?l_is_settled ?c_is_settled ?k_is_settled ?a_law_next ?l_law_next ?c_law_next ?k_law_next ?a_law_same ?l_law_same ?c_law_same ?k_law_same ?a_law_due ?l_law_due ?c_law_due ?k_law_due ?a_law_accepts ?l_law_accepts ?c_law_accepts ?k_law_accepts ?a_law_spoilt ?l_law_spoilt ?c_law_spoilt ?k_law_spoilt ?a_law ?l_law ?c_law ?k_law ?z_bool ?z_dict ?z_int ?z_isinstance ?z_len ?z_list ?z_range ?z_set ?z_sorted ?z_str ?z_tuple ?t_bool_NoneType ?t_bool_bool ?t_bool_int ?t_bool_str ?t_bool_list ?t_bool_tuple ?t_bool_dict ?t_int_NoneType ?t_int_bool ?t_int_int ?t_int_str ?t_int_list ?t_int_tuple ?t_int_dict ?t_list_NoneType ?t_list_bool ?t_list_int ?t_list_str ?t_list_list ?t_list_tuple ?t_list_dict ?t_str_NoneType ?t_str_bool ?t_str_int ?t_str_str ?t_str_list ?t_str_tuple ?t_str_dict ?t_tuple_NoneType ?t_tuple_bool ?t_tuple_int ?t_tuple_str ?t_tuple_list ?t_tuple_tuple ?t_tuple_dict ?a_LABELS ?l_LABELS
    (case a_attackers => k_is); (case l_attackers => k_is); (case c_attackers => k_is); (case k_attackers => k_is); (case a_stands => k_is); (case l_stands => k_is); (case c_stands => k_is); (case k_stands => k_is); (case a_judge_stands => k_is); (case l_judge_stands => k_is); (case c_judge_stands => k_is); (case k_judge_stands => k_is); (case a_is_settled => k_is); (case l_is_settled => k_is); (case c_is_settled => k_is); (case k_is_settled => k_is); (case a_law_next => k_is); (case l_law_next => k_is); (case c_law_next => k_is); (case k_law_next => k_is); (case a_law_same => k_is); (case l_law_same => k_is); (case c_law_same => k_is); (case k_law_same => k_is); (case a_law_due => k_is); (case l_law_due => k_is); (case c_law_due => k_is); (case k_law_due => k_is); (case a_law_accepts => k_is); (case l_law_accepts => k_is); (case c_law_accepts => k_is); (case k_law_accepts => k_is); (case a_law_spoilt => k_is); (case l_law_spoilt => k_is); (case c_law_spoilt => k_is); (case k_law_spoilt => k_is); (case a_law => k_is); (case l_law => k_is); (case c_law => k_is); (case k_law => k_is); (case z_bool => k_is); (case z_dict => k_is); (case z_int => k_is); (case z_isinstance => k_is); (case z_len => k_is); (case z_list => k_is); (case z_range => k_is); (case z_set => k_is); (case z_sorted => k_is); (case z_str => k_is); (case z_tuple => k_is); (case t_bool_NoneType => first | kit_is | rfl); (case t_bool_bool => first | kit_is | rfl); (case t_bool_int => first | kit_is | rfl); (case t_bool_str => first | kit_is | rfl); (case t_bool_list => first | kit_is | rfl); (case t_bool_tuple => first | kit_is | rfl); (case t_bool_dict => first | kit_is | rfl); (case t_int_NoneType => first | kit_is | rfl); (case t_int_bool => first | kit_is | rfl); (case t_int_int => first | kit_is | rfl); (case t_int_str => first | kit_is | rfl); (case t_int_list => first | kit_is | rfl); (case t_int_tuple => first | kit_is | rfl); (case t_int_dict => first | kit_is | rfl); (case t_list_NoneType => first | kit_is | rfl); (case t_list_bool => first | kit_is | rfl); (case t_list_int => first | kit_is | rfl); (case t_list_str => first | kit_is | rfl); (case t_list_list => first | kit_is | rfl); (case t_list_tuple => first | kit_is | rfl); (case t_list_dict => first | kit_is | rfl); (case t_str_NoneType => first | kit_is | rfl); (case t_str_bool => first | kit_is | rfl); (case t_str_int => first | kit_is | rfl); (case t_str_str => first | kit_is | rfl); (case t_str_list => first | kit_is | rfl); (case t_str_tuple => first | kit_is | rfl); (case t_str_dict => first | kit_is | rfl); (case t_tuple_NoneType => first | kit_is | rfl); (case t_tuple_bool => first | kit_is | rfl); (case t_tuple_int => first | kit_is | rfl); (case t_tuple_str => first | kit_is | rfl); (case t_tuple_list => first | kit_is | rfl); (case t_tuple_tuple => first | kit_is | rfl); (case t_tuple_dict => first | kit_is | rfl); (case a_LABELS => k_is); (case l_LABELS => k_is)

