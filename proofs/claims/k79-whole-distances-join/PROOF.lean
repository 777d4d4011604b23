import PyProof.Rows.All
import HandS.ForMost
import HandS.IsInst
import HandS.TupAny
import HandS.Style
import HandS.Flow
import HandS.WordsDict
import KE.DataEq
import KE.KDictPairs
import HandS.More
import HandS.SortInts
import HandS.Small
import HandS.SetFor
import HandS.Strs
import HandS.DictComp
import HandS.ListItems
import HandS.TryOnly
import PySem.Challenge.RW_loregreat_k79_whole_distances_join
set_option Elab.async false
set_option linter.all false
set_option maxRecDepth 100000
/-! PyI, part 0: new tuples, tracked with their object (so it is known that they have no dict of their own). -/
namespace PyI
open PySem PySem.Spec L2
section
variable {X : Cx} {pins : List (Addr × Obj)} {σ : L2.St} {H : Hp} {s : Shared}
def tupOb (us : List Value) : Obj := { cls := .type "tuple", data := .seq us.toArray }
theorem tupOb_laid {xs : List V} {us : List Value} {k : Nat} (I : Inv X pins σ H s) (r : Vals xs us) (z : xs.length ≤ sizeLine) : Inv X pins σ (upd H s.heap.objs.size (.frz (tupOb us) (.tup xs))) { s with heap := s.heap.push (tupOb us), toks := k } := by
  apply I.laid
  · intro b u e; exact Heap.get?_push_of_some _ e
  · exact Nat.le_refl _
  · exact ⟨Heap.get?_push_size _ rfl, z, us, r, PyProof.Rows.IsTup.new _ _⟩
/-- what a new tuple must do -/
def NewT (H : Hp) (xs : List V) (Q : VK) : Prop := ∀ p o, H p = none → o.dict = none → Q (.ref p) (upd H p (.frz o (.tup xs)))
theorem NewT.put {xs : List V} {us : List Value} {Q : VK} {k : Nat} (n : NewT H xs Q) (I : Inv X pins σ H s) (r : Vals xs us) (z : xs.length ≤ sizeLine) : EP X pins σ Q (.ref s.heap.objs.size) { s with heap := s.heap.push (tupOb us), toks := k } :=
  ⟨.ref s.heap.objs.size, _, tupOb_laid I r z, rfl, n _ _ (I.hok.fresh (Nat.le_refl _)) rfl⟩
end
section
variable {X : Cx} {es : List Expr} {t : TA} {pos : Pos}
def tTupN (t : TA) : TE := fun σ H Q => t σ H fun xs H1 => xs.length ≤ sizeLine ∧ NewT H1 xs Q
theorem pe_tupN {k1} (h : PA X es t) : PE X (.Tuple es k1 pos) (tTupN t) := by
  constructor
  intro pins s σ H Q I hq
  apply wpAny_Tuple_spliced
  refine thn (h.run pos pins s σ H _ I hq) ?_
  rintro us s1 ⟨xs, H1, I1, r, z, q⟩
  exact ⟨by rw [← r.length]; exact z, q.put (k := s1.toks) I1 r z⟩
theorem call_tupN : CallR X (.type "tuple") (fun xs H Q => ∃ p ys, xs = [.ref p] ∧ ((SqL X.K H p ys ∧ NewT H ys Q) ∨ (SqT X.K H p ys ∧ Q (.ref p) H))) := by
  rintro pins s σ H xs us Q I r ⟨p, ys, rfl, h⟩
  obtain ⟨u, rfl, ru⟩ := vals1 r
  cases ru
  rcases h with ⟨a, q⟩ | ⟨a, q⟩
  · obtain ⟨its, ri, pl, z⟩ := I.list a
    have hl := ri.length
    refine PySem.call_tuple_list pl.isList (fun h2 kp => ?_) (by simp only [List.size_toArray] <;> omega)
    have I2 : Inv X pins σ H { s with heap := h2 } := I.kept (t' := s.toks) kp
    exact q.put (k := s.toks) I2 ri z
  · obtain ⟨its, ri, pl, z⟩ := I.tuple a
    exact call_tuple_same pl ⟨.ref p, H, I, rfl, q⟩
def rCatN (K : PySem.W.Frag) : R2 := fun x y H Q => ∃ a b xs ys, x = .ref a ∧ y = .ref b ∧ SqT K H a xs ∧ SqT K H b ys ∧ xs.length + ys.length ≤ sizeLine ∧
  (xs = [] → Q (.ref b) H) ∧ (xs ≠ [] → ys = [] → Q (.ref a) H) ∧ (xs ≠ [] → ys ≠ [] → NewT H (xs ++ ys) Q)
theorem op_catN : OpR X (binaryOp .Add) (rCatN X.K) := by
  rintro pins s σ H x y v u Q I rx ry ⟨a, b, xs, ys, rfl, rfl, ha, hb, hz, q0, q1, q2⟩
  cases rx
  cases ry
  obtain ⟨its, r1, p1, _⟩ := I.tuple ha
  obtain ⟨jts, r2, p2, _⟩ := I.tuple hb
  by_cases hx : xs = []
  · subst hx
    cases r1
    exact cat_tup0 p1 p2 ⟨.ref b, H, I, rfl, q0 rfl⟩
  · refine HT.cat_tup p1 p2 (fun z => hx (r1.nil_iff.mp z)) (fun z => ⟨.ref a, H, I, rfl, q1 hx (r2.nil_iff.mp z)⟩) (fun z => ?_) (by rw [← r1.length, ← r2.length]; exact hz)
    exact (q2 hx fun w => z (r2.nil_iff.mpr w)).put (k := s.toks) I (r1.append r2) (by rw [List.length_append]; exact hz)
def rSlN (K : PySem.W.Frag) : V → Option Int → Option Int → Hp → VK → Prop := fun x lo hi H Q => ∃ a xs, x = .ref a ∧ SqT K H a xs ∧
  (HT.sIx xs.length 0 lo = 0 ∧ HT.sIx xs.length xs.length hi = xs.length → Q (.ref a) H) ∧ (¬ (HT.sIx xs.length 0 lo = 0 ∧ HT.sIx xs.length xs.length hi = xs.length) → NewT H (cutV xs lo hi) Q)
theorem sl_tupN : SlR X (rSlN X.K) := by
  rintro pins s σ H x v vl vu lo hi sl Q I rx hs pl pu ⟨a, xs, rfl, hx, q1, q2⟩
  cases rx
  obtain ⟨its, r, ht, hz⟩ := I.tuple hx
  have hl : its.toArray.size = xs.length := by rw [List.size_toArray]; exact r.length.symm
  refine ⟨"tuple", _, PyProof.Rows.slot_tuple_getitem.lookup, ht.typeIs, ?_⟩
  by_cases hw : HT.sIx xs.length 0 lo = 0 ∧ HT.sIx xs.length xs.length hi = xs.length
  · exact getItem_tuple_whole ht hs pl pu (by rw [hl]; exact hw) ⟨.ref a, H, I, rfl, q1 hw⟩
  · refine HT.getItem_tuple_cut ht hs pl pu (by rw [hl]; exact hw) ?_ (by rw [hl]; exact hz)
    rw [hl]
    exact (q2 hw).put (k := s.toks) I ((r.drop _).take _) (Nat.le_trans (cutV_length xs lo hi) hz)
end
end PyI

/-! PyI: a small evaluator by value for the model's programs over plain data, and that it is right. Part A: values, states, frames. -/
namespace PyI
open PySem PySem.Spec L2

/-- who may do what with the list or dict in a slot: shared (read, handed on), owned (changed, handed on: then shared), lent (changed), borrowed (read), the script -/
inductive Stt | shr | own | lent | bor | scr
  deriving DecidableEq
abbrev Rho := List (Option (Stt × PyData))
/-- what an expression gives: data that is shared, a new list or dict, or the slot of a name -/
inductive Rs | kept (d : PyData) | fresh (d : PyData) | slot (i : Nat)
abbrev Mo (α : Type) := Rho → Option (α × Rho)

def keyD : Key → PyData
  | .inl i => .int i
  | .inr x => .str x

/-! ### data in the abstract heap -/
def KTup (K : PySem.W.Frag) (a : Addr) (vs : List V) : Prop :=
  ∃ (o : Obj) (its : Array Value) (n : Nat), K.lookup a = some o ∧ o.cls = .type "tuple" ∧ o.data = .seq its n ∧ its.size ≤ sizeLine ∧ Vals vs its.toList
def STup (K : PySem.W.Frag) (S : Addr → Prop) (H : Hp) (a : Addr) (vs : List V) : Prop := (S a ∧ Rd H a (.tup vs)) ∨ KTup K a vs
/-- a pair whose first part is a text; a row of such pairs -/
def pairB : PyData → Bool
  | .tuple [.str _, _] => true
  | _ => false
def pairsB (ds : List PyData) : Bool := ds.all pairB
/-- the tuple at a has no dict of its own -/
def PlT (S : Addr → Prop) (H : Hp) (a : Addr) (vs : List V) : Prop := S a ∧ ∃ o, H a = some (.frz o (.tup vs)) ∧ o.dict = none
mutual
inductive Rp (K : PySem.W.Frag) (S : Addr → Prop) (H : Hp) : V → PyData → Prop
  | non : Rp K S H .non .none
  | bl (b : Bool) : Rp K S H (.bl b) (.bool b)
  | int (i : Int) : Rp K S H (.int i) (.int i)
  | str (x : Str) : Rp K S H (.str x) (.str x)
  | tup {a : Addr} {vs : List V} {ds : List PyData} : STup K S H a vs → RpL K S H vs ds → (pairsB ds = true → PlT S H a vs) → Rp K S H (.ref a) (.tuple ds)
  | lst {a : Addr} {vs : List V} {ds : List PyData} : S a → H a = some (.lst vs) → RpL K S H vs ds → Rp K S H (.ref a) (.list ds)
  | dct {a : Addr} {ts : List (Key × V)} {kvs : List (PyData × PyData)} : S a → Rd H a (.dK ts) → kvs.map (·.1) = ts.map (fun p => keyD p.1) → RpL K S H (ts.map (·.2)) (kvs.map (·.2)) → Rp K S H (.ref a) (.dict kvs)
inductive RpL (K : PySem.W.Frag) (S : Addr → Prop) (H : Hp) : List V → List PyData → Prop
  | nil : RpL K S H [] []
  | cons {v : V} {vs : List V} {d : PyData} {ds : List PyData} : Rp K S H v d → RpL K S H vs ds → RpL K S H (v :: vs) (d :: ds)
end
section
variable {K : PySem.W.Frag} {S S' : Addr → Prop} {H H' : Hp}
/-- one heap behind another: what is shared stands -/
structure Uph (S : Addr → Prop) (H : Hp) (S' : Addr → Prop) (H' : Hp) : Prop where
  sh : ∀ a, S a → S' a
  at' : ∀ a o, S a → H a = some o → H' a = some o
theorem Uph.rd {a : Addr} {o : HO} (u : Uph S H S' H') (hs : S a) (h : Rd H a o) : Rd H' a o := by
  rcases h with h | ⟨ob, h⟩
  · exact .inl (u.at' a _ hs h)
  · exact .inr ⟨ob, u.at' a _ hs h⟩
theorem Uph.stup {a : Addr} {vs : List V} (u : Uph S H S' H') (h : STup K S H a vs) : STup K S' H' a vs := by
  rcases h with ⟨h1, h2⟩ | h
  · exact .inl ⟨u.sh a h1, u.rd h1 h2⟩
  · exact .inr h
theorem Uph.plt {a : Addr} {vs : List V} (u : Uph S H S' H') (h : PlT S H a vs) : PlT S' H' a vs := by
  obtain ⟨h1, o, h2, h3⟩ := h
  exact ⟨u.sh a h1, o, u.at' a _ h1 h2, h3⟩
mutual
theorem Rp.up (u : Uph S H S' H') : ∀ {v : V} {d : PyData}, Rp K S H v d → Rp K S' H' v d
  | _, _, .non => .non
  | _, _, .bl b => .bl b
  | _, _, .int i => .int i
  | _, _, .str x => .str x
  | _, _, .tup h r p => .tup (u.stup h) (RpL.up u r) fun e => u.plt (p e)
  | _, _, .lst hs h r => .lst (u.sh _ hs) (u.at' _ _ hs h) (RpL.up u r)
  | _, _, .dct hs h k r => .dct (u.sh _ hs) (u.rd hs h) k (RpL.up u r)
theorem RpL.up (u : Uph S H S' H') : ∀ {vs : List V} {ds : List PyData}, RpL K S H vs ds → RpL K S' H' vs ds
  | _, _, .nil => .nil
  | _, _, .cons h r => .cons (Rp.up u h) (RpL.up u r)
end
theorem Uph.refl : Uph S H S H := ⟨fun _ h => h, fun _ _ _ h => h⟩
theorem Uph.trans {S'' : Addr → Prop} {H'' : Hp} (a : Uph S H S' H') (b : Uph S' H' S'' H'') : Uph S H S'' H'' :=
  ⟨fun x h => b.sh x (a.sh x h), fun x o h e => b.at' x o (a.sh x h) (a.at' x o h e)⟩
theorem RpL.len : ∀ {vs : List V} {ds : List PyData}, RpL K S H vs ds → vs.length = ds.length
  | _, _, .nil => rfl
  | _, _, .cons _ r => by rw [List.length_cons, List.length_cons, r.len]
theorem RpL.get : ∀ {vs : List V} {ds : List PyData} {i : Nat} {d : PyData}, RpL K S H vs ds → ds[i]? = some d → ∃ v, vs[i]? = some v ∧ Rp K S H v d
  | _, _, _, _, .nil, e => by simp at e
  | _, _, 0, _, .cons h _, e => by simp at e; subst e; exact ⟨_, rfl, h⟩
  | _, _, i + 1, d, .cons _ r, e => by
    obtain ⟨v, h1, h2⟩ := RpL.get (i := i) (d := d) r (by simpa using e)
    exact ⟨v, by simpa using h1, h2⟩
theorem RpL.get' : ∀ {vs : List V} {ds : List PyData} {i : Nat} {v : V}, RpL K S H vs ds → vs[i]? = some v → ∃ d, ds[i]? = some d ∧ Rp K S H v d
  | _, _, _, _, .nil, e => by simp at e
  | _, _, 0, _, .cons h _, e => by simp at e; subst e; exact ⟨_, rfl, h⟩
  | _, _, i + 1, v, .cons _ r, e => by
    obtain ⟨d, h1, h2⟩ := RpL.get' (i := i) (v := v) r (by simpa using e)
    exact ⟨d, by simpa using h1, h2⟩
theorem RpL.app : ∀ {vs ws : List V} {ds es : List PyData}, RpL K S H vs ds → RpL K S H ws es → RpL K S H (vs ++ ws) (ds ++ es)
  | _, _, _, _, .nil, s => s
  | _, _, _, _, .cons h r, s => .cons h (RpL.app r s)
theorem RpL.take : ∀ {vs : List V} {ds : List PyData} (n : Nat), RpL K S H vs ds → RpL K S H (vs.take n) (ds.take n)
  | _, _, 0, _ => .nil
  | _, _, _ + 1, .nil => .nil
  | _, _, n + 1, .cons h r => .cons h (RpL.take n r)
theorem RpL.drop : ∀ {vs : List V} {ds : List PyData} (n : Nat), RpL K S H vs ds → RpL K S H (vs.drop n) (ds.drop n)
  | _, _, 0, r => r
  | _, _, _ + 1, .nil => .nil
  | _, _, n + 1, .cons _ r => RpL.drop n r
theorem RpL.set {v : V} {d : PyData} (h : Rp K S H v d) : ∀ {vs : List V} {ds : List PyData} (i : Nat), RpL K S H vs ds → RpL K S H (vs.set i v) (ds.set i d)
  | _, _, _, .nil => .nil
  | _, _, 0, .cons _ r => .cons h r
  | _, _, i + 1, .cons q r => .cons q (RpL.set h i r)
theorem RpL.erase : ∀ {vs : List V} {ds : List PyData} (i : Nat), RpL K S H vs ds → RpL K S H (vs.eraseIdx i) (ds.eraseIdx i)
  | _, _, _, .nil => .nil
  | _, _, 0, .cons _ r => r
  | _, _, i + 1, .cons q r => .cons q (RpL.erase i r)
theorem RpL.rev : ∀ {vs : List V} {ds : List PyData}, RpL K S H vs ds → RpL K S H vs.reverse ds.reverse
  | _, _, .nil => .nil
  | _, _, .cons h r => by
    rw [List.reverse_cons, List.reverse_cons]
    exact (RpL.rev r).app (.cons h .nil)
theorem RpL.ints : ∀ ns : List Int, RpL K S H (ns.map V.int) (ns.map PyData.int)
  | [] => .nil
  | n :: ns => .cons (.int n) (RpL.ints ns)
theorem RpL.strs : ∀ ns : List Str, RpL K S H (ns.map V.str) (ns.map PyData.str)
  | [] => .nil
  | n :: ns => .cons (.str n) (RpL.strs ns)
end

/-! ### what is read at the top of a value, and what may be changed -/
/-- the list or dict at a, as it stands (ex: not under a lock) -/
def TopX (K : PySem.W.Frag) (S : Addr → Prop) (H : Hp) (a : Addr) : PyData → Prop
  | .list ds => ∃ vs, H a = some (.lst vs) ∧ RpL K S H vs ds
  | .dict kvs => ∃ ts, H a = some (.dK ts) ∧ kvs.map (·.1) = ts.map (fun p => keyD p.1) ∧ RpL K S H (ts.map (·.2)) (kvs.map (·.2))
  | _ => False
/-- .. or under a lock -/
def TopR (K : PySem.W.Frag) (S : Addr → Prop) (H : Hp) (a : Addr) : PyData → Prop
  | .list ds => ∃ vs, H a = some (.lst vs) ∧ RpL K S H vs ds
  | .dict kvs => ∃ ts, Rd H a (.dK ts) ∧ kvs.map (·.1) = ts.map (fun p => keyD p.1) ∧ RpL K S H (ts.map (·.2)) (kvs.map (·.2))
  | _ => False
/-- the value v may be read as d -/
def Rdb (K : PySem.W.Frag) (S : Addr → Prop) (H : Hp) (v : V) (d : PyData) : Prop := Rp K S H v d ∨ ∃ a, v = .ref a ∧ TopR K S H a d
section
variable {K : PySem.W.Frag} {S S' : Addr → Prop} {H H' : Hp} {a : Addr} {d : PyData}
theorem TopX.r (h : TopX K S H a d) : TopR K S H a d := by
  cases d with
  | list ds => exact h
  | dict kvs => obtain ⟨ts, h1, h2⟩ := h; exact ⟨ts, .inl h1, h2⟩
  | _ => exact h
theorem TopX.there (h : TopX K S H a d) : H a ≠ none := by
  cases d with
  | list ds => obtain ⟨vs, h1, _⟩ := h; rw [h1]; simp
  | dict kvs => obtain ⟨ts, h1, _⟩ := h; rw [h1]; simp
  | _ => exact h.elim
theorem TopR.there (h : TopR K S H a d) : H a ≠ none := by
  cases d with
  | list ds => obtain ⟨vs, h1, _⟩ := h; rw [h1]; simp
  | dict kvs =>
    obtain ⟨ts, h1, _⟩ := h
    rcases h1 with h1 | ⟨o, h1⟩ <;> rw [h1] <;> simp
  | _ => exact h.elim
theorem TopX.up (u : Uph S H S' H') (e : ∀ o, H a = some o → H' a = some o) (h : TopX K S H a d) : TopX K S' H' a d := by
  cases d with
  | list ds => obtain ⟨vs, h1, h2⟩ := h; exact ⟨vs, e _ h1, h2.up u⟩
  | dict kvs => obtain ⟨ts, h1, h2, h3⟩ := h; exact ⟨ts, e _ h1, h2, h3.up u⟩
  | _ => exact h.elim
theorem TopR.up (u : Uph S H S' H') (e : ∀ o, H a = some o → H' a = some o) (h : TopR K S H a d) : TopR K S' H' a d := by
  cases d with
  | list ds => obtain ⟨vs, h1, h2⟩ := h; exact ⟨vs, e _ h1, h2.up u⟩
  | dict kvs =>
    obtain ⟨ts, h1, h2, h3⟩ := h
    refine ⟨ts, ?_, h2, h3.up u⟩
    rcases h1 with h1 | ⟨o, h1⟩
    · exact .inl (e _ h1)
    · exact .inr ⟨o, e _ h1⟩
  | _ => exact h.elim
/-- given away: it is shared from now on -/
theorem TopX.give (h : TopX K S H a d) : Rp K (fun b => S b ∨ b = a) H (.ref a) d := by
  have u : Uph S H (fun b => S b ∨ b = a) H := ⟨fun _ h => .inl h, fun _ _ _ h => h⟩
  cases d with
  | list ds => obtain ⟨vs, h1, h2⟩ := h; exact .lst (.inr rfl) h1 (h2.up u)
  | dict kvs => obtain ⟨ts, h1, h2, h3⟩ := h; exact .dct (.inr rfl) (.inl h1) h2 (h3.up u)
  | _ => exact h.elim
end

/-! ### the frame's state -/
def Stt.hold : Stt → Bool
  | .own => true | .lent => true | .bor => true | _ => false
def Stt.mut : Stt → Bool
  | .own => true | .lent => true | _ => false
def KLst (K : PySem.W.Frag) (H : Hp) (a : Addr) (ns : List Int) : Prop := SqL K H a (ns.map V.int) ∧ ((∃ o, H a = some (.frz o (.lst (ns.map V.int)))) ∨ ∀ H', SqL K H' a (ns.map V.int))
def SlotRep (K : PySem.W.Frag) (S : Addr → Prop) (H : Hp) (v : V) (d : PyData) : Stt → Prop
  | .shr => Rp K S H v d
  | .own => ∃ a, v = .ref a ∧ ¬ S a ∧ TopX K S H a d
  | .lent => ∃ a, v = .ref a ∧ ¬ S a ∧ TopX K S H a d
  | .bor => ∃ a, v = .ref a ∧ ¬ S a ∧ TopR K S H a d
  | .scr => ∃ a ns, v = .ref a ∧ d = .list (ns.map PyData.int) ∧ KLst K H a ns
/-- the object at a may change: an owned or lent slot holds it -/
def Mu (ρ : Rho) (σ : St) (a : Addr) : Prop := ∃ (i : Nat) (st : Stt) (d : PyData), ρ[i]? = some (some (st, d)) ∧ st.mut = true ∧ σ[i]? = some (some (V.ref a))
structure Gd (K : PySem.W.Frag) (S : Addr → Prop) (ρ : Rho) (σ : St) (H : Hp) : Prop where
  len : ρ.length = σ.length
  sl : ∀ (i : Nat) (st : Stt) (d : PyData), ρ[i]? = some (some (st, d)) → ∃ v, σ[i]? = some (some v) ∧ SlotRep K S H v d st
  ne : ∀ (i j : Nat) (a : Addr) (st : Stt) (d : PyData) (st' : Stt) (d' : PyData), ρ[i]? = some (some (st, d)) → ρ[j]? = some (some (st', d')) → st.hold = true → st'.hold = true → σ[i]? = some (some (V.ref a)) → σ[j]? = some (some (V.ref a)) → i = j
  al : ∀ a, S a → H a ≠ none
/-- how a state stands behind another one, the slots' values the same -/
structure Fm (S : Addr → Prop) (ρ : Rho) (σ : St) (H : Hp) (S' : Addr → Prop) (ρ' : Rho) (H' : Hp) : Prop where
  dom : ∀ a, H a ≠ none → H' a ≠ none
  keep : ∀ a o, H a = some o → ¬ Mu ρ σ a → H' a = some o
  sh : ∀ a, S a → S' a
  new : ∀ a, S' a → S a ∨ Mu ρ σ a ∨ H a = none
  len : ρ'.length = ρ.length
  non : ∀ i : Nat, ρ[i]? = some none → ρ'[i]? = some none
  sts : ∀ (i : Nat) (st : Stt) (d : PyData), ρ[i]? = some (some (st, d)) → ∃ st' d', ρ'[i]? = some (some (st', d')) ∧ (st' = st ∨ (st = .own ∧ st' = .shr)) ∧ (st.mut = false → d' = d)

section
variable {K : PySem.W.Frag} {S S' S'' : Addr → Prop} {ρ ρ' ρ'' : Rho} {σ : St} {H H' H'' : Hp} {a : Addr}
theorem Gd.notMu (g : Gd K S ρ σ H) (h : S a) : ¬ Mu ρ σ a := by
  rintro ⟨i, st, d, h1, h2, h3⟩
  obtain ⟨v, e, r⟩ := g.sl i st d h1
  rw [h3] at e; cases e
  cases st with
  | own => obtain ⟨b, e, n, _⟩ := r; cases e; exact n h
  | lent => obtain ⟨b, e, n, _⟩ := r; cases e; exact n h
  | _ => cases h2
theorem Mu.there (g : Gd K S ρ σ H) (h : Mu ρ σ a) : H a ≠ none := by
  obtain ⟨i, st, d, h1, h2, h3⟩ := h
  obtain ⟨v, e, r⟩ := g.sl i st d h1
  rw [h3] at e; cases e
  cases st with
  | own => obtain ⟨b, e, _, t⟩ := r; cases e; exact TopX.there t
  | lent => obtain ⟨b, e, _, t⟩ := r; cases e; exact TopX.there t
  | _ => cases h2
theorem Fm.up (g : Gd K S ρ σ H) (f : Fm S ρ σ H S' ρ' H') : Uph S H S' H' := ⟨f.sh, fun a o hs e => f.keep a o e (g.notMu hs)⟩
theorem Fm.refl : Fm S ρ σ H S ρ H := ⟨fun _ h => h, fun _ _ h _ => h, fun _ h => h, fun _ h => .inl h, rfl, fun _ h => h, fun i st d h => ⟨st, d, h, .inl rfl, fun _ => rfl⟩⟩
theorem Fm.back (f : Fm S ρ σ H S' ρ' H') {i : Nat} {st' : Stt} {d' : PyData} (h : ρ'[i]? = some (some (st', d'))) : ∃ st d, ρ[i]? = some (some (st, d)) ∧ (st' = st ∨ (st = .own ∧ st' = .shr)) ∧ (st.mut = false → d' = d) := by
  have hl := (List.getElem?_eq_some_iff.mp h).1
  rw [f.len] at hl
  cases e : ρ[i]? with
  | none => rw [List.getElem?_eq_none_iff] at e; omega
  | some x =>
    cases x with
    | none => have := f.non i e; rw [h] at this; cases this
    | some p =>
      obtain ⟨st, d⟩ := p
      obtain ⟨st2, d2, h2, h3, h4⟩ := f.sts i st d e
      rw [h] at h2; cases h2
      exact ⟨st, d, rfl, h3, h4⟩
theorem Fm.mu (f : Fm S ρ σ H S' ρ' H') (h : Mu ρ' σ a) : Mu ρ σ a := by
  obtain ⟨i, st', d', h1, h2, h3⟩ := h
  obtain ⟨st, d, e, q, _⟩ := f.back h1
  refine ⟨i, st, d, e, ?_, h3⟩
  rcases q with q | ⟨_, q⟩
  · rw [← q]; exact h2
  · rw [q] at h2; cases h2
theorem Fm.trans (f : Fm S ρ σ H S' ρ' H') (f' : Fm S' ρ' σ H' S'' ρ'' H'') : Fm S ρ σ H S'' ρ'' H'' where
  dom := fun a h => f'.dom a (f.dom a h)
  keep := fun a o e n => f'.keep a o (f.keep a o e n) fun m => n (f.mu m)
  sh := fun a h => f'.sh a (f.sh a h)
  new := fun a h => by
    rcases f'.new a h with h | h | h
    · exact f.new a h
    · exact .inr (.inl (f.mu h))
    · refine .inr (.inr ?_)
      cases e : H a with
      | none => rfl
      | some o => exact absurd h (f.dom a (by rw [e]; simp))
  len := f'.len.trans f.len
  non := fun i h => f'.non i (f.non i h)
  sts := fun i st d h => by
    obtain ⟨st1, d1, h1, q1, m1⟩ := f.sts i st d h
    obtain ⟨st2, d2, h2, q2, m2⟩ := f'.sts i st1 d1 h1
    refine ⟨st2, d2, h2, ?_, fun m => ?_⟩
    · rcases q1 with rfl | ⟨rfl, rfl⟩
      · exact q2
      · rcases q2 with rfl | ⟨q, _⟩
        · exact .inr ⟨rfl, rfl⟩
        · cases q
    · have hd := m1 m
      rcases q1 with rfl | ⟨rfl, rfl⟩
      · rw [m2 m, hd]
      · cases m
end

/-! ### the heap grows -/
/-- only new objects; some of them are shared -/
structure Gw (S : Addr → Prop) (H : Hp) (S' : Addr → Prop) (H' : Hp) : Prop where
  keep : ∀ a o, H a = some o → H' a = some o
  sh : ∀ a, S a → S' a
  new : ∀ a, S' a → S a ∨ H a = none
  al : ∀ a, S' a → H' a ≠ none
section
variable {K : PySem.W.Frag} {S S' S'' : Addr → Prop} {ρ ρ' ρ'' : Rho} {σ : St} {H H' H'' : Hp} {a : Addr}
theorem Gw.refl (al : ∀ a, S a → H a ≠ none) : Gw S H S H := ⟨fun _ _ h => h, fun _ h => h, fun _ h => .inl h, al⟩
theorem Gw.up (e : Gw S H S' H') : Uph S H S' H' := ⟨e.sh, fun a o _ h => e.keep a o h⟩
theorem Gw.dom (e : Gw S H S' H') (a : Addr) (h : H a ≠ none) : H' a ≠ none := by
  cases q : H a with
  | none => exact absurd q h
  | some o => rw [e.keep a o q]; simp
theorem Gw.trans (e : Gw S H S' H') (e' : Gw S' H' S'' H'') : Gw S H S'' H'' where
  keep := fun a o h => e'.keep a o (e.keep a o h)
  sh := fun a h => e'.sh a (e.sh a h)
  new := fun a h => by
    rcases e'.new a h with h | h
    · exact e.new a h
    · refine .inr ?_
      cases q : H a with
      | none => rfl
      | some o => rw [e.keep a o q] at h; cases h
  al := e'.al
theorem Gw.fr (e : Gw S H S' H') : Fm S ρ σ H S' ρ H' := ⟨e.dom, fun a o h _ => e.keep a o h, e.sh, fun a h => (e.new a h).imp_right .inr, rfl, fun _ h => h, fun i st d h => ⟨st, d, h, .inl rfl, fun _ => rfl⟩⟩
theorem KLst.keep {ns : List Int} (k : ∀ o, H a = some (.frz o (.lst (ns.map V.int))) → H' a = some (.frz o (.lst (ns.map V.int)))) (h : KLst K H a ns) : KLst K H' a ns := by
  obtain ⟨h1, h2 | h2⟩ := h
  · obtain ⟨o, h2⟩ := h2
    exact ⟨.inl (.inr ⟨o, k o h2⟩), .inl ⟨o, k o h2⟩⟩
  · exact ⟨h2 H', .inr h2⟩
theorem SlotRep.ext {v : V} {d : PyData} {st : Stt} (e : Gw S H S' H') (h : SlotRep K S H v d st) : SlotRep K S' H' v d st := by
  have nS : ∀ a, H a ≠ none → ¬ S a → ¬ S' a := fun a hs n h' => (e.new a h').elim n hs
  cases st with
  | shr => exact Rp.up e.up h
  | own => obtain ⟨a, rfl, n, t⟩ := h; exact ⟨a, rfl, nS a (TopX.there t) n, TopX.up e.up (e.keep a) t⟩
  | lent => obtain ⟨a, rfl, n, t⟩ := h; exact ⟨a, rfl, nS a (TopX.there t) n, TopX.up e.up (e.keep a) t⟩
  | bor => obtain ⟨a, rfl, n, t⟩ := h; exact ⟨a, rfl, nS a (TopR.there t) n, TopR.up e.up (e.keep a) t⟩
  | scr => obtain ⟨a, ns, rfl, e1, k⟩ := h; exact ⟨a, ns, rfl, e1, KLst.keep (fun o => e.keep a _) k⟩
theorem Gd.ext (g : Gd K S ρ σ H) (e : Gw S H S' H') : Gd K S' ρ σ H' :=
  ⟨g.len, fun i st d h => let ⟨v, h1, h2⟩ := g.sl i st d h; ⟨v, h1, h2.ext e⟩, g.ne, e.al⟩
/-- an object laid, shared -/
theorem Gw.layS (g : ∀ a, S a → H a ≠ none) {p : Addr} {o : HO} (hp : H p = none) : Gw S H (fun b => S b ∨ b = p) (upd H p o) where
  keep := fun a q h => by rw [upd_ne (ne_of_none h hp)]; exact h
  sh := fun _ h => .inl h
  new := fun a h => h.elim .inl fun e => .inr (by rw [e]; exact hp)
  al := fun a h => by
    rcases h with h | h
    · by_cases e : a = p
      · rw [e, upd_same]; simp
      · rw [upd_ne e]; exact g a h
    · rw [h, upd_same]; simp
/-- an object laid, not shared -/
theorem Gw.lay (g : ∀ a, S a → H a ≠ none) {p : Addr} {o : HO} (hp : H p = none) : Gw S H S (upd H p o) where
  keep := fun a q h => by rw [upd_ne (ne_of_none h hp)]; exact h
  sh := fun _ h => h
  new := fun a h => .inl h
  al := fun a h => by
    by_cases e : a = p
    · rw [e, upd_same]; simp
    · rw [upd_ne e]; exact g a h
end
end PyI

/-! PyI, part B: results, the readings by the evaluator, names, constants, operators. -/
namespace PyI
open PySem PySem.Spec L2

/-! ### the evaluator's small pieces -/
def bindM {α β : Type} (f : Mo α) (g : α → Mo β) : Mo β := fun ρ => match f ρ with
  | some (a, ρ') => g a ρ'
  | none => none
def retM {α : Type} (a : α) : Mo α := fun ρ => some (a, ρ)
def optM {α : Type} (o : Option α) : Mo α := fun ρ => match o with
  | some a => some (a, ρ)
  | none => none
theorem bindM_some {α β : Type} {f : Mo α} {g : α → Mo β} {ρ : Rho} {x : β × Rho} (h : bindM f g ρ = some x) : ∃ a ρ', f ρ = some (a, ρ') ∧ g a ρ' = some x := by
  unfold bindM at h
  cases e : f ρ with
  | none => rw [e] at h; cases h
  | some p => rw [e] at h; exact ⟨p.1, p.2, rfl, h⟩
theorem optM_some {α : Type} {o : Option α} {ρ : Rho} {x : α × Rho} (h : optM o ρ = some x) : o = some x.1 ∧ x.2 = ρ := by
  unfold optM at h
  cases o with
  | none => cases h
  | some a => cases h; exact ⟨rfl, rfl⟩
theorem retM_some {α : Type} {a : α} {ρ : Rho} {x : α × Rho} (h : retM a ρ = some x) : x = (a, ρ) := (Option.some.inj h).symm
/-- the data of a result, now -/
def rdR (r : Rs) : Mo PyData := fun ρ => match r with
  | .kept d => some (d, ρ)
  | .fresh d => some (d, ρ)
  | .slot i => match ρ[i]? with
    | some (some (.scr, _)) => none
    | some (some (_, d)) => some (d, ρ)
    | _ => none
/-- .. handed on: it is shared from now on -/
def keepR (r : Rs) : Mo PyData := fun ρ => match r with
  | .kept d => some (d, ρ)
  | .fresh d => some (d, ρ)
  | .slot i => match ρ[i]? with
    | some (some (.shr, d)) => some (d, ρ)
    | some (some (.own, d)) => some (d, ρ.set i (some (.shr, d)))
    | _ => none
def keepL : List Rs → Mo (List PyData)
  | [] => retM []
  | r :: rs => bindM (keepR r) fun d => bindM (keepL rs) fun ds => retM (d :: ds)
/-- a new value -/
def resN : PyData → Rs
  | .list ds => .fresh (.list ds)
  | .dict ds => .fresh (.dict ds)
  | d => .kept d

/-! ### results -/
/-- v is the result r; a new object was none at H0 -/
def RR (K : PySem.W.Frag) (H0 : Hp) (S : Addr → Prop) (H : Hp) (ρ : Rho) (σ : L2.St) (v : V) : Rs → Prop
  | .kept d => Rp K S H v d
  | .fresh d => ∃ a, v = .ref a ∧ H0 a = none ∧ ¬ S a ∧ TopX K S H a d
  | .slot i => σ[i]? = some (some v) ∧ ∃ p, ρ[i]? = some (some p)
inductive RRL (K : PySem.W.Frag) (H0 : Hp) (S : Addr → Prop) (H : Hp) (ρ : Rho) (σ : L2.St) : List V → List Rs → Prop
  | nil : RRL K H0 S H ρ σ [] []
  | cons {v : V} {vs : List V} {r : Rs} {rs : List Rs} : RR K H0 S H ρ σ v r → RRL K H0 S H ρ σ vs rs → RRL K H0 S H ρ σ (v :: vs) (r :: rs)
/-- from the start (S0, ρ0, H0) to now -/
structure Now (K : PySem.W.Frag) (σ : L2.St) (S0 : Addr → Prop) (ρ0 : Rho) (H0 : Hp) (S : Addr → Prop) (ρ : Rho) (H : Hp) : Prop where
  g0 : Gd K S0 ρ0 σ H0
  f : Fm S0 ρ0 σ H0 S ρ H
  g : Gd K S ρ σ H
section
variable {K : PySem.W.Frag} {S0 S S' S'' : Addr → Prop} {ρ0 ρ ρ' ρ'' : Rho} {σ : L2.St} {H0 H H' H'' : Hp} {a : Addr} {v : V} {r : Rs} {d : PyData}
theorem Now.start (g : Gd K S ρ σ H) : Now K σ S ρ H S ρ H := ⟨g, Fm.refl, g⟩
theorem Now.step (n : Now K σ S0 ρ0 H0 S ρ H) (f : Fm S ρ σ H S' ρ' H') (g : Gd K S' ρ' σ H') : Now K σ S0 ρ0 H0 S' ρ' H' := ⟨n.g0, n.f.trans f, g⟩
theorem Now.grow (n : Now K σ S0 ρ0 H0 S ρ H) (e : Gw S H S' H') : Now K σ S0 ρ0 H0 S' ρ H' := n.step e.fr (n.g.ext e)
theorem Now.mu0 (n : Now K σ S0 ρ0 H0 S ρ H) (m : Mu ρ σ a) : H0 a ≠ none := Mu.there n.g0 (n.f.mu m)
theorem Now.none0 (n : Now K σ S0 ρ0 H0 S ρ H) (h : H a = none) : H0 a = none := by
  cases e : H0 a with
  | none => rfl
  | some o => exact absurd h (n.f.dom a (by rw [e]; simp))
theorem RR.fm (n : Now K σ S0 ρ0 H0 S ρ H) (f : Fm S ρ σ H S' ρ' H') (h : RR K H0 S H ρ σ v r) : RR K H0 S' H' ρ' σ v r := by
  cases r with
  | kept d => exact Rp.up (f.up n.g) h
  | fresh d =>
    obtain ⟨a, rfl, h0, ns, t⟩ := h
    have nm : ¬ Mu ρ σ a := fun m => n.mu0 m h0
    refine ⟨a, rfl, h0, fun s' => ?_, TopX.up (f.up n.g) (fun o e => f.keep a o e nm) t⟩
    rcases f.new a s' with z | z | z
    · exact ns z
    · exact nm z
    · exact TopX.there t z
  | slot i =>
    obtain ⟨h1, ⟨st, d⟩, h2⟩ := h
    obtain ⟨st', d', h3, _⟩ := f.sts i st d h2
    exact ⟨h1, _, h3⟩
theorem RR.pre (n : Now K σ S0 ρ0 H0 S ρ H) (h : RR K H S' H' ρ' σ v r) : RR K H0 S' H' ρ' σ v r := by
  cases r with
  | kept d => exact h
  | fresh d => obtain ⟨a, e, h0, ns, t⟩ := h; exact ⟨a, e, n.none0 h0, ns, t⟩
  | slot i => exact h
theorem RR.grow (e : Gw S H S' H') (h : RR K H0 S H ρ σ v r) : RR K H0 S' H' ρ σ v r := by
  cases r with
  | kept d => exact Rp.up e.up h
  | fresh d => 
    obtain ⟨a, rfl, h0, ns, t⟩ := h
    exact ⟨a, rfl, h0, fun s' => (e.new a s').elim ns (TopX.there t), TopX.up e.up (e.keep a) t⟩
  | slot i => exact h
theorem RRL.fm (n : Now K σ S0 ρ0 H0 S ρ H) (f : Fm S ρ σ H S' ρ' H') : ∀ {vs : List V} {rs : List Rs}, RRL K H0 S H ρ σ vs rs → RRL K H0 S' H' ρ' σ vs rs
  | _, _, .nil => .nil
  | _, _, .cons h t => .cons (h.fm n f) (RRL.fm n f t)
theorem RRL.pre (n : Now K σ S0 ρ0 H0 S ρ H) : ∀ {vs : List V} {rs : List Rs}, RRL K H S' H' ρ' σ vs rs → RRL K H0 S' H' ρ' σ vs rs
  | _, _, .nil => .nil
  | _, _, .cons h t => .cons (h.pre n) (RRL.pre n t)
theorem RRL.len : ∀ {vs : List V} {rs : List Rs}, RRL K H0 S H ρ σ vs rs → vs.length = rs.length
  | _, _, .nil => rfl
  | _, _, .cons _ t => by rw [List.length_cons, List.length_cons, t.len]
/-- a result is read -/
theorem RR.rd (g : Gd K S ρ σ H) (h : RR K H0 S H ρ σ v r) (e : rdR r ρ = some (d, ρ')) : Rdb K S H v d ∧ ρ' = ρ := by
  cases r with
  | kept d' => cases e; exact ⟨.inl h, rfl⟩
  | fresh d' =>
    cases e
    obtain ⟨a, rfl, _, _, t⟩ := h
    exact ⟨.inr ⟨a, rfl, t.r⟩, rfl⟩
  | slot i =>
    obtain ⟨h1, ⟨st, d'⟩, h2⟩ := h
    unfold rdR at e
    simp only [h2] at e
    obtain ⟨v', e', q⟩ := g.sl i st d' h2
    rw [h1] at e'; cases e'
    cases st with
    | shr => cases e; exact ⟨.inl q, rfl⟩
    | own => cases e; obtain ⟨a, e2, _, t⟩ := q; exact ⟨.inr ⟨a, e2, TopX.r t⟩, rfl⟩
    | lent => cases e; obtain ⟨a, e2, _, t⟩ := q; exact ⟨.inr ⟨a, e2, TopX.r t⟩, rfl⟩
    | bor => cases e; obtain ⟨a, e2, _, t⟩ := q; exact ⟨.inr ⟨a, e2, t⟩, rfl⟩
    | scr => cases e
theorem mem_set_slot {i j : Nat} {x y : Option (Stt × PyData)} (h : (ρ.set i x)[j]? = some y) : (j = i ∧ y = x) ∨ (j ≠ i ∧ ρ[j]? = some y) := by
  by_cases e : j = i
  · subst e
    rw [List.getElem?_set] at h
    split at h
    · split at h
      · cases h; exact .inl ⟨rfl, rfl⟩
      · cases h
    · rename_i z; exact absurd rfl z
  · rw [List.getElem?_set_ne (Ne.symm e)] at h
    exact .inr ⟨e, h⟩
/-- more is shared: a set of places that no slot holds -/
theorem Gd.share (g : Gd K S ρ σ H) (n : ∀ (i : Nat) (st : Stt) (d : PyData) (b : Addr), ρ[i]? = some (some (st, d)) → st.hold = true → σ[i]? = some (some (V.ref b)) → S' b → S b) (sh : ∀ b, S b → S' b) (al : ∀ b, S' b → H b ≠ none) : Gd K S' ρ σ H := by
  have u : Uph S H S' H := ⟨sh, fun _ _ _ h => h⟩
  refine ⟨g.len, fun i st d h => ?_, g.ne, al⟩
  obtain ⟨v, h1, h2⟩ := g.sl i st d h
  refine ⟨v, h1, ?_⟩
  cases st with
  | shr => exact Rp.up u h2
  | own => obtain ⟨a, rfl, ns, t⟩ := h2; exact ⟨a, rfl, fun z => ns (n i _ d a h rfl h1 z), TopX.up u (fun _ e => e) t⟩
  | lent => obtain ⟨a, rfl, ns, t⟩ := h2; exact ⟨a, rfl, fun z => ns (n i _ d a h rfl h1 z), TopX.up u (fun _ e => e) t⟩
  | bor => obtain ⟨a, rfl, ns, t⟩ := h2; exact ⟨a, rfl, fun z => ns (n i _ d a h rfl h1 z), TopR.up u (fun _ e => e) t⟩
  | scr => exact h2
theorem Gd.held (g : Gd K S ρ σ H) {i : Nat} {st : Stt} (h : ρ[i]? = some (some (st, d))) (hh : st.hold = true) (hv : σ[i]? = some (some (V.ref a))) : H a ≠ none := by
  obtain ⟨v, h1, h2⟩ := g.sl i st d h
  rw [hv] at h1; cases h1
  cases st with
  | own => obtain ⟨b, e, _, t⟩ := h2; cases e; exact TopX.there t
  | lent => obtain ⟨b, e, _, t⟩ := h2; cases e; exact TopX.there t
  | bor => obtain ⟨b, e, _, t⟩ := h2; cases e; exact TopR.there t
  | _ => cases hh
theorem Fm.held (f : Fm S ρ σ H S' ρ' H') {i : Nat} {st : Stt} (h : ρ'[i]? = some (some (st, d))) (hh : st.hold = true) : ∃ d', ρ[i]? = some (some (st, d')) := by
  obtain ⟨st0, d0, h0, q, _⟩ := f.back h
  rcases q with rfl | ⟨rfl, rfl⟩
  · exact ⟨d0, h0⟩
  · cases hh
/-- the same, where the new object may be shared already -/
def RRw (K : PySem.W.Frag) (H0 : Hp) (S : Addr → Prop) (H : Hp) (ρ : Rho) (σ : L2.St) (v : V) : Rs → Prop
  | .kept d => Rp K S H v d
  | .fresh d => ∃ a, v = .ref a ∧ H0 a = none ∧ TopX K S H a d
  | .slot i => σ[i]? = some (some v) ∧ ∃ p, ρ[i]? = some (some p)
theorem RR.w (h : RR K H0 S H ρ σ v r) : RRw K H0 S H ρ σ v r := by
  cases r with
  | kept d => exact h
  | fresh d => obtain ⟨a, h1, h2, _, h3⟩ := h; exact ⟨a, h1, h2, h3⟩
  | slot i => exact h
/-- handed on -/
theorem RRw.keep (n : Now K σ S0 ρ0 H0 S ρ H) (h : RRw K H0 S H ρ σ v r) (e : keepR r ρ = some (d, ρ')) : ∃ S', Now K σ S0 ρ0 H0 S' ρ' H ∧ Rp K S' H v d ∧ (∀ b, S b → S' b) := by
  cases r with
  | kept d' => cases e; exact ⟨S, n, h, fun _ h => h⟩
  | fresh d' =>
    cases e
    obtain ⟨a, rfl, h0, t⟩ := h
    refine ⟨fun b => S b ∨ b = a, ⟨n.g0, ⟨n.f.dom, n.f.keep, fun b hb => .inl (n.f.sh b hb), fun b hb => ?_, n.f.len, n.f.non, n.f.sts⟩, n.g.share (fun i st d b h1 h2 h3 hb => ?_) (fun _ h => .inl h) fun b hb => ?_⟩, t.give, fun _ h => .inl h⟩
    · rcases hb with hb | rfl
      · exact n.f.new b hb
      · exact .inr (.inr h0)
    · rcases hb with hb | rfl
      · exact hb
      · obtain ⟨d', h1'⟩ := n.f.held h1 h2
        exact absurd h0 (n.g0.held h1' h2 h3)
    · rcases hb with hb | rfl
      · exact n.g.al b hb
      · exact TopX.there t
  | slot i =>
    obtain ⟨h1, ⟨st, d'⟩, h2⟩ := h
    unfold keepR at e
    simp only [h2] at e
    obtain ⟨v', e', q⟩ := n.g.sl i st d' h2
    rw [h1] at e'; cases e'
    cases st with
    | shr => cases e; exact ⟨S, n, q, fun _ h => h⟩
    | own =>
      cases e
      obtain ⟨a, rfl, ns, t⟩ := q
      have hi : i < ρ.length := (List.getElem?_eq_some_iff.mp h2).1
      have u : Uph S H (fun b => S b ∨ b = a) H := ⟨fun _ h => .inl h, fun _ _ _ h => h⟩
      refine ⟨fun b => S b ∨ b = a, ⟨n.g0, ⟨n.f.dom, n.f.keep, fun b hb => .inl (n.f.sh b hb), fun b hb => ?_, by rw [List.length_set]; exact n.f.len, fun j hj => ?_, fun j st d hj => ?_⟩, ⟨by rw [List.length_set]; exact n.g.len, fun j st d hj => ?_, fun j k b st d st' d' hj hk ha hb hvj hvk => ?_, fun b hb => ?_⟩⟩, t.give, fun _ h => .inl h⟩
      · rcases hb with hb | rfl
        · exact n.f.new b hb
        · exact .inr (.inl (n.f.mu ⟨i, .own, _, h2, rfl, h1⟩))
      · have hj' := n.f.non j hj
        have : j ≠ i := by rintro rfl; rw [h2] at hj'; cases hj'
        rw [List.getElem?_set_ne (Ne.symm this)]
        exact hj'
      · obtain ⟨st1, d1, h3, h4, h5⟩ := n.f.sts j st d hj
        by_cases hji : j = i
        · subst hji
          rw [h2] at h3; cases h3
          refine ⟨.shr, _, by rw [List.getElem?_set_self hi], ?_, h5⟩
          rcases h4 with rfl | ⟨rfl, z⟩
          · exact .inr ⟨rfl, rfl⟩
          · cases z
        · exact ⟨st1, d1, by rw [List.getElem?_set_ne (Ne.symm hji)]; exact h3, h4, h5⟩
      · rcases mem_set_slot hj with ⟨rfl, e1⟩ | ⟨hne, hj⟩
        · cases e1
          exact ⟨_, h1, t.give⟩
        · obtain ⟨w, h3, h4⟩ := n.g.sl j st d hj
          refine ⟨w, h3, ?_⟩
          have other : ∀ b, w = .ref b → st.hold = true → b ≠ a := fun b e1 hh e2 => hne (n.g.ne j i a st d .own _ hj h2 hh rfl (by rw [h3, e1, e2]) h1)
          cases st with
          | shr => exact Rp.up u h4
          | own => obtain ⟨b, rfl, ns', t'⟩ := h4; exact ⟨b, rfl, fun z => z.elim ns' (other b rfl rfl), TopX.up u (fun _ e => e) t'⟩
          | lent => obtain ⟨b, rfl, ns', t'⟩ := h4; exact ⟨b, rfl, fun z => z.elim ns' (other b rfl rfl), TopX.up u (fun _ e => e) t'⟩
          | bor => obtain ⟨b, rfl, ns', t'⟩ := h4; exact ⟨b, rfl, fun z => z.elim ns' (other b rfl rfl), TopR.up u (fun _ e => e) t'⟩
          | scr => exact h4
      · rcases mem_set_slot hj with ⟨rfl, e1⟩ | ⟨_, hj⟩
        · cases e1; cases ha
        · rcases mem_set_slot hk with ⟨rfl, e1⟩ | ⟨_, hk⟩
          · cases e1; cases hb
          · exact n.g.ne j k b st d st' _ hj hk ha hb hvj hvk
      · rcases hb with hb | rfl
        · exact n.g.al b hb
        · exact TopX.there t
    | _ => cases e
/-- keepR changes only the status of its slot -/
theorem keepR_fm (e : keepR r ρ = some (d, ρ')) : ρ' = ρ ∨ ∃ i, ρ[i]? = some (some (.own, d)) ∧ ρ' = ρ.set i (some (.shr, d)) := by
  cases r with
  | kept d' => cases e; exact .inl rfl
  | fresh d' => cases e; exact .inl rfl
  | slot i =>
    unfold keepR at e
    dsimp only at e
    split at e
    · cases e; exact .inl rfl
    · rename_i h; cases e; exact .inr ⟨i, h, rfl⟩
    · cases e
theorem RRw.mono {S' : Addr → Prop} (sh : ∀ b, S b → S' b) (hr : ∀ (i : Nat) p, ρ[i]? = some (some p) → ∃ q, ρ'[i]? = some (some q)) (h : RRw K H0 S H ρ σ v r) : RRw K H0 S' H ρ' σ v r := by
  have u : Uph S H S' H := ⟨sh, fun _ _ _ h => h⟩
  cases r with
  | kept d => exact Rp.up u h
  | fresh d => obtain ⟨a, h1, h2, h3⟩ := h; exact ⟨a, h1, h2, TopX.up u (fun _ e => e) h3⟩
  | slot i => obtain ⟨h1, p, h2⟩ := h; exact ⟨h1, hr i p h2⟩
theorem keepR_some (e : keepR r ρ = some (d, ρ')) (i : Nat) (p : Stt × PyData) (h : ρ[i]? = some (some p)) : ∃ q, ρ'[i]? = some (some q) := by
  rcases keepR_fm e with rfl | ⟨j, h1, rfl⟩
  · exact ⟨p, h⟩
  · by_cases hj : j = i
    · subst hj
      exact ⟨_, List.getElem?_set_self (List.getElem?_eq_some_iff.mp h).1⟩
    · exact ⟨p, by rw [List.getElem?_set_ne hj]; exact h⟩
inductive RRLw (K : PySem.W.Frag) (H0 : Hp) (S : Addr → Prop) (H : Hp) (ρ : Rho) (σ : L2.St) : List V → List Rs → Prop
  | nil : RRLw K H0 S H ρ σ [] []
  | cons {v : V} {vs : List V} {r : Rs} {rs : List Rs} : RRw K H0 S H ρ σ v r → RRLw K H0 S H ρ σ vs rs → RRLw K H0 S H ρ σ (v :: vs) (r :: rs)
theorem RRL.w : ∀ {vs : List V} {rs : List Rs}, RRL K H0 S H ρ σ vs rs → RRLw K H0 S H ρ σ vs rs
  | _, _, .nil => .nil
  | _, _, .cons h t => .cons h.w t.w
theorem RRLw.mono {S' : Addr → Prop} (sh : ∀ b, S b → S' b) (hr : ∀ (i : Nat) p, ρ[i]? = some (some p) → ∃ q, ρ'[i]? = some (some q)) : ∀ {vs : List V} {rs : List Rs}, RRLw K H0 S H ρ σ vs rs → RRLw K H0 S' H ρ' σ vs rs
  | _, _, .nil => .nil
  | _, _, .cons h t => .cons (h.mono sh hr) (RRLw.mono sh hr t)
theorem RRLw.keep : ∀ (rs : List Rs) {S : Addr → Prop} {ρ ρ' : Rho} {ds : List PyData} {vs : List V}, Now K σ S0 ρ0 H0 S ρ H → RRLw K H0 S H ρ σ vs rs → keepL rs ρ = some (ds, ρ') → ∃ S', Now K σ S0 ρ0 H0 S' ρ' H ∧ RpL K S' H vs ds ∧ (∀ b, S b → S' b)
  | [], S, ρ, ρ', ds, vs, n, h, e => by
    cases h
    cases retM_some e
    exact ⟨S, n, .nil, fun _ h => h⟩
  | r :: rs, S, ρ, ρ', ds, vs, n, h, e => by
    cases h with
    | cons h t =>
      obtain ⟨d, ρ1, e1, e2⟩ := bindM_some e
      obtain ⟨ds', ρ2, e3, e4⟩ := bindM_some e2
      cases retM_some e4
      obtain ⟨S1, n1, p1, sh1⟩ := h.keep n e1
      obtain ⟨S2, n2, p2, sh2⟩ := RRLw.keep rs n1 (t.mono sh1 (keepR_some e1)) e3
      exact ⟨S2, n2, .cons (Rp.up ⟨sh2, fun _ _ _ h => h⟩ p1) p2, fun b hb => sh2 b (sh1 b hb)⟩
end

/-! ### readings -/
def tD (K : PySem.W.Frag) (f : Mo Rs) : TE := fun σ H Q => ∃ S ρ r ρ', Gd K S ρ σ H ∧ f ρ = some (r, ρ') ∧ ∀ v S' H', Fm S ρ σ H S' ρ' H' → Gd K S' ρ' σ H' → RR K H S' H' ρ' σ v r → Q v H'
def tT (K : PySem.W.Frag) (f : Mo Bool) : TT := fun σ H Q => ∃ S ρ b ρ', Gd K S ρ σ H ∧ f ρ = some (b, ρ') ∧ ∀ S' H', Fm S ρ σ H S' ρ' H' → Gd K S' ρ' σ H' → Q b H'
def tA (K : PySem.W.Frag) (f : Mo (List Rs)) : TA := fun σ H Q => ∃ S ρ rs ρ', Gd K S ρ σ H ∧ f ρ = some (rs, ρ') ∧ ∀ vs S' H', Fm S ρ σ H S' ρ' H' → Gd K S' ρ' σ H' → RRL K H S' H' ρ' σ vs rs → Q vs H'
abbrev PD (X : Cx) (e : Expr) (f : Mo Rs) : Prop := PE X e (tD X.K f)
abbrev TD (X : Cx) (e : Expr) (f : Mo Bool) : Prop := PT X e (tT X.K f)
abbrev WD (X : Cx) (e : Expr) (f : Mo Bool) : Prop := PW X e (tT X.K f)
abbrev AD (X : Cx) (es : List Expr) (f : Mo (List Rs)) : Prop := PA X es (tA X.K f)
theorem PE.to {X : Cx} {e : Expr} {t t' : TE} (h : PE X e t) (i : ∀ σ H Q, t' σ H Q → t σ H Q) : PE X e t' := ⟨fun pins s σ H Q I q => h.run pins s σ H Q I (i σ H Q q)⟩
theorem PT.to {X : Cx} {e : Expr} {t t' : TT} (h : PT X e t) (i : ∀ σ H Q, t' σ H Q → t σ H Q) : PT X e t' := ⟨fun pins s σ H Q I q => h.run pins s σ H Q I (i σ H Q q)⟩
theorem PW.to {X : Cx} {e : Expr} {t t' : TT} (h : PW X e t) (i : ∀ σ H Q, t' σ H Q → t σ H Q) : PW X e t' := ⟨fun wh pins s σ H Q I q => h.run wh pins s σ H Q I (i σ H Q q)⟩
theorem PA.to {X : Cx} {e : List Expr} {t t' : TA} (h : PA X e t) (i : ∀ σ H Q, t' σ H Q → t σ H Q) : PA X e t' := ⟨fun pos pins s σ H Q I q => h.run pos pins s σ H Q I (i σ H Q q)⟩
theorem PS.to {X : Cx} {e : Stmt} {t t' : TS} (h : PS X e t) (i : ∀ D σ H, t' D σ H → t D σ H) : PS X e t' := ⟨fun pins s σ H D I q => h.run pins s σ H D I (i D σ H q)⟩
theorem PSs.to {X : Cx} {e : List Stmt} {t t' : TS} (h : PSs X e t) (i : ∀ D σ H, t' D σ H → t D σ H) : PSs X e t' := ⟨fun pins s σ H D I q => h.run pins s σ H D I (i D σ H q)⟩

/-! ### names and constants -/
def xV (i : Nat) : Mo Rs := fun ρ => match ρ[i]? with
  | some (some _) => some (.slot i, ρ)
  | _ => none
def xC (d : PyData) : Mo Rs := retM (.kept d)
section
variable {X : Cx} {pos : Pos}
theorem pd_v (i : Nat) {x : Str} (hN : X.N[i]? = some x := by rfl) (hv : Vis X.env.scope x := by first | exact Or.inl rfl | exact Or.inr (Or.inl rfl) | exact Or.inr (Or.inr rfl)) (hd : (x == ("__debug__" : Str)) = false := by decide)
    (hcd : (x == ("__classdict__" : Str)) = false := by decide) : PD X (.Name x pos) (xV i) := PE.to (pe_var hN hv hd hcd) fun σ H Q h => by
  obtain ⟨S, ρ, r, ρ', g, e, q⟩ := h
  unfold xV at e
  split at e
  · rename_i p hp
    cases e
    obtain ⟨st, d⟩ := p
    obtain ⟨v, h1, _⟩ := g.sl i st d hp
    exact ⟨v, h1, q v S H Fm.refl g ⟨h1, _, hp⟩⟩
  · cases e
theorem pd_of_tC {e : Expr} {v : V} {d : PyData} (h : PE X e (tC v)) (r : ∀ S H, Rp X.K S H v d) : PD X e (xC d) := PE.to h fun σ H Q h => by
  obtain ⟨S, ρ, r', ρ', g, e, q⟩ := h
  cases retM_some e
  exact q v S H Fm.refl g (r S H)
theorem pd_int {i j} : PD X (.Constant (.int i) j pos) (xC (.int i)) := pd_of_tC pe_int fun _ _ => .int i
theorem pd_bl {i j} : PD X (.Constant (.bool i) j pos) (xC (.bool i)) := pd_of_tC pe_bl fun _ _ => .bl i
theorem pd_non {j} : PD X (.Constant .none j pos) (xC .none) := pd_of_tC pe_non fun _ _ => .non
theorem pd_str {x j} : PD X (.Constant (.str x) j pos) (xC (.str x)) := pd_of_tC pe_str fun _ _ => .str x
end

/-! ### arguments -/
def aN : Mo (List Rs) := retM []
def aC (f : Mo Rs) (g : Mo (List Rs)) : Mo (List Rs) := bindM f fun r => bindM g fun rs => retM (r :: rs)
section
variable {X : Cx} {e : Expr} {es : List Expr} {f : Mo Rs} {g : Mo (List Rs)}
theorem ad_nil : AD X [] aN := PA.to pa_nil fun σ H Q h => by
  obtain ⟨S, ρ, r, ρ', g, e, q⟩ := h
  cases retM_some e
  exact q [] S H Fm.refl g .nil
theorem ad_cons (ha : PD X e f) (hr : AD X es g) (hs : starEach (e :: es) X.env = (false, eval e X.env) :: starEach es X.env := by rfl) : AD X (e :: es) (aC f g) := PA.to (pa_cons ha hr hs) fun σ H Q h => by
  obtain ⟨S, ρ, rs, ρ', G, e, q⟩ := h
  obtain ⟨r1, ρ1, e1, e2⟩ := bindM_some e
  obtain ⟨r2, ρ2, e3, e4⟩ := bindM_some e2
  cases retM_some e4
  refine ⟨S, ρ, r1, ρ1, G, e1, fun v S1 H1 F1 G1 R1 => ⟨S1, ρ1, r2, _, G1, e3, fun vs S2 H2 F2 G2 R2 => ?_⟩⟩
  have n1 : Now X.K σ S ρ H S1 ρ1 H1 := ⟨G, F1, G1⟩
  exact q (v :: vs) S2 H2 (F1.trans F2) G2 (.cons (R1.fm n1 F2) (R2.pre n1))
end

/-! ### operators -/
/-- a new value of data, from two values that are read -/
def rD (K : PySem.W.Frag) (op : PyData → PyData → Option PyData) : R2 := fun x y H Q => ∃ S d1 d2 d, (∀ a, S a → H a ≠ none) ∧ Rdb K S H x d1 ∧ Rdb K S H y d2 ∧ op d1 d2 = some d ∧
  ∀ v S' H', Gw S H S' H' → RR K H S' H' [] [] v (resN d) → Q v H'
/-- .. one that is within them (an item) -/
def rDi (K : PySem.W.Frag) (op : PyData → PyData → Option PyData) : R2 := fun x y H Q => ∃ S d1 d2 d, (∀ a, S a → H a ≠ none) ∧ Rdb K S H x d1 ∧ Rdb K S H y d2 ∧ op d1 d2 = some d ∧
  ∀ v S' H', Gw S H S' H' → Rp K S' H' v d → Q v H'
def x2 (f g : Mo Rs) (op : PyData → PyData → Option PyData) : Mo Rs := bindM f fun r1 => bindM g fun r2 => bindM (rdR r1) fun d1 => bindM (rdR r2) fun d2 => bindM (optM (op d1 d2)) fun d => retM (resN d)
def x2i (f g : Mo Rs) (op : PyData → PyData → Option PyData) : Mo Rs := bindM f fun r1 => bindM g fun r2 => bindM (rdR r1) fun d1 => bindM (rdR r2) fun d2 => bindM (optM (op d1 d2)) fun d => retM (.kept d)
theorem RR.new {K : PySem.W.Frag} {H0 H : Hp} {S : Addr → Prop} {ρ ρ' : Rho} {σ σ' : L2.St} {v : V} {d : PyData} (h : RR K H0 S H ρ σ v (resN d)) : RR K H0 S H ρ' σ' v (resN d) := by
  cases d <;> exact h
theorem rdR_same {r : Rs} {ρ ρ' : Rho} {d : PyData} (e : rdR r ρ = some (d, ρ')) : ρ' = ρ := by
  cases r with
  | kept d' => cases e; rfl
  | fresh d' => cases e; rfl
  | slot i =>
    unfold rdR at e
    dsimp only at e
    split at e
    · cases e
    · cases e; rfl
    · cases e
theorem x2_inv {f g : Mo Rs} {op : PyData → PyData → Option PyData} {k : PyData → Rs} {ρ ρ' : Rho} {r : Rs} (e : (bindM f fun r1 => bindM g fun r2 => bindM (rdR r1) fun d1 => bindM (rdR r2) fun d2 => bindM (optM (op d1 d2)) fun d => retM (k d)) ρ = some (r, ρ')) :
    ∃ r1 ρ1 r2 d1 d2 d, f ρ = some (r1, ρ1) ∧ g ρ1 = some (r2, ρ') ∧ rdR r1 ρ' = some (d1, ρ') ∧ rdR r2 ρ' = some (d2, ρ') ∧ op d1 d2 = some d ∧ r = k d := by
  obtain ⟨r1, ρ1, e1, a1⟩ := bindM_some e
  obtain ⟨r2, ρ2, e2, a2⟩ := bindM_some a1
  obtain ⟨d1, ρ3, e3, a3⟩ := bindM_some a2
  obtain ⟨d2, ρ4, e4, a4⟩ := bindM_some a3
  obtain ⟨d, ρ5, e5, a5⟩ := bindM_some a4
  obtain ⟨b1, b2⟩ := optM_some e5
  have c3 := rdR_same e3
  have c4 := rdR_same e4
  simp only at b1 b2
  subst c3
  subst c4
  subst b2
  cases retM_some a5
  exact ⟨r1, ρ1, r2, d1, d2, d, e1, e2, e3, e4, b1, rfl⟩
section
variable {K : PySem.W.Frag} {f g : Mo Rs} {op : PyData → PyData → Option PyData} {σ : L2.St} {H : Hp} {Q : VK}
theorem x2_ok (h : tD K (x2 f g op) σ H Q) : tOp (rD K op) (tD K f) (tD K g) σ H Q := by
  obtain ⟨S, ρ, r, ρ', G, e, q⟩ := h
  obtain ⟨r1, ρ1, r2, d1, d2, d, e1, e2, e3, e4, e5, rfl⟩ := x2_inv e
  refine ⟨S, ρ, r1, ρ1, G, e1, fun x S1 H1 F1 G1 R1 => ⟨S1, ρ1, r2, ρ', G1, e2, fun y S2 H2 F2 G2 R2 => ?_⟩⟩
  have n1 : Now K σ S ρ H S1 ρ1 H1 := ⟨G, F1, G1⟩
  have n2 : Now K σ S ρ H S2 ρ' H2 := n1.step F2 G2
  refine ⟨S2, d1, d2, d, G2.al, ((R1.fm n1 F2).rd G2 e3).1, (R2.rd G2 e4).1, e5, fun v S3 H3 E R => ?_⟩
  exact q v S3 H3 (n2.grow E).f (n2.grow E).g ((RR.new R : RR K H2 S3 H3 ρ' σ v (resN d)).pre n2)
theorem x2i_ok (h : tD K (x2i f g op) σ H Q) : tOp (rDi K op) (tD K f) (tD K g) σ H Q := by
  obtain ⟨S, ρ, r, ρ', G, e, q⟩ := h
  obtain ⟨r1, ρ1, r2, d1, d2, d, e1, e2, e3, e4, e5, rfl⟩ := x2_inv e
  refine ⟨S, ρ, r1, ρ1, G, e1, fun x S1 H1 F1 G1 R1 => ⟨S1, ρ1, r2, ρ', G1, e2, fun y S2 H2 F2 G2 R2 => ?_⟩⟩
  have n1 : Now K σ S ρ H S1 ρ1 H1 := ⟨G, F1, G1⟩
  have n2 : Now K σ S ρ H S2 ρ' H2 := n1.step F2 G2
  refine ⟨S2, d1, d2, d, G2.al, ((R1.fm n1 F2).rd G2 e3).1, (R2.rd G2 e4).1, e5, fun v S3 H3 E R => ?_⟩
  exact q v S3 H3 (n2.grow E).f (n2.grow E).g R
end
section
variable {X : Cx} {a b c : Expr} {f g k : Mo Rs} {op : PyData → PyData → Option PyData} {pos : Pos}
/-- a op b -/
theorem pd_bin {o : Operator} (ho : OpR X (binaryOp o) (rD X.K op)) (ha : PD X a f) (hb : PD X b g) : PD X (.BinOp a o b pos) (x2 f g op) := PE.to (pe_op ho ha hb) fun _ _ _ h => x2_ok h
/-- a comparison -/
theorem pd_cmp {o : CmpOp} (ho : OpR X (compareOp o) (rD X.K op)) (ha : PD X a f) (hb : PD X b g) (hm : behindInMarks o b = false := by first | exact nomark _ | with_unfolding_all rfl) : PD X (.Compare a [o] [b] pos) (x2 f g op) := PE.to (pe_cmpR ho ha hb hm) fun _ _ _ h => x2_ok h
/-- a[b] -/
theorem pd_ix (hr : IxR X (rDi X.K op)) (ha : PD X a f) (hb : PD X b g) (hs : PlainIx b := by exact fun _ _ => rfl) : PD X (.Subscript a b pos) (x2i f g op) := PE.to (pe_ix hr ha hb hs) fun _ _ _ h => x2i_ok h

/-! ### tests -/
def boolD : PyData → Option Bool
  | .bool b => some b
  | _ => none
/-- a value that is a bool, as a test -/
def tV (f : Mo Rs) : Mo Bool := bindM f fun r => bindM (rdR r) fun d => optM (boolD d)
def tNotM (f : Mo Bool) : Mo Bool := bindM f fun b => retM (!b)
def tAndM (f g : Mo Bool) : Mo Bool := bindM f fun b => if b = true then g else retM false
def tOrM (f g : Mo Bool) : Mo Bool := bindM f fun b => if b = true then retM true else g
theorem tV_inv {f : Mo Rs} {ρ ρ' : Rho} {b : Bool} (e : tV f ρ = some (b, ρ')) : ∃ r, f ρ = some (r, ρ') ∧ rdR r ρ' = some (.bool b, ρ') := by
  obtain ⟨r1, ρ1, e1, a1⟩ := bindM_some e
  obtain ⟨d, ρ2, e2, a2⟩ := bindM_some a1
  have c := rdR_same e2
  subst c
  obtain ⟨b1, b2⟩ := optM_some a2
  simp only at b1 b2
  subst b2
  cases d <;> first | (cases b1; done) | skip
  cases b1
  exact ⟨r1, e1, e2⟩
theorem Rdb.bl {K : PySem.W.Frag} {S : Addr → Prop} {H : Hp} {v : V} {b : Bool} (h : Rdb K S H v (.bool b)) : v = .bl b := by
  rcases h with h | ⟨a, _, h⟩
  · cases h; rfl
  · exact h.elim
theorem tV_ok {K : PySem.W.Frag} {f : Mo Rs} {σ : L2.St} {H : Hp} {Q : Bool → Hp → Prop} (h : tT K (tV f) σ H Q) : tD K f σ H (fun x H1 => ∃ c, x = .bl c ∧ Q c H1) := by
  obtain ⟨S, ρ, b, ρ', G, e, q⟩ := h
  obtain ⟨r, e1, e2⟩ := tV_inv e
  exact ⟨S, ρ, r, ρ', G, e1, fun v S1 H1 F1 G1 R1 => ⟨b, ((R1.rd G1 e2).1).bl, q S1 H1 F1 G1⟩⟩
/-- a comparison as a test -/
theorem td_cmp {o : CmpOp} (ho : OpR X (compareOp o) (rD X.K op)) (ha : PD X a f) (hb : PD X b g) (hm : behindInMarks o b = false := by first | exact nomark _ | with_unfolding_all rfl) : TD X (.Compare a [o] [b] pos) (tV (x2 f g op)) := PT.to (pt_cmpR ho ha hb hm) fun _ _ _ h => x2_ok (tV_ok h)
/-- an expression that gives a bool, as a test -/
theorem td_val {e : Expr} (h : PD X e f) (he : ∀ whole, isTrue e X.env whole = (do let v ← whole; standAt e.pos; holding [v] (truthy v)) := by intro _; rfl) : TD X e (tV f) := PT.to (pt_val h he) fun _ _ _ h => tV_ok h
theorem td_not {ft : Mo Bool} (h : TD X a ft) : TD X (.UnaryOp .Not a pos) (tNotM ft) := PT.to (pt_not h) fun σ H Q h => by
  obtain ⟨S, ρ, b, ρ', G, e, q⟩ := h
  obtain ⟨b1, ρ1, e1, e2⟩ := bindM_some e
  cases retM_some e2
  exact ⟨S, ρ, b1, _, G, e1, fun S1 H1 F1 G1 => q S1 H1 F1 G1⟩
theorem wd_and1 {ft : Mo Bool} (h : TD X a ft) : WD X (.BoolOp .And [a] pos) ft := pw_and1 h
theorem wd_or1 {ft : Mo Bool} (h : TD X a ft) : WD X (.BoolOp .Or [a] pos) ft := pw_or1 h
theorem wd_and {ft gt : Mo Bool} {rest : List Expr} (h : TD X a ft) (h2 : WD X (.BoolOp .And (b :: rest) pos) gt) : WD X (.BoolOp .And (a :: b :: rest) pos) (tAndM ft gt) := PW.to (pw_and h h2) fun σ H Q h => by
  obtain ⟨S, ρ, b, ρ', G, e, q⟩ := h
  obtain ⟨b1, ρ1, e1, e2⟩ := bindM_some e
  refine ⟨S, ρ, b1, ρ1, G, e1, fun S1 H1 F1 G1 => ?_⟩
  cases b1 with
  | true => exact ⟨S1, ρ1, b, ρ', G1, e2, fun S2 H2 F2 G2 => q S2 H2 (F1.trans F2) G2⟩
  | false => cases retM_some e2; exact q S1 H1 F1 G1
theorem wd_or {ft gt : Mo Bool} {rest : List Expr} (h : TD X a ft) (h2 : WD X (.BoolOp .Or (b :: rest) pos) gt) : WD X (.BoolOp .Or (a :: b :: rest) pos) (tOrM ft gt) := PW.to (pw_or h h2) fun σ H Q h => by
  obtain ⟨S, ρ, b, ρ', G, e, q⟩ := h
  obtain ⟨b1, ρ1, e1, e2⟩ := bindM_some e
  refine ⟨S, ρ, b1, ρ1, G, e1, fun S1 H1 F1 G1 => ?_⟩
  cases b1 with
  | false => exact ⟨S1, ρ1, b, ρ', G1, e2, fun S2 H2 F2 G2 => q S2 H2 (F1.trans F2) G2⟩
  | true => cases retM_some e2; exact q S1 H1 F1 G1
theorem td_w {e : Expr} {ft : Mo Bool} (h : WD X e ft) : TD X e ft := h.pt

/-! ### and, or, not, if as values -/
def xAnd (f : Mo Rs) (g : Mo Rs) : Mo Rs := bindM (tV f) fun b => if b = true then g else retM (.kept (.bool false))
def xOr (f : Mo Rs) (g : Mo Rs) : Mo Rs := bindM (tV f) fun b => if b = true then retM (.kept (.bool true)) else g
def xNot (f : Mo Rs) : Mo Rs := bindM (tV f) fun b => retM (.kept (.bool (!b)))
def xIf (t : Mo Bool) (f g : Mo Rs) : Mo Rs := bindM t fun b => if b = true then f else g
theorem pd_one {o} (h : PD X a f) : PD X (.BoolOp o [a] pos) f := pe_one h
theorem pd_and {rest : List Expr} (ha : PD X a f) (hb : PD X (.BoolOp .And (b :: rest) pos) g) : PD X (.BoolOp .And (a :: b :: rest) pos) (xAnd f g) := PE.to (pe_and ha hb) fun σ H Q h => by
  obtain ⟨S, ρ, r, ρ', G, e, q⟩ := h
  obtain ⟨b1, ρ1, e1, e2⟩ := bindM_some e
  obtain ⟨r1, e3, e4⟩ := tV_inv e1
  refine ⟨S, ρ, r1, ρ1, G, e3, fun v S1 H1 F1 G1 R1 => ⟨b1, ((R1.rd G1 e4).1).bl, ?_⟩⟩
  cases b1 with
  | true => exact ⟨S1, ρ1, r, ρ', G1, e2, fun v S2 H2 F2 G2 R2 => q v S2 H2 (F1.trans F2) G2 (R2.pre ⟨G, F1, G1⟩)⟩
  | false => cases retM_some e2; exact q _ S1 H1 F1 G1 (.bl false)
theorem pd_or {rest : List Expr} (ha : PD X a f) (hb : PD X (.BoolOp .Or (b :: rest) pos) g) : PD X (.BoolOp .Or (a :: b :: rest) pos) (xOr f g) := PE.to (pe_or ha hb) fun σ H Q h => by
  obtain ⟨S, ρ, r, ρ', G, e, q⟩ := h
  obtain ⟨b1, ρ1, e1, e2⟩ := bindM_some e
  obtain ⟨r1, e3, e4⟩ := tV_inv e1
  refine ⟨S, ρ, r1, ρ1, G, e3, fun v S1 H1 F1 G1 R1 => ⟨b1, ((R1.rd G1 e4).1).bl, ?_⟩⟩
  cases b1 with
  | false => exact ⟨S1, ρ1, r, ρ', G1, e2, fun v S2 H2 F2 G2 R2 => q v S2 H2 (F1.trans F2) G2 (R2.pre ⟨G, F1, G1⟩)⟩
  | true => cases retM_some e2; exact q _ S1 H1 F1 G1 (.bl true)
theorem pd_not (ha : PD X a f) : PD X (.UnaryOp .Not a pos) (xNot f) := PE.to (pe_not ha) fun σ H Q h => by
  obtain ⟨S, ρ, r, ρ', G, e, q⟩ := h
  obtain ⟨b1, ρ1, e1, e2⟩ := bindM_some e
  obtain ⟨r1, e3, e4⟩ := tV_inv e1
  cases retM_some e2
  exact ⟨S, ρ, r1, _, G, e3, fun v S1 H1 F1 G1 R1 => ⟨b1, ((R1.rd G1 e4).1).bl, q _ S1 H1 F1 G1 (.bl _)⟩⟩
theorem pd_if {ft : Mo Bool} (hc : TD X c ft) (ha : PD X a f) (hb : PD X b g) : PD X (.IfExp c a b pos) (xIf ft f g) := PE.to (pe_ifExp hc ha hb) fun σ H Q h => by
  obtain ⟨S, ρ, r, ρ', G, e, q⟩ := h
  obtain ⟨b1, ρ1, e1, e2⟩ := bindM_some e
  refine ⟨S, ρ, b1, ρ1, G, e1, fun S1 H1 F1 G1 => ?_⟩
  cases b1 with
  | true => exact ⟨S1, ρ1, r, ρ', G1, e2, fun v S2 H2 F2 G2 R2 => q v S2 H2 (F1.trans F2) G2 (R2.pre ⟨G, F1, G1⟩)⟩
  | false => exact ⟨S1, ρ1, r, ρ', G1, e2, fun v S2 H2 F2 G2 R2 => q v S2 H2 (F1.trans F2) G2 (R2.pre ⟨G, F1, G1⟩)⟩
end
end PyI

/-! PyI, part C: statements: stores, blocks, loops. -/
namespace PyI
open PySem PySem.Spec L2

inductive Fl | nx | bk | ct | ret (r : Rs)
/-- how a state stands behind statements -/
structure Fs (S : Addr → Prop) (ρ : Rho) (σ : L2.St) (H : Hp) (S' : Addr → Prop) (ρ' : Rho) (σ' : L2.St) (H' : Hp) : Prop where
  dom : ∀ a, H a ≠ none → H' a ≠ none
  keep : ∀ a o, H a = some o → ¬ Mu ρ σ a → H' a = some o
  sh : ∀ a, S a → S' a
  new : ∀ a, S' a → S a ∨ Mu ρ σ a ∨ H a = none
  own : ∀ (i : Nat) (d : PyData) (a : Addr), ρ'[i]? = some (some (.own, d)) → σ'[i]? = some (some (V.ref a)) → H a = none ∨ ∃ (j : Nat) (d' : PyData), ρ[j]? = some (some (.own, d')) ∧ σ[j]? = some (some (V.ref a))
  lent : ∀ (i : Nat) (d : PyData), ρ'[i]? = some (some (.lent, d)) → ∃ d', ρ[i]? = some (some (.lent, d')) ∧ σ'[i]? = σ[i]?
  len : ρ'.length = ρ.length
section
variable {K : PySem.W.Frag} {S0 S S' S'' : Addr → Prop} {ρ0 ρ ρ' ρ'' : Rho} {σ σ' σ'' : L2.St} {H0 H H' H'' : Hp} {a : Addr} {v : V} {r : Rs} {d d' : PyData}
theorem Fs.refl : Fs S ρ σ H S ρ σ H := ⟨fun _ h => h, fun _ _ h _ => h, fun _ h => h, fun _ h => .inl h, fun i d a h1 h2 => .inr ⟨i, d, h1, h2⟩, fun i d h => ⟨d, h, rfl⟩, rfl⟩
theorem Fm.fs (f : Fm S ρ σ H S' ρ' H') : Fs S ρ σ H S' ρ' σ H' where
  dom := f.dom
  keep := f.keep
  sh := f.sh
  new := f.new
  own := fun i d a h1 h2 => by
    obtain ⟨d', h⟩ := f.held h1 rfl
    exact .inr ⟨i, d', h, h2⟩
  lent := fun i d h1 => by
    obtain ⟨d', h⟩ := f.held h1 rfl
    exact ⟨d', h, rfl⟩
  len := f.len
theorem Fs.mu (f : Fs S ρ σ H S' ρ' σ' H') (h : Mu ρ' σ' a) : Mu ρ σ a ∨ H a = none := by
  obtain ⟨i, st, d, h1, h2, h3⟩ := h
  cases st with
  | own =>
    rcases f.own i d a h1 h3 with z | ⟨j, d', z1, z2⟩
    · exact .inr z
    · exact .inl ⟨j, _, d', z1, rfl, z2⟩
  | lent =>
    obtain ⟨d', z1, z2⟩ := f.lent i d h1
    exact .inl ⟨i, _, d', z1, rfl, by rw [← z2]; exact h3⟩
  | _ => cases h2
theorem Fs.trans (f : Fs S ρ σ H S' ρ' σ' H') (f' : Fs S' ρ' σ' H' S'' ρ'' σ'' H'') : Fs S ρ σ H S'' ρ'' σ'' H'' where
  dom := fun a h => f'.dom a (f.dom a h)
  keep := fun a o e n => f'.keep a o (f.keep a o e n) fun m => (f.mu m).elim n fun z => by rw [z] at e; cases e
  sh := fun a h => f'.sh a (f.sh a h)
  new := fun a h => by
    have back : H' a = none → H a = none := fun z => by
      cases e : H a with
      | none => rfl
      | some o => exact absurd z (f.dom a (by rw [e]; simp))
    rcases f'.new a h with h | h | h
    · exact f.new a h
    · rcases f.mu h with z | z
      · exact .inr (.inl z)
      · exact .inr (.inr z)
    · exact .inr (.inr (back h))
  own := fun i d a h1 h2 => by
    rcases f'.own i d a h1 h2 with z | ⟨j, d', z1, z2⟩
    · refine .inl ?_
      cases e : H a with
      | none => rfl
      | some o => exact absurd z (f.dom a (by rw [e]; simp))
    · exact f.own j d' a z1 z2
  lent := fun i d h => by
    obtain ⟨d', h1, h2⟩ := f'.lent i d h
    obtain ⟨d'', h3, h4⟩ := f.lent i d' h1
    exact ⟨d'', h3, h2.trans h4⟩
  len := f'.len.trans f.len

/-- the object of an owned or lent slot is changed -/
theorem Now.mutate {i : Nat} {st : Stt} {o' : HO} (n : Now K σ S0 ρ0 H0 S ρ H) (h : ρ[i]? = some (some (st, d))) (hm : st.mut = true) (hv : σ[i]? = some (some (V.ref a))) (t : TopX K S H a d → TopX K S (upd H a o') a d') :
    Now K σ S0 ρ0 H0 S (ρ.set i (some (st, d'))) (upd H a o') := by
  have hi : i < ρ.length := (List.getElem?_eq_some_iff.mp h).1
  have hold : st.hold = true := by cases st <;> first | rfl | cases hm
  have mu : Mu ρ σ a := ⟨i, st, d, h, hm, hv⟩
  have ns : ¬ S a := fun z => n.g.notMu z mu
  have tx : TopX K S H a d := by
    obtain ⟨v, h1, h2⟩ := n.g.sl i st d h
    rw [hv] at h1; cases h1
    cases st with
    | own => obtain ⟨b, e, _, t⟩ := h2; cases e; exact t
    | lent => obtain ⟨b, e, _, t⟩ := h2; cases e; exact t
    | _ => cases hm
  have t' := t tx
  have u : Uph S H S (upd H a o') := ⟨fun _ h => h, fun b o hb e => by rw [upd_ne (show b ≠ a from fun z => ns (z ▸ hb))]; exact e⟩
  refine ⟨n.g0, ⟨fun b hb => ?_, fun b o e nm => ?_, n.f.sh, n.f.new, by rw [List.length_set]; exact n.f.len, fun j hj => ?_, fun j st1 d1 hj => ?_⟩, ⟨by rw [List.length_set]; exact n.g.len, fun j st1 d1 hj => ?_, fun j k b st1 d1 st2 d2 hj hk ha hb hvj hvk => ?_, fun b hb => ?_⟩⟩
  · by_cases z : b = a
    · rw [z, upd_same]; simp
    · rw [upd_ne z]; exact n.f.dom b hb
  · rw [upd_ne (show b ≠ a from fun z => nm (z ▸ n.f.mu mu))]
    exact n.f.keep b o e nm
  · have hj' := n.f.non j hj
    have : j ≠ i := by rintro rfl; rw [h] at hj'; cases hj'
    rw [List.getElem?_set_ne (Ne.symm this)]
    exact hj'
  · obtain ⟨st2, d2, h3, h4, h5⟩ := n.f.sts j st1 d1 hj
    by_cases hji : j = i
    · subst hji
      rw [h] at h3; cases h3
      refine ⟨st, d', by rw [List.getElem?_set_self hi], h4, fun z => ?_⟩
      rcases h4 with rfl | ⟨rfl, _⟩
      · rw [hm] at z; cases z
      · cases z
    · exact ⟨st2, d2, by rw [List.getElem?_set_ne (Ne.symm hji)]; exact h3, h4, h5⟩
  · rcases mem_set_slot hj with ⟨rfl, e1⟩ | ⟨hne, hj⟩
    · cases e1
      refine ⟨_, hv, ?_⟩
      cases st with
      | own => exact ⟨a, rfl, ns, t'⟩
      | lent => exact ⟨a, rfl, ns, t'⟩
      | _ => cases hm
    · obtain ⟨w, h3, h4⟩ := n.g.sl j st1 d1 hj
      refine ⟨w, h3, ?_⟩
      have other : ∀ b, w = .ref b → st1.hold = true → b ≠ a := fun b e1 hh e2 => hne (n.g.ne j i a st1 d1 st d hj h hh hold (by rw [h3, e1, e2]) hv)
      cases st1 with
      | shr => exact Rp.up u h4
      | own => obtain ⟨b, rfl, ns', t1⟩ := h4; exact ⟨b, rfl, ns', TopX.up u (fun o e => by rw [upd_ne (other b rfl rfl)]; exact e) t1⟩
      | lent => obtain ⟨b, rfl, ns', t1⟩ := h4; exact ⟨b, rfl, ns', TopX.up u (fun o e => by rw [upd_ne (other b rfl rfl)]; exact e) t1⟩
      | bor => obtain ⟨b, rfl, ns', t1⟩ := h4; exact ⟨b, rfl, ns', TopR.up u (fun o e => by rw [upd_ne (other b rfl rfl)]; exact e) t1⟩
      | scr =>
        obtain ⟨b, ns1, rfl, e1, k⟩ := h4
        refine ⟨b, ns1, rfl, e1, KLst.keep (fun o e => ?_) k⟩
        by_cases z : b = a
        · subst z
          exfalso
          cases d with
          | list ds => obtain ⟨vs, q, _⟩ := tx; rw [q] at e; cases e
          | dict kvs => obtain ⟨ts, q, _⟩ := tx; rw [q] at e; cases e
          | _ => exact tx.elim
        · rw [upd_ne z]; exact e
  · have f1 : ∀ {j : Nat} {st1 : Stt} {d1 : PyData}, (ρ.set i (some (st, d')))[j]? = some (some (st1, d1)) → ∃ d2, ρ[j]? = some (some (st1, d2)) := fun {j st1 d1} hj => by
      rcases mem_set_slot hj with ⟨rfl, e1⟩ | ⟨_, hj⟩
      · cases e1; exact ⟨d, h⟩
      · exact ⟨d1, hj⟩
    obtain ⟨x1, y1⟩ := f1 hj
    obtain ⟨x2, y2⟩ := f1 hk
    exact n.g.ne j k b st1 x1 st2 x2 y1 y2 ha hb hvj hvk
  · by_cases z : b = a
    · rw [z, upd_same]; simp
    · rw [upd_ne z]; exact n.g.al b hb

/-! ### a name is stored -/
def storeR (i : Nat) (r : Rs) : Mo Unit := fun ρ => match r with
  | .kept d => if i < ρ.length then some ((), ρ.set i (some (.shr, d))) else none
  | .fresh d => if i < ρ.length then some ((), ρ.set i (some (.own, d))) else none
  | .slot j => match keepR (.slot j) ρ with
    | some (d, ρ') => if i < ρ'.length then some ((), ρ'.set i (some (.shr, d))) else none
    | none => none
theorem Gd.put {i : Nat} {st : Stt} (g : Gd K S ρ σ H) (hi : i < ρ.length) (rep : SlotRep K S H v d st) (hne : ∀ b, v = .ref b → st.hold = true → ∀ (j : Nat) (st' : Stt) (d' : PyData), j ≠ i → ρ[j]? = some (some (st', d')) → st'.hold = true → σ[j]? ≠ some (some (V.ref b))) :
    Gd K S (ρ.set i (some (st, d))) (σ.set i (some v)) H := by
  have hi2 : i < σ.length := by rw [← g.len]; exact hi
  refine ⟨by rw [List.length_set, List.length_set]; exact g.len, fun j st1 d1 hj => ?_, fun j k b st1 d1 st2 d2 hj hk ha hb hvj hvk => ?_, g.al⟩
  · rcases mem_set_slot hj with ⟨rfl, e1⟩ | ⟨hne, hj⟩
    · cases e1
      exact ⟨v, by rw [List.getElem?_set_self hi2], rep⟩
    · obtain ⟨w, h3, h4⟩ := g.sl j st1 d1 hj
      exact ⟨w, by rw [List.getElem?_set_ne (Ne.symm hne)]; exact h3, h4⟩
  · rcases mem_set_slot hj with ⟨ej, e1⟩ | ⟨hj1, hj'⟩
    · cases e1
      rcases mem_set_slot hk with ⟨ek, _⟩ | ⟨hk1, hk'⟩
      · rw [ej, ek]
      · rw [ej, List.getElem?_set_self hi2] at hvj
        cases hvj
        rw [List.getElem?_set_ne (Ne.symm hk1)] at hvk
        exact absurd hvk (hne b rfl ha k st2 d2 hk1 hk' hb)
    · rw [List.getElem?_set_ne (Ne.symm hj1)] at hvj
      rcases mem_set_slot hk with ⟨ek, e1⟩ | ⟨hk1, hk'⟩
      · cases e1
        rw [ek, List.getElem?_set_self hi2] at hvk
        cases hvk
        exact absurd hvj (hne b rfl hb j st1 d1 hj1 hj' ha)
      · rw [List.getElem?_set_ne (Ne.symm hk1)] at hvk
        exact g.ne j k b st1 d1 st2 d2 hj' hk' ha hb hvj hvk
theorem Fs.put {i : Nat} {st : Stt} (f : Fs S0 ρ0 σ H0 S ρ σ' H) (hi : i < σ'.length) (hst : st = .shr ∨ (st = .own ∧ ∃ a, v = .ref a ∧ H0 a = none)) : Fs S0 ρ0 σ H0 S (ρ.set i (some (st, d))) (σ'.set i (some v)) H where
  dom := f.dom
  keep := f.keep
  sh := f.sh
  new := f.new
  own := fun j d1 b h1 h2 => by
    rcases mem_set_slot h1 with ⟨rfl, e1⟩ | ⟨hne, h1⟩
    · cases e1
      rcases hst with z | ⟨_, a, rfl, h0⟩
      · cases z
      · rw [List.getElem?_set_self hi] at h2
        cases h2
        exact .inl h0
    · rw [List.getElem?_set_ne (Ne.symm hne)] at h2
      exact f.own j d1 b h1 h2
  lent := fun j d1 h1 => by
    rcases mem_set_slot h1 with ⟨rfl, e1⟩ | ⟨hne, h1⟩
    · cases e1
      rcases hst with z | ⟨z, _⟩ <;> cases z
    · obtain ⟨d', h3, h4⟩ := f.lent j d1 h1
      exact ⟨d', h3, by rw [List.getElem?_set_ne (Ne.symm hne)]; exact h4⟩
  len := by rw [List.length_set]; exact f.len
/-- storing a result -/
theorem RR.store {i : Nat} (n : Now K σ S0 ρ0 H0 S ρ H) (h : RR K H0 S H ρ σ v r) (e : storeR i r ρ = some ((), ρ')) : ∃ S', Gd K S' ρ' (σ.set i (some v)) H ∧ Fs S0 ρ0 σ H0 S' ρ' (σ.set i (some v)) H := by
  cases r with
  | kept d =>
    unfold storeR at e
    dsimp only at e
    split at e
    · rename_i hi
      cases e
      exact ⟨S, n.g.put (st := .shr) hi h fun b _ z => (by cases z), n.f.fs.put (by rw [← n.g.len]; exact hi) (.inl rfl)⟩
    · cases e
  | fresh d =>
    unfold storeR at e
    dsimp only at e
    split at e
    · rename_i hi
      cases e
      obtain ⟨a, rfl, h0, ns, t⟩ := h
      refine ⟨S, n.g.put hi ⟨a, rfl, ns, t⟩ fun b hb _ j st' d' _ hj hh hv => ?_, n.f.fs.put (by rw [← n.g.len]; exact hi) (.inr ⟨rfl, a, rfl, h0⟩)⟩
      cases hb
      obtain ⟨d2, hj2⟩ := n.f.held hj hh
      exact n.g0.held hj2 hh hv h0
    · cases e
  | slot j =>
    unfold storeR at e
    dsimp only at e
    split at e
    · rename_i d ρ1 e1
      split at e
      · rename_i hi
        cases e
        obtain ⟨S1, n1, p1, _⟩ := h.w.keep n e1
        exact ⟨S1, n1.g.put (st := .shr) hi p1 fun b _ z => (by cases z), n1.f.fs.put (by rw [← n1.g.len]; exact hi) (.inl rfl)⟩
      · cases e
    · cases e
end

/-! ### readings of statements -/
def endOf (K : PySem.W.Frag) (D : Ends) (H0 : Hp) (S : Addr → Prop) (ρ : Rho) (σ : L2.St) (H : Hp) : Fl → Prop
  | .nx => D.nx σ H
  | .bk => D.bk σ H
  | .ct => D.ct σ H
  | .ret r => ∀ v, RR K H0 S H ρ σ v r → D.rt v H
def tS (K : PySem.W.Frag) (f : Mo Fl) : TS := fun D σ H => ∃ S ρ fl ρ', Gd K S ρ σ H ∧ f ρ = some (fl, ρ') ∧ ∀ σ' S' H', Fs S ρ σ H S' ρ' σ' H' → Gd K S' ρ' σ' H' → endOf K D H S' ρ' σ' H' fl
abbrev SD (X : Cx) (st : Stmt) (f : Mo Fl) : Prop := PS X st (tS X.K f)
abbrev BD (X : Cx) (st : List Stmt) (f : Mo Fl) : Prop := PSs X st (tS X.K f)
theorem endOf.pre {K : PySem.W.Frag} {D : Ends} {H0 H1 : Hp} {S : Addr → Prop} {ρ : Rho} {σ : L2.St} {H : Hp} {fl : Fl} (dom : ∀ a, H0 a ≠ none → H1 a ≠ none) (h : endOf K D H0 S ρ σ H fl) : endOf K D H1 S ρ σ H fl := by
  cases fl with
  | ret r =>
    intro v hr
    refine h v ?_
    cases r with
    | kept d => exact hr
    | fresh d =>
      obtain ⟨a, e, h0, q⟩ := hr
      refine ⟨a, e, ?_, q⟩
      cases z : H0 a with
      | none => rfl
      | some o => exact absurd h0 (dom a (by rw [z]; simp))
    | slot i => exact hr
  | _ => exact h
def sSeq (f g : Mo Fl) : Mo Fl := fun ρ => match f ρ with
  | some (.nx, ρ') => g ρ'
  | x => x
def sPass : Mo Fl := retM .nx
def sBreak : Mo Fl := retM .bk
def sCont : Mo Fl := retM .ct
def sDrop (f : Mo Rs) : Mo Fl := bindM f fun _ => retM .nx
def sRet (f : Mo Rs) : Mo Fl := bindM f fun r => retM (.ret r)
def sSet (i : Nat) (f : Mo Rs) : Mo Fl := bindM f fun r => bindM (storeR i r) fun _ => retM .nx
def sIf (t : Mo Bool) (f g : Mo Fl) : Mo Fl := bindM t fun b => if b = true then f else g
theorem sSeq_some {f g : Mo Fl} {ρ ρ' : Rho} {fl : Fl} (h : sSeq f g ρ = some (fl, ρ')) : (∃ ρ1, f ρ = some (.nx, ρ1) ∧ g ρ1 = some (fl, ρ')) ∨ (fl ≠ .nx ∧ f ρ = some (fl, ρ')) := by
  unfold sSeq at h
  split at h
  · rename_i ρ1 e; exact .inl ⟨ρ1, e, h⟩
  · rename_i x hx
    exact .inr ⟨by rintro rfl; exact hx ρ' h, h⟩
section
variable {X : Cx} {st : Stmt} {rest : List Stmt} {e c : Expr} {f g : Mo Fl} {fe : Mo Rs} {ft : Mo Bool} {pos : Pos}
theorem bd_nil : BD X [] sPass := PSs.to pss_nil fun D σ H h => by
  obtain ⟨S, ρ, r, ρ', g, e, q⟩ := h
  cases retM_some e
  exact q σ S H Fs.refl g
theorem bd_cons (h1 : SD X st f) (h2 : BD X rest g) : BD X (st :: rest) (sSeq f g) := PSs.to (pss_cons h1 h2) fun D σ H h => by
  obtain ⟨S, ρ, fl, ρ', G, e, q⟩ := h
  rcases sSeq_some e with ⟨ρ1, e1, e2⟩ | ⟨hn, e1⟩
  · exact ⟨S, ρ, .nx, ρ1, G, e1, fun σ1 S1 H1 F1 G1 => ⟨S1, ρ1, fl, ρ', G1, e2, fun σ2 S2 H2 F2 G2 => (q σ2 S2 H2 (F1.trans F2) G2).pre F1.dom⟩⟩
  · refine ⟨S, ρ, fl, ρ', G, e1, fun σ1 S1 H1 F1 G1 => ?_⟩
    have := q σ1 S1 H1 F1 G1
    cases fl with
    | nx => exact absurd rfl hn
    | _ => exact this
theorem bd_one (h1 : SD X st f) : BD X [st] f := pss_one h1
theorem sd_pass : SD X (.Pass pos) sPass := PS.to ps_pass fun D σ H h => by
  obtain ⟨S, ρ, r, ρ', g, e, q⟩ := h
  cases retM_some e
  exact q σ S H Fs.refl g
theorem sd_break : SD X (.Break pos) sBreak := PS.to ps_break fun D σ H h => by
  obtain ⟨S, ρ, r, ρ', g, e, q⟩ := h
  cases retM_some e
  exact q σ S H Fs.refl g
theorem sd_cont : SD X (.Continue pos) sCont := PS.to ps_continue fun D σ H h => by
  obtain ⟨S, ρ, r, ρ', g, e, q⟩ := h
  cases retM_some e
  exact q σ S H Fs.refl g
theorem sd_expr (he : PD X e fe) (hs : swapsWith e none pos.line X.env = pure false := by rfl) : SD X (.Expr e pos) (sDrop fe) := PS.to (ps_expr he hs) fun D σ H h => by
  obtain ⟨S, ρ, r, ρ', G, e, q⟩ := h
  obtain ⟨r1, ρ1, e1, e2⟩ := bindM_some e
  cases retM_some e2
  exact ⟨S, ρ, r1, _, G, e1, fun v S1 H1 F1 G1 R1 => q σ S1 H1 F1.fs G1⟩
theorem sd_ret (he : PD X e fe) : SD X (.Return (some e) pos) (sRet fe) := PS.to (ps_ret he) fun D σ H h => by
  obtain ⟨S, ρ, r, ρ', G, e, q⟩ := h
  obtain ⟨r1, ρ1, e1, e2⟩ := bindM_some e
  cases retM_some e2
  exact ⟨S, ρ, r1, _, G, e1, fun v S1 H1 F1 G1 R1 => q σ S1 H1 F1.fs G1 v R1⟩
theorem sd_retN : SD X (.Return none pos) (sRet (xC .none)) := PS.to ps_retN fun D σ H h => by
  obtain ⟨S, ρ, r, ρ', G, e, q⟩ := h
  obtain ⟨r1, ρ1, e1, e2⟩ := bindM_some e
  cases retM_some e2
  cases retM_some e1
  exact q σ S H Fs.refl G .non .non
theorem sd_set (i : Nat) {x : Str} {pos' : Pos} (hN : X.N.Nodup) (he : PD X e fe) (hi : X.N[i]? = some x := by rfl) (hx : Loc X.env.scope x := by first | exact Or.inl rfl | exact Or.inr rfl) (hs : swapsWith e (some (.Name x pos')) pos.line X.env = pure false := by rfl)
    (hf : X.fn x = true ∨ X.env.scope.names.lookup x = some .local := by first | exact .inl rfl | exact .inr rfl | assumption) : SD X (.Assign [.Name x pos'] e pos) (sSet i fe) := PS.to (ps_set hN hi hx he hs hf) fun D σ H h => by
  obtain ⟨S, ρ, r, ρ', G, e, q⟩ := h
  obtain ⟨r1, ρ1, e1, e2⟩ := bindM_some e
  obtain ⟨u, ρ2, e3, e4⟩ := bindM_some e2
  cases retM_some e4
  refine ⟨S, ρ, r1, ρ1, G, e1, fun v S1 H1 F1 G1 R1 => ?_⟩
  obtain ⟨S2, G2, F2⟩ := R1.store ⟨G, F1, G1⟩ e3
  exact q _ S2 H1 F2 G2
theorem sd_if {a b : List Stmt} (hc : TD X c ft) (ha : BD X a f) (hb : BD X b g) : SD X (.If c a b pos) (sIf ft f g) := PS.to (ps_if hc ha hb) fun D σ H h => by
  obtain ⟨S, ρ, fl, ρ', G, e, q⟩ := h
  obtain ⟨b1, ρ1, e1, e2⟩ := bindM_some e
  refine ⟨S, ρ, b1, ρ1, G, e1, fun S1 H1 F1 G1 => ?_⟩
  cases b1 with
  | true => exact ⟨S1, ρ1, fl, ρ', G1, e2, fun σ2 S2 H2 F2 G2 => (q σ2 S2 H2 (F1.fs.trans F2) G2).pre F1.dom⟩
  | false => exact ⟨S1, ρ1, fl, ρ', G1, e2, fun σ2 S2 H2 F2 G2 => (q σ2 S2 H2 (F1.fs.trans F2) G2).pre F1.dom⟩

/-! ### while -/
def whileM : Nat → Mo Bool → Mo Fl → Mo Fl
  | 0, _, _ => fun _ => none
  | m + 1, t, b => fun ρ => match t ρ with
    | some (true, ρ1) => match b ρ1 with
      | some (.nx, ρ2) => whileM m t b ρ2
      | some (.ct, ρ2) => whileM m t b ρ2
      | some (.bk, ρ2) => some (.nx, ρ2)
      | some (.ret r, ρ2) => some (.ret r, ρ2)
      | none => none
    | some (false, ρ1) => some (.nx, ρ1)
    | none => none
theorem sd_while {body : List Stmt} (m : Nat) (hc : TD X c ft) (hb : BD X body f) (hp : PassesOwn (model X.prog X.w) X.A X.env X.xe := by exact PassesOwn.never) : SD X (.While c body [] pos) (whileM m ft f) := PS.to (ps_while hp hc hb) fun D σ H h => by
  obtain ⟨S, ρ, fl, ρ', G, e, q⟩ := h
  refine ⟨fun k σ1 H1 => ∃ S1 ρ1, Gd X.K S1 ρ1 σ1 H1 ∧ Fs S ρ σ H S1 ρ1 σ1 H1 ∧ whileM k ft f ρ1 = some (fl, ρ'), ⟨m, S, ρ, G, Fs.refl, e⟩, ?_⟩
  rintro k σ1 H1 ⟨S1, ρ1, G1, F1, e1⟩
  cases k with
  | zero => cases e1
  | succ k =>
    unfold whileM at e1
    cases et : ft ρ1 with
    | none => rw [et] at e1; cases e1
    | some p =>
      obtain ⟨b, ρ2⟩ := p
      rw [et] at e1
      refine ⟨S1, ρ1, b, ρ2, G1, et, fun S2 H2 F2 G2 => ?_⟩
      have F12 := F1.trans F2.fs
      cases b with
      | false => cases e1; exact q σ1 S2 H2 F12 G2
      | true =>
        dsimp only at e1
        cases eb : f ρ2 with
        | none => rw [eb] at e1; cases e1
        | some p =>
          obtain ⟨fl2, ρ3⟩ := p
          rw [eb] at e1
          refine ⟨fun σ' H' => ∃ S' ρ', Gd X.K S' ρ' σ' H' ∧ Fs S ρ σ H S' ρ' σ' H' ∧ fl2 ≠ .bk ∧ whileM k ft f ρ' = some (fl, _), fun σ' H' ⟨S', ρ', g', f', _, e'⟩ => ⟨k, Nat.lt_succ_self k, S', ρ', g', f', e'⟩, S2, ρ2, fl2, ρ3, G2, eb, fun σ3 S3 H3 F3 G3 => ?_⟩
          have F13 := F12.trans F3
          cases fl2 with
          | nx => exact ⟨S3, ρ3, G3, F13, by simp, e1⟩
          | ct => exact ⟨S3, ρ3, G3, F13, by simp, e1⟩
          | bk => cases e1; exact q σ3 S3 H3 F13 G3
          | ret r => 
            cases e1
            exact (q σ3 S3 H3 F13 G3).pre (fun a ha => F12.dom a ha)
end
end PyI

/-! PyI, part D: targets, what a for walks, for. -/
namespace PyI
open PySem PySem.Spec L2

/-! ### targets, for data that is shared -/
/-- how a target stores; the slots that it stores -/
structure G1 where
  run : PyData → Mo Unit
  vs : List Nat
structure G2 where
  run : List PyData → Mo Unit
  vs : List Nat
/-- the slots vs alone are stored, with what is shared -/
structure Sto (vs : List Nat) (ρ : Rho) (σ : L2.St) (ρ' : Rho) (σ' : L2.St) : Prop where
  len : σ'.length = σ.length
  off : ∀ i : Nat, i ∉ vs → ρ'[i]? = ρ[i]? ∧ σ'[i]? = σ[i]?
  on : ∀ (i : Nat) (st : Stt) (d : PyData), i ∈ vs → ρ'[i]? = some (some (st, d)) → st = .shr ∨ ρ[i]? = some (some (st, d))
theorem Sto.refl {vs : List Nat} {ρ : Rho} {σ : L2.St} : Sto vs ρ σ ρ σ := ⟨rfl, fun _ _ => ⟨rfl, rfl⟩, fun _ _ _ _ h => .inr h⟩
theorem Sto.trans {vs ws : List Nat} {ρ ρ' ρ'' : Rho} {σ σ' σ'' : L2.St} (a : Sto vs ρ σ ρ' σ') (b : Sto ws ρ' σ' ρ'' σ'') : Sto (vs ++ ws) ρ σ ρ'' σ'' := by
  refine ⟨b.len.trans a.len, fun i hi => ?_, fun i st d hi h => ?_⟩
  · rw [List.mem_append, not_or] at hi
    exact ⟨(b.off i hi.2).1.trans (a.off i hi.1).1, (b.off i hi.2).2.trans (a.off i hi.1).2⟩
  · have h1 : st = .shr ∨ ρ'[i]? = some (some (st, d)) := by
      by_cases hw : i ∈ ws
      · exact b.on i st d hw h
      · rw [(b.off i hw).1] at h; exact .inr h
    rcases h1 with h1 | h1
    · exact .inl h1
    · by_cases hv : i ∈ vs
      · exact a.on i st d hv h1
      · rw [(a.off i hv).1] at h1; exact .inr h1
def tG (K : PySem.W.Frag) (g : G1) : TG := fun v σ H Q => ∃ S ρ d ρ', Gd K S ρ σ H ∧ Rp K S H v d ∧ g.run d ρ = some ((), ρ') ∧ ∀ σ', Gd K S ρ' σ' H → Fs S ρ σ H S ρ' σ' H → Sto g.vs ρ σ ρ' σ' → Q σ' H
def tGs (K : PySem.W.Frag) (g : G2) : TGs := fun vs σ H Q => ∃ S ρ ds ρ', Gd K S ρ σ H ∧ RpL K S H vs ds ∧ g.run ds ρ = some ((), ρ') ∧ ∀ σ', Gd K S ρ' σ' H → Fs S ρ σ H S ρ' σ' H → Sto g.vs ρ σ ρ' σ' → Q σ' H
abbrev GD (X : Cx) (target : Expr) (g : G1) : Prop := PG X target (tG X.K g)
abbrev GsD (X : Cx) (ts : List Expr) (g : G2) : Prop := PGs X ts (tGs X.K g)
theorem PG.to {X : Cx} {e : Expr} {t t' : TG} (h : PG X e t) (i : ∀ v σ H Q, t' v σ H Q → t v σ H Q) : PG X e t' := ⟨fun pins s σ H v u Q I r q => h.run pins s σ H v u Q I r (i v σ H Q q)⟩
theorem PGs.to {X : Cx} {e : List Expr} {t t' : TGs} (h : PGs X e t) (i : ∀ v σ H Q, t' v σ H Q → t v σ H Q) : PGs X e t' := ⟨fun pins s σ H v u Q I r q => h.run pins s σ H v u Q I r (i v σ H Q q)⟩
/-- a name -/
def gN (i : Nat) : G1 := ⟨fun d => storeR i (.kept d), [i]⟩
def gsNrun : List PyData → Mo Unit
  | [] => retM ()
  | _ => fun _ => none
def gsN : G2 := ⟨gsNrun, []⟩
def gsCrun (g : G1) (gs : G2) : List PyData → Mo Unit
  | d :: ds => bindM (g.run d) fun _ => gs.run ds
  | [] => fun _ => none
def gsC (g : G1) (gs : G2) : G2 := ⟨gsCrun g gs, g.vs ++ gs.vs⟩
/-- a tuple of targets; a list unpacked -/
def gTrun (g : G2) : PyData → Mo Unit
  | .tuple ds => g.run ds
  | _ => fun _ => none
def gT (g : G2) : G1 := ⟨gTrun g, g.vs⟩
def gLrun (g : G2) : PyData → Mo Unit
  | .list ds => g.run ds
  | _ => fun _ => none
def gL (g : G2) : G1 := ⟨gLrun g, g.vs⟩
theorem storeK {K : PySem.W.Frag} {S : Addr → Prop} {ρ ρ' : Rho} {σ : L2.St} {H : Hp} {v : V} {d : PyData} {i : Nat} (g : Gd K S ρ σ H) (r : Rp K S H v d) (e : storeR i (.kept d) ρ = some ((), ρ')) :
    Gd K S ρ' (σ.set i (some v)) H ∧ Fs S ρ σ H S ρ' (σ.set i (some v)) H ∧ Sto [i] ρ σ ρ' (σ.set i (some v)) := by
  unfold storeR at e
  dsimp only at e
  split at e
  · rename_i hi
    cases e
    refine ⟨g.put (st := .shr) hi r fun b _ z => (by cases z), Fs.refl.put (by rw [← g.len]; exact hi) (.inl rfl), by rw [List.length_set], fun j hj => ?_, fun j st d' hj h => ?_⟩
    · have hne : i ≠ j := fun z => hj (by simp [z])
      exact ⟨List.getElem?_set_ne hne, List.getElem?_set_ne hne⟩
    · have hji : j = i := by simpa using hj
      subst hji
      rw [List.getElem?_set_self hi] at h
      cases h
      exact .inl rfl
  · cases e
theorem Rdb.seqT {K : PySem.W.Frag} {S : Addr → Prop} {H : Hp} {v : V} {ds : List PyData} (h : Rdb K S H v (.tuple ds)) : ∃ a vs, v = .ref a ∧ STup K S H a vs ∧ RpL K S H vs ds := by
  rcases h with h | ⟨a, _, h⟩
  · cases h with
    | tup h1 h2 _ => exact ⟨_, _, rfl, h1, h2⟩
  · exact h.elim
theorem STup.sqT {K : PySem.W.Frag} {S : Addr → Prop} {H : Hp} {a : Addr} {vs : List V} (h : STup K S H a vs) : SqT K H a vs := by
  rcases h with ⟨_, h⟩ | h
  · exact .inl h
  · exact .inr h
theorem Rdb.seqL {K : PySem.W.Frag} {S : Addr → Prop} {H : Hp} {v : V} {ds : List PyData} (h : Rdb K S H v (.list ds)) : ∃ a vs, v = .ref a ∧ H a = some (.lst vs) ∧ RpL K S H vs ds := by
  rcases h with h | ⟨a, e, vs, h1, h2⟩
  · cases h with
    | lst h1 h2 h3 => exact ⟨_, _, rfl, h2, h3⟩
  · exact ⟨a, vs, e, h1, h2⟩
section
variable {X : Cx} {pos : Pos} {e : Expr} {es : List Expr} {g : G1} {gs : G2}
theorem gd_name (i : Nat) {x : Str} (hN : X.N.Nodup) (hi : X.N[i]? = some x := by rfl) (hx : Loc X.env.scope x := by first | exact Or.inl rfl | exact Or.inr rfl)
    (hf : X.fn x = true ∨ X.env.scope.names.lookup x = some .local := by first | exact .inl rfl | exact .inr rfl | assumption) : GD X (.Name x pos) (gN i) := PG.to (pg_name hN hi hx hf) fun v σ H Q h => by
  obtain ⟨S, ρ, d, ρ', G, r, e, q⟩ := h
  obtain ⟨G1, F1, O1⟩ := storeK G r e
  exact q _ G1 F1 O1
theorem gds_nil : GsD X [] gsN := PGs.to pgs_nil fun vs σ H Q h => by
  obtain ⟨S, ρ, ds, ρ', G, r, e, q⟩ := h
  cases ds with
  | nil =>
    cases r
    cases retM_some e
    exact ⟨rfl, q σ G Fs.refl Sto.refl⟩
  | cons d ds => cases e
theorem gds_cons (h1 : GD X e g) (h2 : GsD X es gs) (hs : (assignEach (e :: es) X.env).map (·.2) = assign e X.env :: (assignEach es X.env).map (·.2) := by rfl) : GsD X (e :: es) (gsC g gs) := PGs.to (pgs_cons h1 h2 hs) fun vs σ H Q h => by
  obtain ⟨S, ρ, ds, ρ', G, r, e, q⟩ := h
  cases ds with
  | nil => cases e
  | cons d ds =>
    cases r with
    | cons r rr =>
      obtain ⟨u, ρ1, e1, e2⟩ := bindM_some e
      refine ⟨_, _, rfl, S, ρ, d, ρ1, G, r, e1, fun σ1 G1 F1 O1 => ⟨S, ρ1, ds, ρ', G1, rr, e2, fun σ2 G2 F2 O2 => q σ2 G2 (F1.trans F2) (O1.trans O2)⟩⟩
theorem gd_tup {k : Nat} (n : Nat) (hc : X.calm = true) (h : GsD X es gs) (hl : ∀ ds ρ x, gs.run ds ρ = some x → ds.length = n) (hn : (assignEach es X.env).length = n := by rfl) (hst : (assignEach es X.env).findIdx? (·.1) = none := by rfl) : GD X (.Tuple es k pos) (gT gs) := PG.to (pg_tup hc h hn hst) fun v σ H Q h => by
  obtain ⟨S, ρ, d, ρ', G, r, e, q⟩ := h
  cases d with
  | tuple ds =>
    obtain ⟨a, vs, rfl, st, rl⟩ := Rdb.seqT (.inl r)
    exact ⟨a, vs, rfl, st.sqT, by rw [rl.len]; exact hl ds ρ _ e, S, ρ, ds, ρ', G, rl, e, q⟩
  | _ => cases e
theorem gsN_len (ds : List PyData) (ρ : Rho) (x : Unit × Rho) (h : gsN.run ds ρ = some x) : ds.length = 0 := by
  cases ds with
  | nil => rfl
  | cons d ds => cases h
theorem gsC_len {n : Nat} (hl : ∀ ds ρ x, gs.run ds ρ = some x → ds.length = n) (ds : List PyData) (ρ : Rho) (x : Unit × Rho) (h : (gsC g gs).run ds ρ = some x) : ds.length = n + 1 := by
  cases ds with
  | nil => cases h
  | cons d ds =>
    obtain ⟨u, ρ1, e1, e2⟩ := bindM_some h
    rw [List.length_cons, hl ds ρ1 x e2]
end

/-! ### what is walked -/
/-- the iterator J yields the data ds, in any state in which what was shared, and the objects of T, stand -/
def Walk (K : PySem.W.Frag) (J : It) (ds : List PyData) (T : Addr → Prop) (S0 : Addr → Prop) (H0 : Hp) : Prop :=
  ∀ (S : Addr → Prop) (H : Hp) (i : Nat), Uph S0 H0 S H → (∀ a o, T a → H0 a = some o → H a = some o) → (∀ a, S a → H a ≠ none) →
    (i < ds.length → J.go i H ∧ ∀ x H', J.yld i H x H' → ∃ S' d, Gw S H S' H' ∧ ds[i]? = some d ∧ Rp K S' H' x d) ∧ (ds.length ≤ i → J.stop i H)
def tI (K : PySem.W.Frag) (f : Mo (List PyData)) : TI := fun σ H R => ∃ S ρ ds ρ', Gd K S ρ σ H ∧ f ρ = some (ds, ρ') ∧ ∀ J S' H' T, Fm S ρ σ H S' ρ' H' → Gd K S' ρ' σ H' → (∀ a, T a → H' a ≠ none ∧ ¬ Mu ρ' σ a) → Walk K J ds T S' H' → R J H'
abbrev ID (X : Cx) (tg iter : Expr) (f : Mo (List PyData)) : Prop := PI X tg iter (tI X.K f)
theorem PI.to {X : Cx} {tg e : Expr} {t t' : TI} (h : PI X tg e t) (i : ∀ σ H R, t' σ H R → t σ H R) : PI X tg e t' := ⟨fun pins s σ H R I q => h.run pins s σ H R I (i σ H R q)⟩
/-- a list or a tuple -/
def iSeq (K : PySem.W.Frag) (tl : TE) : TI := fun σ H R => tl σ H fun x H1 => ∃ a, x = .ref a ∧ ((∃ xs, SqL K H1 a xs ∧ R (Itl K a) H1) ∨ ∃ xs, SqT K H1 a xs ∧ R (Itt K a) H1)
theorem pi_seq {X : Cx} {tg : Expr} {l : Expr} {tl : TE} (hl : PE X l tl) : PI X tg l (iSeq X.K tl) := by
  refine ⟨fun pins s σ H R I h => ?_⟩
  refine thn (hl.run pins s σ H _ I h) fun v s1 ⟨x, H1, I1, r1, q1⟩ => ?_
  obtain ⟨a, e, q⟩ := q1
  subst e
  cases r1
  have hf : ∀ b ∈ [s1.heap.objs.size], FpOk X pins H1 b := fun b hb => by
    have e : b = s1.heap.objs.size := by simpa using hb
    subst e
    exact I1.fpOk (Nat.le_refl _) (I1.hok.fresh (Nat.le_refl _))
  rcases q with ⟨xs, hq, q⟩ | ⟨xs, hq, q⟩
  · obtain ⟨its, rv, p, hz⟩ := I1.list hq
    exact wpAny_pyIter_list p.isList ⟨s1.heap.objs.size, [s1.heap.objs.size], _, _, H1, rfl, I1.kept (t' := s1.toks) fun b o e => Heap.get?_push_of_some _ e, turn_list a _, ⟨_, Heap.get?_push_size _ rfl, rfl, rfl⟩, hf, q⟩
  · obtain ⟨its, rv, p, hz⟩ := I1.tuple hq
    exact wpAny_pyIter_tuple (show s1.heap.IsTuple a its.toArray from p) ⟨s1.heap.objs.size, [s1.heap.objs.size], _, _, H1, rfl, I1.kept (t' := s1.toks) fun b o e => Heap.get?_push_of_some _ e, turn_tuple a _, ⟨_, Heap.get?_push_size _ rfl, rfl, rfl⟩, hf, q⟩
/-- what is walked may be borrowed -/
def iterR (r : Rs) : Mo PyData := fun ρ => match r with
  | .slot i => match ρ[i]? with
    | some (some (.bor, d)) => some (d, ρ)
    | _ => keepR r ρ
  | _ => keepR r ρ
def seqOf : PyData → Option (List PyData)
  | .list ds => some ds
  | .tuple ds => some ds
  | _ => none
def iS (f : Mo Rs) : Mo (List PyData) := bindM f fun r => bindM (iterR r) fun d => optM (seqOf d)
theorem walk_list {K : PySem.W.Frag} {T S0 : Addr → Prop} {H0 : Hp} {a : Addr} {vs : List V} {ds : List PyData} (h : H0 a = some (.lst vs)) (r : RpL K S0 H0 vs ds) (ht : S0 a ∨ T a) : Walk K (Itl K a) ds T S0 H0 := by
  intro S H i u t al
  have hH : H a = some (.lst vs) := ht.elim (fun z => u.at' a _ z h) fun z => t a _ z h
  have r' := RpL.up u r
  refine ⟨fun hi => ⟨?_, fun x H' y => ?_⟩, fun hi => ⟨vs, SqL.of hH, by rw [r'.len]; exact hi⟩⟩
  · obtain ⟨v, hv, _⟩ := r'.get (List.getElem?_eq_getElem hi)
    exact ⟨vs, v, SqL.of hH, hv⟩
  · obtain ⟨rfl, y⟩ := y
    obtain ⟨d, hd, rd⟩ := r'.get' (y vs (SqL.of hH))
    exact ⟨S, d, Gw.refl al, hd, rd⟩
theorem walk_tup {K : PySem.W.Frag} {T S0 : Addr → Prop} {H0 : Hp} {a : Addr} {vs : List V} {ds : List PyData} (h : STup K S0 H0 a vs) (r : RpL K S0 H0 vs ds) : Walk K (Itt K a) ds T S0 H0 := by
  intro S H i u t al
  have hH : SqT K H a vs := (u.stup h).sqT
  have r' := RpL.up u r
  refine ⟨fun hi => ⟨?_, fun x H' y => ?_⟩, fun hi => ⟨vs, hH, by rw [r'.len]; exact hi⟩⟩
  · obtain ⟨v, hv, _⟩ := r'.get (List.getElem?_eq_getElem hi)
    exact ⟨vs, v, hH, hv⟩
  · obtain ⟨rfl, y⟩ := y
    obtain ⟨d, hd, rd⟩ := r'.get' (y vs hH)
    exact ⟨S, d, Gw.refl al, hd, rd⟩
/-- what is walked, read -/
theorem RR.iter {K : PySem.W.Frag} {S0 S : Addr → Prop} {ρ0 ρ ρ' : Rho} {σ : L2.St} {H0 H : Hp} {v : V} {r : Rs} {d : PyData} (n : Now K σ S0 ρ0 H0 S ρ H) (h : RR K H0 S H ρ σ v r) (e : iterR r ρ = some (d, ρ')) :
    ∃ S', Now K σ S0 ρ0 H0 S' ρ' H ∧ (Rp K S' H v d ∨ ∃ a, v = .ref a ∧ H a ≠ none ∧ ¬ Mu ρ' σ a ∧ TopR K S' H a d) := by
  have old : keepR r ρ = some (d, ρ') → ∃ S', Now K σ S0 ρ0 H0 S' ρ' H ∧ (Rp K S' H v d ∨ ∃ a, v = .ref a ∧ H a ≠ none ∧ ¬ Mu ρ' σ a ∧ TopR K S' H a d) := fun e => by
    obtain ⟨S', n', p, _⟩ := h.w.keep n e
    exact ⟨S', n', .inl p⟩
  unfold iterR at e
  cases r with
  | kept d' => exact old e
  | fresh d' => exact old e
  | slot i =>
    dsimp only at e
    split at e
    · rename_i d' hb
      cases e
      obtain ⟨h1, _⟩ := h
      obtain ⟨w, h2, a, h3, h4, h5⟩ := n.g.sl i _ _ hb
      rw [h1] at h2; cases h2
      subst h3
      refine ⟨S, n, .inr ⟨a, rfl, TopR.there h5, ?_, h5⟩⟩
      rintro ⟨j, st, d2, z1, z2, z3⟩
      have hold : st.hold = true := by cases st <;> first | rfl | cases z2
      have := n.g.ne j i a st d2 .bor _ z1 hb hold rfl z3 h1
      subst this
      rw [hb] at z1
      cases z1
      cases z2
    · exact old e
section
variable {X : Cx} {tg l : Expr} {f : Mo Rs} {pos : Pos}
theorem id_seq (hl : PD X l f) : ID X tg l (iS f) := PI.to (pi_seq hl) fun σ H R h => by
  obtain ⟨S, ρ, ds, ρ', G, e, q⟩ := h
  obtain ⟨r, ρ1, e1, e2⟩ := bindM_some e
  obtain ⟨d, ρ2, e3, e4⟩ := bindM_some e2
  obtain ⟨e5, e6⟩ := optM_some e4
  simp only at e5 e6
  subst e6
  refine ⟨S, ρ, r, ρ1, G, e1, fun v S1 H1 F1 G1 R1 => ?_⟩
  obtain ⟨S2, n2, p⟩ := R1.iter ⟨G, F1, G1⟩ e3
  cases d with
  | list xs =>
    cases e5
    rcases p with p | ⟨a, rfl, ha, nm, vs, h1, h2⟩
    · cases p with
      | lst hs h1 h2 => exact ⟨_, rfl, .inl ⟨_, SqL.of h1, q _ S2 H1 (fun _ => False) n2.f n2.g (fun _ h => h.elim) (walk_list h1 h2 (.inl hs))⟩⟩
    · exact ⟨a, rfl, .inl ⟨_, SqL.of h1, q _ S2 H1 (fun b => b = a) n2.f n2.g (fun b h => by subst h; exact ⟨ha, nm⟩) (walk_list h1 h2 (.inr rfl))⟩⟩
  | tuple xs =>
    cases e5
    rcases p with p | ⟨a, rfl, ha, nm, z⟩
    · cases p with
      | tup h1 h2 _ => exact ⟨_, rfl, .inr ⟨_, h1.sqT, q _ S2 H1 (fun _ => False) n2.f n2.g (fun _ h => h.elim) (walk_tup h1 h2)⟩⟩
    · exact z.elim
  | _ => cases e5

/-! ### for -/
def forM : List PyData → G1 → Mo Fl → Mo Fl
  | [], _, _ => retM .nx
  | d :: ds, g, b => fun ρ => match g.run d ρ with
    | some (_, ρ1) => match b ρ1 with
      | some (.nx, ρ2) => forM ds g b ρ2
      | some (.ct, ρ2) => forM ds g b ρ2
      | some (.bk, ρ2) => some (.nx, ρ2)
      | some (.ret r, ρ2) => some (.ret r, ρ2)
      | none => none
    | none => none
def sFor (f : Mo (List PyData)) (g : G1) (b : Mo Fl) : Mo Fl := bindM f fun ds => forM ds g b
theorem for_ok {K : PySem.W.Frag} {f : Mo (List PyData)} {g : G1} {b : Mo Fl} {D : Ends} {σ : L2.St} {H : Hp} (h : tS K (sFor f g b) D σ H) : tFor (tI K f) (tG K g) (tS K b) D σ H := by
  obtain ⟨S, ρ, fl, ρ', G, e, q⟩ := h
  obtain ⟨ds, ρ1, e1, e2⟩ := bindM_some e
  refine ⟨S, ρ, ds, ρ1, G, e1, fun J S1 H1 T F1 G1 hT W => ?_⟩
  refine ⟨fun i m σ2 H2 => ∃ S2 ρ2, Gd K S2 ρ2 σ2 H2 ∧ Fs S1 ρ1 σ H1 S2 ρ2 σ2 H2 ∧ i ≤ ds.length ∧ m = ds.length - i ∧ forM (ds.drop i) g b ρ2 = some (fl, ρ'), ⟨ds.length, S1, ρ1, G1, Fs.refl, Nat.zero_le _, rfl, e2⟩, ?_⟩
  rintro i m σ2 H2 ⟨S2, ρ2, G2, F2, hi, rfl, e3⟩
  have F02 := F1.fs.trans F2
  have u : Uph S1 H1 S2 H2 := ⟨F2.sh, fun a o hs ha => F2.keep a o ha (G1.notMu hs)⟩
  have t : ∀ a o, T a → H1 a = some o → H2 a = some o := fun a o ha h => F2.keep a o h (hT a ha).2
  obtain ⟨w1, w2⟩ := W S2 H2 i u t G2.al
  by_cases hlt : i < ds.length
  · obtain ⟨go, yl⟩ := w1 hlt
    refine .inr ⟨go, fun σ' H' => ∃ S' ρ2', Gd K S' ρ2' σ' H' ∧ Fs S1 ρ1 σ H1 S' ρ2' σ' H' ∧ forM (ds.drop (i + 1)) g b ρ2' = some (fl, ρ'), fun σ' H' ⟨S', ρ2', g', f', e'⟩ => ⟨ds.length - (i + 1), by omega, S', ρ2', g', f', hlt, rfl, e'⟩, fun x H3 y => ?_⟩
    obtain ⟨S3, d, E3, hd, rp⟩ := yl x H3 y
    have hdrop : ds.drop i = d :: ds.drop (i + 1) := by
      rw [List.drop_eq_getElem_cons hlt]
      rw [List.getElem?_eq_getElem hlt] at hd
      cases hd
      rfl
    rw [hdrop] at e3
    unfold forM at e3
    cases eg : g.run d ρ2 with
    | none => rw [eg] at e3; cases e3
    | some p =>
      obtain ⟨_, ρ3⟩ := p
      rw [eg] at e3
      dsimp only at e3
      have G3 := G2.ext E3
      have F03 := F2.trans (E3.fr (ρ := ρ2) (σ := σ2)).fs
      refine ⟨S3, ρ2, d, ρ3, G3, rp, eg, fun σ4 G4 F4 _ => ?_⟩
      have F04 := F03.trans F4
      cases eb : b ρ3 with
      | none => rw [eb] at e3; cases e3
      | some p =>
        obtain ⟨fl2, ρ5⟩ := p
        rw [eb] at e3
        refine ⟨S3, ρ3, fl2, ρ5, G4, eb, fun σ5 S5 H5 F5 G5 => ?_⟩
        have F05 := F04.trans F5
        cases fl2 with
        | nx => exact ⟨S5, ρ5, G5, F05, e3⟩
        | ct => exact ⟨S5, ρ5, G5, F05, e3⟩
        | bk => cases e3; exact q σ5 S5 H5 (F1.fs.trans F05) G5
        | ret r =>
          cases e3
          exact (q σ5 S5 H5 (F1.fs.trans F05) G5).pre (fun a ha => F04.dom a (F1.dom a ha))
  · have hie : ds.drop i = [] := List.drop_eq_nil_of_le (by omega)
    rw [hie] at e3
    cases retM_some e3
    exact .inl ⟨w2 (by omega), q σ2 S2 H2 F02 G2⟩
theorem sd_for {iter : Expr} {body : List Stmt} {fi : Mo (List PyData)} {g : G1} {b : Mo Fl} (hc : X.calm = true) (hi : ID X tg iter fi) (hg : GD X tg g) (hb : BD X body b) (hp : PassesOwn (model X.prog X.w) X.A X.env X.xe := by exact PassesOwn.never)
    (hs : ∀ x, foldedSetIterable iter X.env x = pure x := by intro _; rfl) : SD X (.For tg iter body [] pos) (sFor fi g b) := PS.to (ps_for hp hc hi hg hb hs) fun D σ H h => for_ok h
/-- a, b = e -/
def sUnp (f : Mo Rs) (g : G1) : Mo Fl := bindM f fun r => bindM (keepR r) fun d => bindM (g.run d) fun _ => retM .nx
theorem sd_unp {e : Expr} {g : G1} (he : PD X e f) (hg : GD X tg g) (hs : swapsWithSole [tg] e pos.line X.env = pure false := by rfl) (hw : swappedStores [tg] e X.env = pure none := by rfl)
    (h1 : (assignEach [tg] X.env).map (·.2) = [assign tg X.env] := by rfl) : SD X (.Assign [tg] e pos) (sUnp f g) := PS.to (ps_asg he hg hs hw h1) fun D σ H h => by
  obtain ⟨S, ρ, fl, ρ', G, e, q⟩ := h
  obtain ⟨r, ρ1, e1, e2⟩ := bindM_some e
  obtain ⟨d, ρ2, e3, e4⟩ := bindM_some e2
  obtain ⟨u, ρ3, e5, e6⟩ := bindM_some e4
  cases retM_some e6
  refine ⟨S, ρ, r, ρ1, G, e1, fun v S1 H1 F1 G1 R1 => ?_⟩
  obtain ⟨S2, n2, p, _⟩ := R1.w.keep ⟨G, F1, G1⟩ e3
  exact ⟨S2, ρ2, d, _, n2.g, p, e5, fun σ' G' F' _ => q σ' S2 H1 (n2.f.fs.trans F') G'⟩
/-- a, b = x, y with plain names -/
def sPar (i j : Nat) (g : Mo (List Rs)) : Mo Fl := bindM g fun rs => bindM (keepL rs) fun ds => match ds with
  | [d1, d2] => bindM (storeR i (.kept d1)) fun _ => bindM (storeR j (.kept d2)) fun _ => retM .nx
  | _ => fun _ => none
theorem sd_par (i j : Nat) {x y : Str} {a b : Expr} {g : Mo (List Rs)} {px py pt : Pos} {kt k2 pt2} (hc : X.calm = true) (hN : X.N.Nodup) (ha : AD X [a, b] g)
    (hw : swappedStores [.Tuple [.Name x px, .Name y py] kt pt] (.Tuple [a, b] k2 pt2) X.env = pure (some [x, y]) := by rfl) (hi : X.N[i]? = some x := by rfl) (hj : X.N[j]? = some y := by rfl) (hij : i ≠ j := by decide)
    (hx : X.env.scope.names.lookup x = some .local := by rfl) (hy : X.env.scope.names.lookup y = some .local := by rfl)
    (hs : swapsWithSole [.Tuple [.Name x px, .Name y py] kt pt] (.Tuple [a, b] k2 pt2) pos.line X.env = pure false := by rfl) :
    SD X (.Assign [.Tuple [.Name x px, .Name y py] kt pt] (.Tuple [a, b] k2 pt2) pos) (sPar i j g) := PS.to (ps_par hc hN hi hj hij hx hy ha hw hs) fun D σ H h => by
  obtain ⟨S, ρ, fl, ρ', G, e, q⟩ := h
  obtain ⟨rs, ρ1, e1, e2⟩ := bindM_some e
  obtain ⟨ds, ρ2, e3, e4⟩ := bindM_some e2
  refine ⟨S, ρ, rs, ρ1, G, e1, fun vs S1 H1 F1 G1 R1 => ?_⟩
  obtain ⟨S2, n2, p, _⟩ := RRLw.keep rs ⟨G, F1, G1⟩ R1.w e3
  cases p with
  | nil => cases e4
  | cons p1 pr =>
    cases pr with
    | nil => cases e4
    | cons p2 pr =>
      cases pr with
      | nil =>
        obtain ⟨u, ρ3, e5, e6⟩ := bindM_some e4
        obtain ⟨u2, ρ4, e7, e8⟩ := bindM_some e6
        cases retM_some e8
        obtain ⟨G3, F3, _⟩ := storeK n2.g p1 e5
        obtain ⟨G4, F4, _⟩ := storeK G3 p2 e7
        exact ⟨_, _, rfl, q _ S2 H1 (n2.f.fs.trans (F3.trans F4)) G4⟩
      | cons _ _ => cases e4
end
end PyI

/-! PyI, part E: comprehensions of one clause. -/
namespace PyI
open PySem PySem.Spec L2

def LIM : Nat := 1000000
theorem lim_line {n : Nat} (h : n ≤ LIM) : n ≤ sizeLine := Nat.le_trans h (by rw [sizeLine_eq]; decide)
theorem lim_lt {n : Nat} (h : n < LIM) : n < sizeLine := Nat.lt_of_lt_of_le h (by rw [sizeLine_eq]; decide)
/-- the slots forgotten -/
def wipeE (ρ : Rho) : List Nat → Rho
  | [] => ρ
  | v :: vs => (wipeE ρ vs).set v none
/-- the slots as they were -/
def restE (ρ0 ρ : Rho) : List Nat → Rho
  | [] => ρ
  | v :: vs => match ρ0[v]? with
    | some x => (restE ρ0 ρ vs).set v x
    | none => restE ρ0 ρ vs
section
variable {ρ ρ0 : Rho}
theorem wipeE_len (ρ : Rho) : ∀ vs, (wipeE ρ vs).length = ρ.length
  | [] => rfl
  | v :: vs => by unfold wipeE; rw [List.length_set, wipeE_len ρ vs]
theorem wipeE_off {vs : List Nat} {i : Nat} (h : i ∉ vs) : (wipeE ρ vs)[i]? = ρ[i]? := by
  induction vs with
  | nil => rfl
  | cons v vs ih =>
    unfold wipeE
    rw [List.getElem?_set_ne (fun z => h (by simp [z]))]
    exact ih fun z => h (List.mem_cons_of_mem _ z)
theorem wipeE_on {vs : List Nat} {i : Nat} {x : Option (Stt × PyData)} (h : i ∈ vs) (e : (wipeE ρ vs)[i]? = some x) : x = none := by
  induction vs with
  | nil => simp at h
  | cons v vs ih =>
    unfold wipeE at e
    rcases mem_set_slot e with ⟨_, e1⟩ | ⟨hne, e1⟩
    · exact e1
    · rcases List.mem_cons.mp h with z | z
      · exact absurd z hne
      · exact ih z e1
theorem restE_len (ρ0 ρ : Rho) : ∀ vs, (restE ρ0 ρ vs).length = ρ.length
  | [] => rfl
  | v :: vs => by
    unfold restE
    split
    · rw [List.length_set, restE_len ρ0 ρ vs]
    · exact restE_len ρ0 ρ vs
theorem restE_off {vs : List Nat} {i : Nat} (h : i ∉ vs) : (restE ρ0 ρ vs)[i]? = ρ[i]? := by
  induction vs with
  | nil => rfl
  | cons v vs ih =>
    unfold restE
    have ih' := ih fun z => h (List.mem_cons_of_mem _ z)
    split
    · rw [List.getElem?_set_ne (fun z => h (by simp [z]))]
      exact ih'
    · exact ih'
theorem restE_on {vs : List Nat} {i : Nat} (hl : ρ.length = ρ0.length) (h : i ∈ vs) : (restE ρ0 ρ vs)[i]? = ρ0[i]? := by
  induction vs with
  | nil => simp at h
  | cons v vs ih =>
    unfold restE
    by_cases hv : i = v
    · subst hv
      cases e : ρ0[i]? with
      | some x =>
        dsimp only
        rw [List.getElem?_set_self]
        rw [restE_len, hl]
        exact (List.getElem?_eq_some_iff.mp e).1
      | none =>
        dsimp only
        rw [List.getElem?_eq_none_iff, restE_len, hl]
        exact List.getElem?_eq_none_iff.mp e
    · have hm : i ∈ vs := (List.mem_cons.mp h).resolve_left hv
      split
      · rw [List.getElem?_set_ne (Ne.symm hv)]
        exact ih hm
      · exact ih hm
end

/-! ### the frame's state without some slots, and back -/
section
variable {K : PySem.W.Frag} {S S' S2 S4 : Addr → Prop} {ρ ρ' ρc ρ2 ρ4 : Rho} {σ σ2 σw : L2.St} {H H' H2 H4 : Hp} {vs : List Nat} {a : Addr}
theorem wipe_off (σ : L2.St) {vs : List Nat} {i : Nat} (h : i ∉ vs) : (wipe σ vs)[i]? = σ[i]? := by
  induction vs with
  | nil => rfl
  | cons v vs ih =>
    unfold wipe
    rw [List.getElem?_set_ne (fun z => h (by simp [z]))]
    exact ih fun z => h (List.mem_cons_of_mem _ z)
theorem Gd.wiped (g : Gd K S ρ σ H) : Gd K S (wipeE ρ vs) (wipe σ vs) H := by
  have off : ∀ {i : Nat} {p : Stt × PyData}, (wipeE ρ vs)[i]? = some (some p) → i ∉ vs ∧ ρ[i]? = some (some p) := fun {i p} h => by
    by_cases hi : i ∈ vs
    · exact absurd (wipeE_on hi h) (by simp)
    · exact ⟨hi, by rw [← wipeE_off hi]; exact h⟩
  refine ⟨by rw [wipeE_len, wipe_length]; exact g.len, fun i st d h => ?_, fun i j b st d st' d' h1 h2 h3 h4 h5 h6 => ?_, g.al⟩
  · obtain ⟨hi, h⟩ := off h
    rw [wipe_off σ hi]
    exact g.sl i st d h
  · obtain ⟨hi, h1⟩ := off h1
    obtain ⟨hj, h2⟩ := off h2
    rw [wipe_off σ hi] at h5
    rw [wipe_off σ hj] at h6
    exact g.ne i j b st d st' d' h1 h2 h3 h4 h5 h6
theorem Mu.wiped (h : Mu (wipeE ρ vs) (wipe σ vs) a) : Mu ρ σ a := by
  obtain ⟨i, st, d, h1, h2, h3⟩ := h
  by_cases hi : i ∈ vs
  · exact absurd (wipeE_on hi h1) (by simp)
  · rw [wipeE_off hi] at h1
    rw [wipe_off σ hi] at h3
    exact ⟨i, st, d, h1, h2, h3⟩
/-- a turn of a block: from ρc (wiped) by a store at vs to ρ2, on to ρ4, wiped again -/
theorem turn_back (hc : ∀ (i : Nat) (x : Option (Stt × PyData)), i ∈ vs → ρc[i]? = some x → x = none) (o : Sto vs ρc σw ρ2 σ2) (hw : σw.length = ρc.length) (g4 : Gd K S4 ρ4 σ2 H4) (f : Fm S2 ρ2 σ2 H2 S4 ρ4 H4) (gc : Gd K S2 ρc σw H2) (hl : ρ2.length = ρc.length) (hwipe : wipe σ2 vs = σw) :
    Gd K S4 (wipeE ρ4 vs) σw H4 ∧ Fm S2 ρc σw H2 S4 (wipeE ρ4 vs) H4 := by
  have muIff : ∀ b, Mu ρ2 σ2 b → Mu ρc σw b := by
    rintro b ⟨i, st, d, h1, h2, h3⟩
    by_cases hi : i ∈ vs
    · rcases o.on i st d hi h1 with z | z
      · subst z; cases h2
      · have := hc i _ hi z; cases this
    · refine ⟨i, st, d, by rw [← (o.off i hi).1]; exact h1, h2, by rw [← (o.off i hi).2]; exact h3⟩
  refine ⟨?_, ⟨f.dom, fun b ob e nm => f.keep b ob e fun z => nm (muIff b z), f.sh, fun b h => ?_, by rw [wipeE_len, f.len, hl], fun i h => ?_, fun i st d h => ?_⟩⟩
  · have := g4.wiped (vs := vs)
    rw [hwipe] at this
    exact this
  · rcases f.new b h with z | z | z
    · exact .inl z
    · exact .inr (.inl (muIff b z))
    · exact .inr (.inr z)
  · by_cases hi : i ∈ vs
    · have hlt : i < (wipeE ρ4 vs).length := by
        rw [wipeE_len, f.len, hl]
        exact (List.getElem?_eq_some_iff.mp h).1
      rw [List.getElem?_eq_getElem hlt]
      rw [wipeE_on hi (List.getElem?_eq_getElem hlt)]
    · rw [wipeE_off hi]
      refine f.non i ?_
      rw [(o.off i hi).1]
      exact h
  · by_cases hi : i ∈ vs
    · have := hc i _ hi h; cases this
    · obtain ⟨st', d', h1, h2, h3⟩ := f.sts i st d (by rw [(o.off i hi).1]; exact h)
      exact ⟨st', d', by rw [wipeE_off hi]; exact h1, h2, h3⟩
/-- behind the block: the slots as they were -/
theorem block_back (g : Gd K S ρ σ H) (gw : Gd K S' ρ' (wipe σ vs) H') (f : Fm S (wipeE ρ vs) (wipe σ vs) H S' ρ' H') : Gd K S' (restE ρ ρ' vs) σ H' ∧ Fm S ρ σ H S' (restE ρ ρ' vs) H' := by
  have hl : ρ'.length = ρ.length := by rw [f.len, wipeE_len]
  have u : Uph S H S' H' := ⟨f.sh, fun b o hs e => f.keep b o e fun m => g.notMu hs m.wiped⟩
  have stay : ∀ (i : Nat) (st : Stt) (d : PyData) (b : Addr), i ∈ vs → ρ[i]? = some (some (st, d)) → st.hold = true → σ[i]? = some (some (V.ref b)) → ¬ S b → ¬ Mu (wipeE ρ vs) (wipe σ vs) b ∧ ¬ S' b := fun i st d b hi h1 hh h2 ns => by
    have nm : ¬ Mu (wipeE ρ vs) (wipe σ vs) b := by
      rintro ⟨j, st', d', z1, z2, z3⟩
      by_cases hj : j ∈ vs
      · exact absurd (wipeE_on hj z1) (by simp)
      · rw [wipeE_off hj] at z1
        rw [wipe_off σ hj] at z3
        have hold : st'.hold = true := by cases st' <;> first | rfl | cases z2
        have := g.ne i j b st d st' d' h1 z1 hh hold h2 z3
        exact hj (this ▸ hi)
    refine ⟨nm, fun s' => ?_⟩
    rcases f.new b s' with z | z | z
    · exact ns z
    · exact nm z
    · exact g.held h1 hh h2 z
  refine ⟨⟨by rw [restE_len, hl]; exact g.len, fun i st d h => ?_, fun i j b st d st' d' h1 h2 h3 h4 h5 h6 => ?_, gw.al⟩, ⟨f.dom, fun b o e nm => f.keep b o e fun z => nm z.wiped, f.sh, fun b h => ?_, by rw [restE_len, hl], fun i h => ?_, fun i st d h => ?_⟩⟩
  · by_cases hi : i ∈ vs
    · rw [restE_on hl hi] at h
      obtain ⟨v, h1, h2⟩ := g.sl i st d h
      refine ⟨v, h1, ?_⟩
      cases st with
      | shr => exact Rp.up u h2
      | own => obtain ⟨b, rfl, ns, t⟩ := h2; obtain ⟨nm, ns'⟩ := stay i _ d b hi h rfl h1 ns; exact ⟨b, rfl, ns', TopX.up u (fun o e => f.keep b o e nm) t⟩
      | lent => obtain ⟨b, rfl, ns, t⟩ := h2; obtain ⟨nm, ns'⟩ := stay i _ d b hi h rfl h1 ns; exact ⟨b, rfl, ns', TopX.up u (fun o e => f.keep b o e nm) t⟩
      | bor => obtain ⟨b, rfl, ns, t⟩ := h2; obtain ⟨nm, ns'⟩ := stay i _ d b hi h rfl h1 ns; exact ⟨b, rfl, ns', TopR.up u (fun o e => f.keep b o e nm) t⟩
      | scr =>
        obtain ⟨b, ns, rfl, e1, k⟩ := h2
        refine ⟨b, ns, rfl, e1, KLst.keep (fun o e => f.keep b _ e ?_) k⟩
        intro m
        obtain ⟨j, st', d', z1, z2, z3⟩ := m.wiped
        obtain ⟨w, y1, y2⟩ := g.sl j st' d' z1
        rw [z3] at y1; cases y1
        cases st' with
        | own => 
          obtain ⟨c, ec, _, t⟩ := y2; cases ec
          cases d' with
          | list ds => obtain ⟨vs, q, _⟩ := t; rw [q] at e; cases e
          | dict kvs => obtain ⟨ts, q, _⟩ := t; rw [q] at e; cases e
          | _ => exact t.elim
        | lent => 
          obtain ⟨c, ec, _, t⟩ := y2; cases ec
          cases d' with
          | list ds => obtain ⟨vs, q, _⟩ := t; rw [q] at e; cases e
          | dict kvs => obtain ⟨ts, q, _⟩ := t; rw [q] at e; cases e
          | _ => exact t.elim
        | _ => cases z2
    · rw [restE_off hi] at h
      obtain ⟨v, h1, h2⟩ := gw.sl i st d h
      rw [wipe_off σ hi] at h1
      exact ⟨v, h1, h2⟩
  · -- two held slots
    have inn : ∀ {k : Nat} {s1 : Stt} {e1 : PyData}, (restE ρ ρ' vs)[k]? = some (some (s1, e1)) → s1.hold = true → ∃ e2, ρ[k]? = some (some (s1, e2)) := fun {k s1 e1} h hh => by
      by_cases hk : k ∈ vs
      · rw [restE_on hl hk] at h; exact ⟨e1, h⟩
      · rw [restE_off hk] at h
        obtain ⟨e2, h2⟩ := f.held h hh
        rw [wipeE_off hk] at h2
        exact ⟨e2, h2⟩
    obtain ⟨e1, y1⟩ := inn h1 h3
    obtain ⟨e2, y2⟩ := inn h2 h4
    exact g.ne i j b st e1 st' e2 y1 y2 h3 h4 h5 h6
  · rcases f.new b h with z | z | z
    · exact .inl z
    · exact .inr (.inl z.wiped)
    · exact .inr (.inr z)
  · by_cases hi : i ∈ vs
    · rw [restE_on hl hi]; exact h
    · rw [restE_off hi]
      exact f.non i (by rw [wipeE_off hi]; exact h)
  · by_cases hi : i ∈ vs
    · exact ⟨st, d, by rw [restE_on hl hi]; exact h, .inl rfl, fun _ => rfl⟩
    · obtain ⟨st', d', h1, h2, h3⟩ := f.sts i st d (by rw [wipeE_off hi]; exact h)
      exact ⟨st', d', by rw [restE_off hi]; exact h1, h2, h3⟩
theorem wipe_sto (o : Sto vs (wipeE ρ vs) (wipe σ vs) ρ2 σ2) : wipe σ2 vs = wipe σ vs := by
  apply List.ext_getElem?
  intro i
  have hl : σ2.length = σ.length := by rw [o.len, wipe_length]
  by_cases hi : i ∈ vs
  · have non : ∀ τ : L2.St, ∀ x, (wipe τ vs)[i]? = some x → x = none := by
      intro τ x h
      cases x with
      | none => rfl
      | some v => exact absurd hi (wipe_some h).2
    cases h1 : (wipe σ2 vs)[i]? with
    | none =>
      rw [List.getElem?_eq_none_iff, wipe_length, hl] at h1
      exact (List.getElem?_eq_none_iff.mpr (by rw [wipe_length]; exact h1)).symm
    | some x =>
      have hx := non _ _ h1
      have hlt := (List.getElem?_eq_some_iff.mp h1).1
      rw [wipe_length, hl] at hlt
      have hlt2 : i < (wipe σ vs).length := by rw [wipe_length]; exact hlt
      rw [List.getElem?_eq_getElem hlt2, hx, non σ _ (List.getElem?_eq_getElem hlt2)]
  · rw [wipe_off σ2 hi, (o.off i hi).2]
end

/-! ### [elt for target in iter if ..] -/
def lcM (vs : List Nat) (g : G1) (t : Mo Bool) (fe : Mo Rs) : List PyData → List PyData → Mo (List PyData)
  | [], acc => retM acc
  | d :: ds, acc => fun ρ => match g.run d ρ with
    | none => none
    | some (_, ρ1) => match t ρ1 with
      | none => none
      | some (false, ρ2) => lcM vs g t fe ds acc (wipeE ρ2 vs)
      | some (true, ρ2) => match bindM fe keepR ρ2 with
        | none => none
        | some (y, ρ3) => if acc.length < LIM then lcM vs g t fe ds (acc ++ [y]) (wipeE ρ3 vs) else none
def xLc (vs : List Nat) (fi : Mo (List PyData)) (g : G1) (t : Mo Bool) (fe : Mo Rs) : Mo Rs := fun ρ => match fi ρ with
  | none => none
  | some (ds, ρ1) => match lcM vs g t fe ds [] (wipeE ρ1 vs) with
    | none => none
    | some (acc, ρ2) => some (.fresh (.list acc), restE ρ1 ρ2 vs)
def tYesM : Mo Bool := retM true
/-- an iterator that walks ds goes on doing so behind growth that leaves T alone -/
theorem lc_ok {K : PySem.W.Frag} {vs : List Nat} {fi : Mo (List PyData)} {g : G1} {t : Mo Bool} {fe : Mo Rs} {σ : L2.St} {H : Hp} {Q : VK} (hv : g.vs = vs) (h : tD K (xLc vs fi g t fe) σ H Q) : tLc (tI K fi) (tG K g) (tT K t) (tD K fe) vs σ H Q := by
  obtain ⟨S, ρ, r, ρ', G, e, q⟩ := h
  unfold xLc at e
  cases ei : fi ρ with
  | none => rw [ei] at e; cases e
  | some p =>
    obtain ⟨ds, ρ1⟩ := p
    rw [ei] at e
    dsimp only at e
    cases el : lcM vs g t fe ds [] (wipeE ρ1 vs) with
    | none => rw [el] at e; cases e
    | some p =>
      obtain ⟨accE, ρ2⟩ := p
      rw [el] at e
      cases e
      refine ⟨S, ρ, ds, ρ1, G, ei, fun J S1 H1 T F1 G1 hT W D hD => ?_⟩
      have E0 : Gw S1 H1 S1 (upd H1 D (.lst [])) := Gw.lay G1.al hD
      have nSD : ¬ S1 D := fun z => G1.al D z hD
      have Gw0 : Gd K S1 (wipeE ρ1 vs) (wipe σ vs) (upd H1 D (.lst [])) := (G1.wiped (vs := vs)).ext E0
      -- the state of a turn
      refine ⟨fun i m H2 => ∃ S2 ρc acc, Gd K S2 ρc (wipe σ vs) H2 ∧ (∀ (j : Nat) (x : Option (Stt × PyData)), j ∈ vs → ρc[j]? = some x → x = none) ∧ Fm S1 (wipeE ρ1 vs) (wipe σ vs) H1 S2 ρc H2 ∧ ¬ S2 D ∧ (∃ ws, H2 D = some (.lst ws) ∧ RpL K S2 H2 ws acc) ∧ i ≤ ds.length ∧ m = ds.length - i ∧
        lcM vs g t fe (ds.drop i) acc ρc = some (accE, ρ2), ⟨ds.length, S1, wipeE ρ1 vs, [], Gw0, fun j x hj hx => wipeE_on hj hx, E0.fr, nSD, ⟨[], upd_same, .nil⟩, Nat.zero_le _, rfl, el⟩, ?_⟩
      rintro i m H2 ⟨S2, ρc, acc, G2, hc, F2, nD2, ⟨ws, hws, rws⟩, hi, rfl, e3⟩
      have u : Uph S1 H1 S2 H2 := ⟨F2.sh, fun a o hs ha => F2.keep a o ha fun z => (G1.wiped (vs := vs)).notMu hs z⟩
      have tt : ∀ a o, T a → H1 a = some o → H2 a = some o := fun a o ha h => F2.keep a o h fun z => (hT a ha).2 z.wiped
      obtain ⟨w1, w2⟩ := W S2 H2 i u tt G2.al
      have nMD : ¬ Mu ρc (wipe σ vs) D := fun z => Mu.there (G1.wiped (vs := vs)) (F2.mu z) hD
      by_cases hlt : i < ds.length
      · obtain ⟨go, yl⟩ := w1 hlt
        refine .inr ⟨go, fun H' => ∃ S' ρ2' acc', Gd K S' ρ2' (wipe σ vs) H' ∧ (∀ (j : Nat) (x : Option (Stt × PyData)), j ∈ vs → ρ2'[j]? = some x → x = none) ∧ Fm S1 (wipeE ρ1 vs) (wipe σ vs) H1 S' ρ2' H' ∧ ¬ S' D ∧ (∃ ws, H' D = some (.lst ws) ∧ RpL K S' H' ws acc') ∧
          lcM vs g t fe (ds.drop (i + 1)) acc' ρ2' = some (accE, ρ2), fun H' ⟨S', ρ2', acc', a1, a2, a3, a4, a5, a6⟩ => ⟨ds.length - (i + 1), by omega, S', ρ2', acc', a1, a2, a3, a4, a5, hlt, rfl, a6⟩, fun x H3 y => ?_⟩
        obtain ⟨S3, d, E3, hd, rp⟩ := yl x H3 y
        have hdrop : ds.drop i = d :: ds.drop (i + 1) := by
          rw [List.drop_eq_getElem_cons hlt]
          rw [List.getElem?_eq_getElem hlt] at hd
          cases hd
          rfl
        rw [hdrop] at e3
        unfold lcM at e3
        cases eg : g.run d ρc with
        | none => rw [eg] at e3; cases e3
        | some p =>
          obtain ⟨_, ρ3⟩ := p
          rw [eg] at e3
          dsimp only at e3
          have G3 := G2.ext E3
          have nD3 : ¬ S3 D := fun z => (E3.new D z).elim nD2 (by rw [hws]; simp)
          have hws3 : H3 D = some (.lst ws) := E3.keep D _ hws
          have rws3 := RpL.up E3.up rws
          refine ⟨S3, ρc, d, ρ3, G3, rp, eg, fun σ4 G4 F4 O4 => ?_⟩
          rw [hv] at O4
          have hwp : wipe σ4 vs = wipe σ vs := by
            have O4' : Sto vs (wipeE ρc vs) (wipe (wipe σ vs) vs) ρ3 σ4 := by
              have e1 : wipeE ρc vs = ρc := by
                apply List.ext_getElem?
                intro j
                by_cases hj : j ∈ vs
                · cases h1 : ρc[j]? with
                  | none => rw [List.getElem?_eq_none_iff] at h1 ⊢; rw [wipeE_len]; exact h1
                  | some x =>
                    have hx := hc j x hj h1
                    have hlt := (List.getElem?_eq_some_iff.mp h1).1
                    have hlt2 : j < (wipeE ρc vs).length := by rw [wipeE_len]; exact hlt
                    rw [List.getElem?_eq_getElem hlt2, wipeE_on hj (List.getElem?_eq_getElem hlt2), hx]
                · exact wipeE_off hj
              have e2 : wipe (wipe σ vs) vs = wipe σ vs := by
                have := wipe_sto (ρ := ρc) (σ := σ) (vs := vs) (ρ2 := wipeE ρc vs) (σ2 := wipe σ vs) Sto.refl
                exact this
              rw [e1, e2]; exact O4
            have := wipe_sto O4'
            have e2 : wipe (wipe σ vs) vs = wipe σ vs := wipe_sto (ρ := ρc) (σ := σ) (vs := vs) (ρ2 := wipeE ρc vs) (σ2 := wipe σ vs) Sto.refl
            rw [this, e2]
          refine ⟨hwp, ?_⟩
          have hl3 : ρ3.length = ρc.length := F4.len
          cases et : t ρ3 with
          | none => rw [et] at e3; cases e3
          | some p =>
            obtain ⟨b, ρ4⟩ := p
            rw [et] at e3
            refine ⟨S3, ρ3, b, ρ4, G4, et, fun S5 H5 F5 G5 => ?_⟩
            have nMD3 : ¬ Mu ρ3 σ4 D := fun z => (F4.mu z).elim nMD (by rw [hws3]; simp)
            have keepD : ∀ {Sx : Addr → Prop} {ρx : Rho} {Hx : Hp}, Fm S3 ρ3 σ4 H3 Sx ρx Hx → Hx D = some (.lst ws) ∧ ¬ Sx D := fun {Sx ρx Hx} f => ⟨f.keep D _ hws3 nMD3, fun z => (f.new D z).elim nD3 fun z => z.elim nMD3 (by rw [hws3]; simp)⟩
            have done : ∀ {Sx : Addr → Prop} {ρx : Rho} {Hx : Hp}, Fm S3 ρ3 σ4 H3 Sx ρx Hx → Gd K Sx ρx σ4 Hx → Gd K Sx (wipeE ρx vs) (wipe σ vs) Hx ∧ Fm S1 (wipeE ρ1 vs) (wipe σ vs) H1 Sx (wipeE ρx vs) Hx := fun {Sx ρx Hx} f gx => by
              obtain ⟨b1, b2⟩ := turn_back hc O4 (by rw [wipe_length]; exact (by have := G2.len; rw [wipe_length] at this; exact this.symm)) gx f G3 hl3 hwp
              exact ⟨b1, F2.trans (E3.fr.trans b2)⟩
            cases b with
            | false =>
              dsimp only at e3
              obtain ⟨b1, b2⟩ := done F5 G5
              obtain ⟨k1, k2⟩ := keepD F5
              exact iteF ⟨S5, wipeE ρ4 vs, acc, b1, fun j x hj hx => wipeE_on hj hx, b2, k2, ⟨ws, k1, RpL.up (F5.up G4) rws3⟩, e3⟩
            | true =>
              dsimp only at e3
              refine iteT ?_
              cases ee : bindM fe keepR ρ4 with
              | none => rw [ee] at e3; cases e3
              | some p =>
                obtain ⟨yd, ρ6⟩ := p
                rw [ee] at e3
                dsimp only at e3
                obtain ⟨r6, ρ5, e6, e7⟩ := bindM_some ee
                split at e3
                · rename_i hlim
                  refine ⟨S5, ρ4, r6, ρ5, G5, e6, fun v S6 H6 F6 G6 R6 => ?_⟩
                  have n6 : Now K σ4 S3 ρ3 H3 S6 ρ5 H6 := (⟨G4, F5, G5⟩ : Now K σ4 S3 ρ3 H3 S5 ρ4 H5).step F6 G6
                  have R6' : RR K H3 S6 H6 ρ5 σ4 v r6 := R6.pre ⟨G4, F5, G5⟩
                  obtain ⟨S7, n7, p7, sh7⟩ := R6'.w.keep n6 e7
                  obtain ⟨k1, k2⟩ := keepD n7.f
                  obtain ⟨b1, b2⟩ := done n7.f n7.g
                  have rws7 := RpL.up (n7.f.up G4) rws3
                  have al7 := n7.g.al
                  have u7 : Uph S7 H6 S7 (upd H6 D (.lst (ws ++ [v]))) := ⟨fun _ h => h, fun b o hb hh => by rw [upd_ne (show b ≠ D from fun z => k2 (z ▸ hb))]; exact hh⟩
                  have nMw : ¬ Mu (wipeE ρ6 vs) (wipe σ vs) D := fun z => Mu.there (G1.wiped (vs := vs)) (b2.mu z) hD
                  refine ⟨ws, k1, by rw [rws7.len]; exact lim_lt hlim, S7, wipeE ρ6 vs, acc ++ [yd], ?_, fun j x hj hx => wipeE_on hj hx, ⟨fun b hb => ?_, fun b o hb nm => ?_, b2.sh, b2.new, b2.len, b2.non, b2.sts⟩, k2, ⟨ws ++ [v], upd_same, (RpL.up u7 rws7).app (.cons (Rp.up u7 p7) .nil)⟩, e3⟩
                  · -- the new list has one more item: no slot holds it
                    refine ⟨b1.len, fun j st d' hj => ?_, b1.ne, fun b hb => ?_⟩
                    · obtain ⟨w', z1, z2⟩ := b1.sl j st d' hj
                      refine ⟨w', z1, ?_⟩
                      have other : ∀ b, w' = .ref b → st.hold = true → b ≠ D := fun b eb hh zz => by
                        subst eb
                        obtain ⟨d2, hj2⟩ := b2.held hj hh
                        have := (G1.wiped (vs := vs)).held hj2 hh z1
                        rw [zz] at this
                        exact this hD
                      cases st with
                      | shr => exact Rp.up u7 z2
                      | own => obtain ⟨b, rfl, ns, tx⟩ := z2; exact ⟨b, rfl, ns, TopX.up u7 (fun o hh => by rw [upd_ne (other b rfl rfl)]; exact hh) tx⟩
                      | lent => obtain ⟨b, rfl, ns, tx⟩ := z2; exact ⟨b, rfl, ns, TopX.up u7 (fun o hh => by rw [upd_ne (other b rfl rfl)]; exact hh) tx⟩
                      | bor => obtain ⟨b, rfl, ns, tx⟩ := z2; exact ⟨b, rfl, ns, TopR.up u7 (fun o hh => by rw [upd_ne (other b rfl rfl)]; exact hh) tx⟩
                      | scr =>
                        obtain ⟨b, ns1, rfl, e1, k⟩ := z2
                        refine ⟨b, ns1, rfl, e1, KLst.keep (fun o hh => ?_) k⟩
                        rw [upd_ne (ne_of hh k1 (by intro z; cases z))]
                        exact hh
                    · by_cases z : b = D
                      · exact absurd (z ▸ hb) k2
                      · rw [upd_ne z]; exact b1.al b hb
                  · by_cases z : b = D
                    · rw [z, upd_same]; simp
                    · rw [upd_ne z]; exact b2.dom b hb
                  · rw [upd_ne (ne_of_none hb hD)]
                    exact b2.keep b o hb nm
                · cases e3
      · have hie : ds.drop i = [] := List.drop_eq_nil_of_le (by omega)
        rw [hie] at e3
        cases retM_some e3
        refine .inl ⟨w2 (by omega), ?_⟩
        obtain ⟨c1, c2⟩ := block_back G1 G2 F2
        have n1 : Now K σ S ρ H S1 ρ1 H1 := ⟨G, F1, G1⟩
        exact q (.ref D) S2 H2 (F1.trans c2) c1 ⟨D, rfl, n1.none0 hD, nD2, ws, hws, rws⟩
abbrev TsD (X : Cx) (ifs : List Expr) (f : Mo Bool) : Prop := PTs X ifs (tT X.K f)
theorem PTs.to {X : Cx} {e : List Expr} {t t' : TT} (h : PTs X e t) (i : ∀ σ H Q, t' σ H Q → t σ H Q) : PTs X e t' := ⟨fun pins s σ H Q I q => h.run pins s σ H Q I (i σ H Q q)⟩
section
variable {X : Cx} {elt tg iter : Expr} {ifs : List Expr} {scope : Scope} {pos : Pos} {fi : Mo (List PyData)} {g : G1} {t : Mo Bool} {fe : Mo Rs}
theorem tsd_nil : TsD X [] tYesM := PTs.to pts_nil fun σ H Q h => by
  obtain ⟨S, ρ, b, ρ', G, e, q⟩ := h
  cases retM_some e
  exact q S H Fm.refl G
theorem tsd_one {c : Expr} (h : TD X c t) : TsD X [c] t := pts_one h
theorem pd_lc (own : List (Str × Nat)) (hc : X.calm = true) (hN : X.N.Nodup) (hi : ID X tg iter fi) (ok : BlkOk X.N X.env.scope scope own) (hv : g.vs = own.map (·.2))
    (hg : ∀ (s : Shared) (H : Hp) (C : Addr) (cl : List (Str × Addr)) (fp : List Addr), GD (X.blk s H scope (compEnvC scope cl C X.env) fp) tg g) (ht : ∀ (s : Shared) (H : Hp) (C : Addr) (cl : List (Str × Addr)) (fp : List Addr), TsD (X.blk s H scope (compEnvC scope cl C X.env) fp) ifs t)
    (he : ∀ (s : Shared) (H : Hp) (C : Addr) (cl : List (Str × Addr)) (fp : List Addr), PD (X.blk s H scope (compEnvC scope cl C X.env) fp) elt fe) (hs : ∀ x, foldedSetIterable iter X.env x = pure x := by intro _; rfl) :
    PD X (.ListComp elt [⟨tg, iter, ifs, 0⟩] scope pos) (xLc (own.map (·.2)) fi g t fe) := PE.to (pe_lc hc hN hi ok hg ht he hs) fun σ H Q h => lc_ok hv h
/-- name = [..] on one line -/
theorem sd_setLc (i : Nat) {y : Str} {py spos : Pos} (own : List (Str × Nat)) (hc : X.calm = true) (hN : X.N.Nodup) (hi : ID X tg iter fi) (ok : BlkOk X.N X.env.scope scope own) (hv : g.vs = own.map (·.2))
    (hg : ∀ (s : Shared) (H : Hp) (C : Addr) (cl : List (Str × Addr)) (fp : List Addr), GD (X.blk s H scope (compEnvC scope cl C X.env) fp) tg g) (ht : ∀ (s : Shared) (H : Hp) (C : Addr) (cl : List (Str × Addr)) (fp : List Addr), TsD (X.blk s H scope (compEnvC scope cl C X.env) fp) ifs t)
    (he : ∀ (s : Shared) (H : Hp) (C : Addr) (cl : List (Str × Addr)) (fp : List Addr), PD (X.blk s H scope (compEnvC scope cl C X.env) fp) elt fe) (hsw : swapsWith (.ListComp elt [⟨tg, iter, ifs, 0⟩] scope pos) (some (.Name y py)) spos.line X.env = pure true)
    (hy : X.N[i]? = some y := by rfl) (hyl : X.env.scope.names.lookup y = some .local := by rfl) (hs : ∀ x, foldedSetIterable iter X.env x = pure x := by intro _; rfl) :
    SD X (.Assign [.Name y py] (.ListComp elt [⟨tg, iter, ifs, 0⟩] scope pos) spos) (sSet i (xLc (own.map (·.2)) fi g t fe)) := PS.to (ps_setLc hc hN hy hyl hsw hi ok hg ht he hs) fun D σ H h => by
  refine lc_ok (t := t) (fe := fe) hv ?_
  obtain ⟨S, ρ, r, ρ', G, e, q⟩ := h
  obtain ⟨r1, ρ1, e1, e2⟩ := bindM_some e
  obtain ⟨u, ρ2, e3, e4⟩ := bindM_some e2
  cases retM_some e4
  refine ⟨S, ρ, r1, ρ1, G, e1, fun v S1 H1 F1 G1 R1 => ?_⟩
  obtain ⟨S2, G2, F2⟩ := R1.store ⟨G, F1, G1⟩ e3
  exact q _ S2 H1 F2 G2
end
end PyI

/-! PyI, part F: defs and their calls. -/
namespace PyI
open PySem PySem.Spec L2

/-- a def, as a function of its arguments: what it gives; what its first argument is behind it, where that is lent -/
abbrev Fn := List (Stt × PyData) → Option (Rs × Option PyData)
/-- what is given back -/
def retOf (ρ : Rho) : Fl → Option Rs
  | .nx => some (.kept .none)
  | .ret (.kept d) => some (.kept d)
  | .ret (.fresh d) => some (.fresh d)
  | .ret (.slot i) => match ρ[i]? with
    | some (some (.shr, d)) => some (.kept d)
    | some (some (.own, d)) => some (.fresh d)
    | _ => none
  | _ => none
def lentOf (ρ : Rho) : List (Stt × PyData) → Option (Option PyData)
  | (.lent, _) :: _ => match ρ[(0 : Nat)]? with
    | some (some (Stt.lent, d)) => some (some d)
    | _ => none
  | _ => some none
/-- the first argument alone may be lent, none is owned -/
def argsFit (np : Nat) (args : List (Stt × PyData)) : Bool := args.length == np && args.all (fun p => match p.1 with | .own => false | _ => true) && (args.drop 1).all (fun p => match p.1 with | .lent => false | _ => true)
def runF (np n : Nat) (body : Mo Fl) : Fn := fun args =>
  if argsFit np args = true then
    match body (args.map some ++ List.replicate (n - args.length) none) with
    | some (fl, ρ') => match retOf ρ' fl with
      | some r => match lentOf ρ' args with
        | some l => some (r, l)
        | none => none
      | none => none
    | none => none
  else none
/-- the frame of a call -/
structure Fc (S : Addr → Prop) (ρ : Rho) (σ : L2.St) (H : Hp) (S' : Addr → Prop) (H' : Hp) : Prop where
  dom : ∀ a, H a ≠ none → H' a ≠ none
  keep : ∀ a o, H a = some o → ¬ Mu ρ σ a → H' a = some o
  sh : ∀ a, S a → S' a
  new : ∀ a, S' a → S a ∨ Mu ρ σ a ∨ H a = none
  al : ∀ a, S' a → H' a ≠ none
def spI (K : PySem.W.Frag) (fn : Fn) : Sp := fun vs H Q _ => ∃ S args r l, Gd K S (args.map some) (vs.map some) H ∧ fn args = some (r, l) ∧
  ∀ v S' H', Fc S (args.map some) (vs.map some) H S' H' → RR K H S' H' [] [] v r → (∀ d', l = some d' → ∃ a, vs[0]? = some (.ref a) ∧ ¬ S' a ∧ TopX K S' H' a d') → Q v H'
theorem runF_fit {np n : Nat} {body : Mo Fl} {args : List (Stt × PyData)} {x : Rs × Option PyData} (e : runF np n body args = some x) : argsFit np args = true := by
  unfold runF at e
  split at e
  · assumption
  · cases e
theorem argsFit_len {np : Nat} {args : List (Stt × PyData)} (h : argsFit np args = true) : args.length = np := by
  unfold argsFit at h
  simp only [Bool.and_eq_true, beq_iff_eq] at h
  exact h.1.1
theorem argsFit_own {np : Nat} {args : List (Stt × PyData)} (h : argsFit np args = true) {i : Nat} {d : PyData} : args[i]? ≠ some (.own, d) := by
  intro e
  unfold argsFit at h
  simp only [Bool.and_eq_true, List.all_eq_true] at h
  have := h.1.2 _ (List.mem_of_getElem? e)
  simp at this
theorem argsFit_lent {np : Nat} {args : List (Stt × PyData)} (h : argsFit np args = true) {i : Nat} {d : PyData} (e : args[i]? = some (.lent, d)) : i = 0 := by
  cases i with
  | zero => rfl
  | succ i =>
    unfold argsFit at h
    simp only [Bool.and_eq_true, List.all_eq_true] at h
    have e' : (args.drop 1)[i]? = some (.lent, d) := by rw [List.getElem?_drop, Nat.add_comm]; exact e
    have := h.2 _ (List.mem_of_getElem? e')
    simp at this
section
variable {K : PySem.W.Frag} {S : Addr → Prop} {H : Hp}
theorem get_map_some {α : Type} {l : List α} {i : Nat} {x : Option α} (h : (l.map some)[i]? = some x) : ∃ y, x = some y ∧ l[i]? = some y := by
  rw [List.getElem?_map] at h
  cases e : l[i]? with
  | none => rw [e] at h; cases h
  | some y => rw [e] at h; cases h; exact ⟨y, rfl, rfl⟩
theorem get_start {α : Type} {l : List α} {n i : Nat} {y : α} (h : (l.map some ++ List.replicate n none)[i]? = some (some y)) : (l.map some)[i]? = some (some y) := by
  by_cases hi : i < (l.map some).length
  · rw [List.getElem?_append_left hi] at h
    exact h
  · rw [List.getElem?_append_right (Nat.le_of_not_lt hi), List.getElem?_replicate] at h
    split at h <;> cases h
theorem start_get {α : Type} {l : List α} {n i : Nat} {y : α} (h : (l.map some)[i]? = some (some y)) : (l.map some ++ List.replicate n none)[i]? = some (some y) := by
  rw [List.getElem?_append_left (List.getElem?_eq_some_iff.mp h).1]
  exact h
theorem Gd.entry {args : List (Stt × PyData)} {vs : List V} (n : Nat) (g : Gd K S (args.map some) (vs.map some) H) : Gd K S (args.map some ++ List.replicate (n - args.length) none) (vs.map some ++ List.replicate (n - vs.length) none) H := by
  have hl : args.length = vs.length := by have := g.len; simpa using this
  refine ⟨by simp [hl], fun i st d h => ?_, fun i j a st d st' d' h1 h2 h3 h4 h5 h6 => ?_, g.al⟩
  · obtain ⟨v, h1, h2⟩ := g.sl i st d (get_start h)
    exact ⟨v, start_get h1, h2⟩
  · exact g.ne i j a st d st' d' (get_start h1) (get_start h2) h3 h4 (get_start h5) (get_start h6)
theorem Mu.entry {args : List (Stt × PyData)} {vs : List V} {n m : Nat} {a : Addr} (h : Mu (args.map some ++ List.replicate n none) (vs.map some ++ List.replicate m none) a) : Mu (args.map some) (vs.map some) a := by
  obtain ⟨i, st, d, h1, h2, h3⟩ := h
  exact ⟨i, st, d, get_start h1, h2, get_start h3⟩
end
section
variable {P : Program} {w : World} {K : PySem.W.Frag} {mg : Str → Option Value} {base : Heap}
/-- THE RULE for a def: its body, as a function of the evaluator -/
theorem fnI_ok {x qual : Str} {st : Stmt} {f : Addr} {fd : FuncData} {N ps : List Str} {k : Nat} {body : Mo Fl} (F : Fun K x qual st f fd) (S : FnScope N ps (defScope st))
    (hbody : ∀ (cdv : Value) (A : Around) (outer : List Env) (s : Shared) (H : Hp) (E : XK), Room k (A.deeper (PyProof.Rows.envOfC qual (defScope st) s.heap.objs.size f cdv)) → BD (cxOf CX0 P w K mg base N qual (defScope st) f cdv A outer s H E).nox (defBody st) body) :
    FnOk P w K mg base CX0 (k + 1) f fd ps (spI K (runF ps.length N.length body)) := by
  refine F.ok S (fun vs H Q E h => ?_) (fun cdv A outer s H vs Q E hr h => ?_)
  · obtain ⟨S, args, r, l, g, e, _⟩ := h
    have hf := runF_fit e
    have := g.len
    simp only [List.length_map] at this
    rw [← this, argsFit_len hf]
  · obtain ⟨S0, args, r, l, g, e, q⟩ := h
    have hf := runF_fit e
    have hl : args.length = vs.length := by have := g.len; simpa using this
    refine ⟨_, hbody cdv A outer s H E hr, ?_⟩
    unfold runF at e
    rw [if_pos hf] at e
    cases eb : body (args.map some ++ List.replicate (N.length - args.length) none) with
    | none => rw [eb] at e; cases e
    | some p =>
      obtain ⟨fl, ρ'⟩ := p
      rw [eb] at e
      dsimp only at e
      cases er : retOf ρ' fl with
      | none => rw [er] at e; cases e
      | some r' =>
        rw [er] at e
        dsimp only at e
        cases el : lentOf ρ' args with
        | none => rw [el] at e; cases e
        | some l' =>
          rw [el] at e
          cases e
          refine ⟨S0, _, fl, ρ', g.entry N.length, eb, fun σ' S' H' f' g' => ?_⟩
          have fc : Fc S0 (args.map some) (vs.map some) H S' H' := ⟨f'.dom, fun a o e nm => f'.keep a o e fun m => nm m.entry, f'.sh, fun a h => by
            rcases f'.new a h with z | z | z
            · exact .inl z
            · exact .inr (.inl z.entry)
            · exact .inr (.inr z), g'.al⟩
          have lt : ∀ d', l = some d' → ∃ a, vs[0]? = some (.ref a) ∧ ¬ S' a ∧ TopX K S' H' a d' := by
            intro d' hd
            subst hd
            cases args with
            | nil => cases el
            | cons p rest =>
              obtain ⟨st0, d0⟩ := p
              cases st0 with
              | lent =>
                unfold lentOf at el
                dsimp only at el
                split at el
                · rename_i d2 h2
                  cases el
                  obtain ⟨v, h3, a, h4, h5, h6⟩ := g'.sl 0 .lent d' h2
                  obtain ⟨_, _, h8⟩ := f'.lent 0 _ h2
                  subst h4
                  rw [h3] at h8
                  have h9 := get_start h8.symm
                  rw [List.getElem?_map] at h9
                  cases hv : vs[0]? with
                  | none => rw [hv] at h9; cases h9
                  | some v0 => rw [hv] at h9; cases h9; exact ⟨a, rfl, h5, h6⟩
                · cases el
              | _ => cases el
          cases fl with
          | nx => cases er; exact q .non S' H' fc .non lt
          | bk => cases er
          | ct => cases er
          | ret r0 =>
            intro v hr0
            cases r0 with
            | kept d => cases er; exact q v S' H' fc hr0 lt
            | fresh d => cases er; exact q v S' H' fc hr0 lt
            | slot i =>
              unfold retOf at er
              dsimp only at er
              obtain ⟨hv, _⟩ := hr0
              split at er
              · rename_i d hd
                cases er
                obtain ⟨v', h1, h2⟩ := g'.sl i .shr d hd
                rw [hv] at h1; cases h1
                exact q v S' H' fc h2 lt
              · rename_i d hd
                cases er
                obtain ⟨v', h1, a, h2, h3, h4⟩ := g'.sl i .own d hd
                rw [hv] at h1; cases h1
                subst h2
                refine q _ S' H' fc ⟨a, rfl, ?_, h3, h4⟩ lt
                rcases f'.own i d a hd hv with z | ⟨j, d', z1, z2⟩
                · exact z
                · obtain ⟨y, hy1, hy2⟩ := get_map_some (get_start z1)
                  cases hy1
                  exact absurd hy2 (argsFit_own hf)
              · cases er

/-! ### calls -/
/-- the def x of the module, as fn, by at most level k -/
def Cl (P : Program) (w : World) (K : PySem.W.Frag) (mg : Str → Option Value) (base : Heap) (k : Nat) (x : Str) (fn : Fn) : Prop :=
  ∃ f fd ps, FnOk P w K mg base CX0 k f fd ps (spI K fn) ∧ mg x = some (.ref f) ∧ PySem.W.keepIn K (.ref f) = true ∧ Binds K fd ps []
end
/-- how an argument is handed over (not lent) -/
def argV (r : Rs) (ρ : Rho) : Option (Stt × PyData) := match r with
  | .kept d => some (.shr, d)
  | .fresh d => some (.shr, d)
  | .slot i => match ρ[i]? with
    | some (some (.shr, d)) => some (.shr, d)
    | some (some (.own, d)) => some (.bor, d)
    | some (some (.lent, d)) => some (.bor, d)
    | some (some (.bor, d)) => some (.bor, d)
    | some (some (.scr, d)) => some (.scr, d)
    | _ => none
/-- .. lent -/
def argL (r : Rs) (ρ : Rho) : Option (Stt × PyData) := match r with
  | .slot i => match ρ[i]? with
    | some (some (.own, d)) => some (.lent, d)
    | some (some (.lent, d)) => some (.lent, d)
    | _ => none
  | _ => none
def argVs (ρ : Rho) (lend : Bool) : List Rs → Option (List (Stt × PyData))
  | [] => some []
  | r :: rs => match (if lend = true then argL r ρ else argV r ρ), argVs ρ false rs with
    | some a, some l => some (a :: l)
    | _, _ => none
/-- one list or dict in two places -/
def clash (ρ : Rho) : Rs → Rs → Bool
  | .slot i, .slot j => i == j && (match ρ[i]? with
    | some (some (st, _)) => st.hold
    | _ => false)
  | _, _ => false
def noClash (ρ : Rho) : List Rs → Bool
  | [] => true
  | r :: rs => rs.all (fun r' => !clash ρ r r') && noClash ρ rs
/-- f(..) -/
def xCall (fn : Fn) (g : Mo (List Rs)) : Mo Rs := bindM g fun rs => fun ρ => match argVs ρ false rs with
  | some args => if noClash ρ rs = true then
      match fn args with
      | some (r, _) => match r with
        | .slot _ => none
        | r => some (r, ρ)
      | none => none
    else none
  | none => none
/-- f(state, ..): the first argument is lent -/
def xCallL (fn : Fn) (g : Mo (List Rs)) : Mo Rs := bindM g fun rs => fun ρ => match argVs ρ true rs with
  | some args => if noClash ρ rs = true then
      match fn args with
      | some (r, some d') => match rs, r with
        | .slot i :: _, .kept d => match ρ[i]? with
          | some (some (st, _)) => some (.kept d, ρ.set i (some (st, d')))
          | _ => none
        | .slot i :: _, .fresh d => match ρ[i]? with
          | some (some (st, _)) => some (.fresh d, ρ.set i (some (st, d')))
          | _ => none
        | _, _ => none
      | _ => none
    else none
  | none => none

/-- what is handed over: v stands for the result r, and what was new is shared -/
def ArgR (K : PySem.W.Frag) (S : Addr → Prop) (H : Hp) (ρ : Rho) (σ : L2.St) (v : V) : Rs → Prop
  | .kept d => Rp K S H v d
  | .fresh d => Rp K S H v d
  | .slot i => σ[i]? = some (some v) ∧ ∃ p, ρ[i]? = some (some p)
section
variable {K : PySem.W.Frag} {S0 S S' S'' : Addr → Prop} {ρ0 ρ ρ' ρ'' : Rho} {σ : L2.St} {H0 H H' H'' : Hp} {a : Addr} {v : V} {r : Rs} {d d' : PyData}
inductive ArgRL (K : PySem.W.Frag) (S : Addr → Prop) (H : Hp) (ρ : Rho) (σ : L2.St) : List V → List Rs → Prop
  | nil : ArgRL K S H ρ σ [] []
  | cons {v : V} {vs : List V} {r : Rs} {rs : List Rs} : ArgR K S H ρ σ v r → ArgRL K S H ρ σ vs rs → ArgRL K S H ρ σ (v :: vs) (r :: rs)
theorem ArgR.up (sh : ∀ b, S b → S' b) (h : ArgR K S H ρ σ v r) : ArgR K S' H ρ σ v r := by
  have u : Uph S H S' H := ⟨sh, fun _ _ _ h => h⟩
  cases r with
  | kept d => exact Rp.up u h
  | fresh d => exact Rp.up u h
  | slot i => exact h
theorem RRLw.hand : ∀ (rs : List Rs) {S : Addr → Prop} {vs : List V}, Now K σ S0 ρ0 H0 S ρ H → RRLw K H0 S H ρ σ vs rs → ∃ S', Now K σ S0 ρ0 H0 S' ρ H ∧ ArgRL K S' H ρ σ vs rs ∧ (∀ b, S b → S' b)
  | [], S, vs, n, h => by
    cases h
    exact ⟨S, n, .nil, fun _ h => h⟩
  | r :: rs, S, vs, n, h => by
    cases h with
    | cons h t =>
      rename_i v vs
      have go : ∃ S1, Now K σ S0 ρ0 H0 S1 ρ H ∧ ArgR K S1 H ρ σ v r ∧ ∀ b, S b → S1 b := by
        cases r with
        | kept d => exact ⟨S, n, h, fun _ h => h⟩
        | fresh d => exact RRw.keep n h (ρ' := ρ) (d := d) rfl
        | slot i => exact ⟨S, n, h, fun _ h => h⟩
      obtain ⟨S1, n1, p1, sh1⟩ := go
      obtain ⟨S2, n2, p2, sh2⟩ := RRLw.hand rs n1 (t.mono sh1 fun i p h => ⟨p, h⟩)
      exact ⟨S2, n2, .cons (p1.up sh2) p2, fun b hb => sh2 b (sh1 b hb)⟩
theorem noClash_get : ∀ {rs : List Rs} {i j : Nat} {r r' : Rs}, noClash ρ rs = true → i < j → rs[i]? = some r → rs[j]? = some r' → clash ρ r r' = false
  | [], _, _, _, _, _, _, h, _ => by simp at h
  | q :: rs, i, j, r, r', h, hij, h1, h2 => by
    unfold noClash at h
    simp only [Bool.and_eq_true, List.all_eq_true] at h
    cases j with
    | zero => omega
    | succ j =>
      rw [List.getElem?_cons_succ] at h2
      cases i with
      | zero =>
        simp at h1
        subst h1
        have := h.1 _ (List.mem_of_getElem? h2)
        simpa using this
      | succ i =>
        rw [List.getElem?_cons_succ] at h1
        exact noClash_get h.2 (by omega) h1 h2
/-- an argument and what it stands for -/
theorem argOne {lend : Bool} {st : Stt} (g : Gd K S ρ σ H) (h : ArgR K S H ρ σ v r) (e : (if lend = true then argL r ρ else argV r ρ) = some (st, d)) :
    SlotRep K S H v d st ∧ (st.hold = true → ∃ j st0, r = .slot j ∧ ρ[j]? = some (some (st0, d)) ∧ st0.hold = true ∧ σ[j]? = some (some v) ∧ (lend = true → st0.mut = true)) ∧ (lend = false → st.mut = false) ∧ (lend = true → st = .lent) := by
  cases lend with
  | true =>
    rw [if_pos rfl] at e
    unfold argL at e
    cases r with
    | slot i =>
      dsimp only at e
      obtain ⟨hv, _⟩ := h
      split at e
      · rename_i d1 h1
        cases e
        obtain ⟨v1, h2, h3⟩ := g.sl i .own d h1
        rw [hv] at h2; cases h2
        exact ⟨h3, fun _ => ⟨i, .own, rfl, h1, rfl, hv, fun _ => rfl⟩, fun z => (by cases z), fun _ => rfl⟩
      · rename_i d1 h1
        cases e
        obtain ⟨v1, h2, h3⟩ := g.sl i .lent d h1
        rw [hv] at h2; cases h2
        exact ⟨h3, fun _ => ⟨i, .lent, rfl, h1, rfl, hv, fun _ => rfl⟩, fun z => (by cases z), fun _ => rfl⟩
      · cases e
    | _ => cases e
  | false =>
    rw [if_neg (by decide)] at e
    unfold argV at e
    cases r with
    | kept d1 => cases e; exact ⟨h, fun z => (by cases z), fun _ => rfl, fun z => by cases z⟩
    | fresh d1 => cases e; exact ⟨h, fun z => (by cases z), fun _ => rfl, fun z => by cases z⟩
    | slot i =>
      dsimp only at e
      obtain ⟨hv, _⟩ := h
      split at e
      · rename_i d1 h1
        cases e
        obtain ⟨v1, h2, h3⟩ := g.sl i .shr d h1
        rw [hv] at h2; cases h2
        exact ⟨h3, fun z => (by cases z), fun _ => rfl, fun z => by cases z⟩
      · rename_i d1 h1
        cases e
        obtain ⟨v1, h2, a, h3, h4, h5⟩ := g.sl i .own d h1
        rw [hv] at h2; cases h2
        exact ⟨⟨a, h3, h4, TopX.r h5⟩, fun _ => ⟨i, .own, rfl, h1, rfl, hv, fun z => by cases z⟩, fun _ => rfl, fun z => by cases z⟩
      · rename_i d1 h1
        cases e
        obtain ⟨v1, h2, a, h3, h4, h5⟩ := g.sl i .lent d h1
        rw [hv] at h2; cases h2
        exact ⟨⟨a, h3, h4, TopX.r h5⟩, fun _ => ⟨i, .lent, rfl, h1, rfl, hv, fun z => by cases z⟩, fun _ => rfl, fun z => by cases z⟩
      · rename_i d1 h1
        cases e
        obtain ⟨v1, h2, h3⟩ := g.sl i .bor d h1
        rw [hv] at h2; cases h2
        exact ⟨h3, fun _ => ⟨i, .bor, rfl, h1, rfl, hv, fun z => by cases z⟩, fun _ => rfl, fun z => by cases z⟩
      · rename_i d1 h1
        cases e
        obtain ⟨v1, h2, h3⟩ := g.sl i .scr d h1
        rw [hv] at h2; cases h2
        exact ⟨h3, fun z => (by cases z), fun _ => rfl, fun z => by cases z⟩
      · cases e
/-- all of them -/
theorem argAll : ∀ {lend : Bool} {rs : List Rs} {vs : List V} {args : List (Stt × PyData)}, Gd K S ρ σ H → ArgRL K S H ρ σ vs rs → argVs ρ lend rs = some args →
    args.length = vs.length ∧ ∀ (i : Nat) (st : Stt) (d : PyData), args[i]? = some (st, d) → ∃ v r, vs[i]? = some v ∧ rs[i]? = some r ∧ SlotRep K S H v d st ∧
      (st.hold = true → ∃ j st0, r = .slot j ∧ ρ[j]? = some (some (st0, d)) ∧ st0.hold = true ∧ σ[j]? = some (some v) ∧ ((lend = true ∧ i = 0) → st0.mut = true)) ∧ (¬ (lend = true ∧ i = 0) → st.mut = false) ∧ ((lend = true ∧ i = 0) → st = .lent)
  | lend, [], vs, args, g, h, e => by
    cases h
    cases e
    exact ⟨rfl, fun i st d h => by simp at h⟩
  | lend, r :: rs, vs, args, g, h, e => by
    cases h with
    | cons h t =>
      rename_i v vs
      unfold argVs at e
      split at e
      · rename_i p l e1 e2
        cases e
        obtain ⟨hl, ih⟩ := argAll g t e2
        refine ⟨by rw [List.length_cons, List.length_cons, hl], fun i st d hi => ?_⟩
        cases i with
        | zero =>
          simp at hi
          subst hi
          obtain ⟨a1, a2, a3, a4⟩ := argOne g h e1
          refine ⟨v, r, rfl, rfl, a1, fun z => ?_, fun z => a3 ?_, fun z => a4 z.1⟩
          · obtain ⟨j, st0, b1, b2, b3, b4, b5⟩ := a2 z
            exact ⟨j, st0, b1, b2, b3, b4, fun y => b5 y.1⟩
          · cases lend with
            | false => rfl
            | true => exact absurd ⟨rfl, rfl⟩ z
        | succ i =>
          rw [List.getElem?_cons_succ] at hi
          obtain ⟨v1, r1, b1, b2, b3, b4, b5, _⟩ := ih i st d hi
          refine ⟨v1, r1, by simpa using b1, by simpa using b2, b3, fun z => ?_, fun _ => b5 (fun z => Bool.noConfusion z.1), fun z => Nat.noConfusion z.2⟩
          obtain ⟨j, st0, c1, c2, c3, c4, _⟩ := b4 z
          exact ⟨j, st0, c1, c2, c3, c4, fun y => Nat.noConfusion y.2⟩
      · cases e
theorem argGd {lend : Bool} {rs : List Rs} {vs : List V} {args : List (Stt × PyData)} (g : Gd K S ρ σ H) (h : ArgRL K S H ρ σ vs rs) (e : argVs ρ lend rs = some args) (nc : noClash ρ rs = true) : Gd K S (args.map some) (vs.map some) H := by
  obtain ⟨hl, hall⟩ := argAll g h e
  refine ⟨by simp [hl], fun i st d hi => ?_, fun i j a st d st' d' hi hj h1 h2 h3 h4 => ?_, g.al⟩
  · obtain ⟨y, hy1, hy2⟩ := get_map_some hi
    cases hy1
    obtain ⟨v, r, b1, b2, b3, _⟩ := hall i st d hy2
    exact ⟨v, by rw [List.getElem?_map, b1]; rfl, b3⟩
  · obtain ⟨y, hy1, hy2⟩ := get_map_some hi
    cases hy1
    obtain ⟨z, hz1, hz2⟩ := get_map_some hj
    cases hz1
    obtain ⟨v, r, b1, b2, b3, b4, _⟩ := hall i st d hy2
    obtain ⟨v', r', c1, c2, c3, c4, _⟩ := hall j st' d' hz2
    obtain ⟨si, sti, e1, e2, e3, e4, _⟩ := b4 h1
    obtain ⟨sj, stj, f1, f2, f3, f4, _⟩ := c4 h2
    rw [List.getElem?_map, b1] at h3; cases h3
    rw [List.getElem?_map, c1] at h4; cases h4
    have hs := g.ne si sj a sti d stj d' e2 f2 e3 f3 e4 f4
    subst hs
    subst e1
    subst f1
    have bad : ∀ {m n : Nat}, m < n → rs[m]? = some (.slot si) → rs[n]? = some (.slot si) → False := fun {m n} hmn hm hn => by
      have := noClash_get nc hmn hm hn
      unfold clash at this
      simp [e2, e3] at this
    rcases Nat.lt_trichotomy i j with hij | hij | hij
    · exact (bad hij b2 c2).elim
    · exact hij
    · exact (bad hij c2 b2).elim
/-- the call gives new things alone -/
theorem Fc.gw {args : List (Option (Stt × PyData))} {vs : L2.St} (f : Fc S args vs H S' H') (nm : ∀ a, ¬ Mu args vs a) : Gw S H S' H' :=
  ⟨fun a o e => f.keep a o e (nm a), f.sh, fun a h => (f.new a h).imp_right fun z => z.resolve_left (nm a), f.al⟩
/-- a call that changes the object of one slot -/
theorem Now.called {i : Nat} {st : Stt} (n : Now K σ S0 ρ0 H0 S ρ H) (h : ρ[i]? = some (some (st, d))) (hm : st.mut = true) (hv : σ[i]? = some (some (V.ref a)))
    (dom : ∀ b, H b ≠ none → H' b ≠ none) (keep : ∀ b o, H b = some o → b ≠ a → H' b = some o) (sh : ∀ b, S b → S' b) (new : ∀ b, S' b → S b ∨ H b = none) (al : ∀ b, S' b → H' b ≠ none) (nS : ¬ S' a) (t : TopX K S' H' a d') :
    Now K σ S0 ρ0 H0 S' (ρ.set i (some (st, d'))) H' := by
  have hi : i < ρ.length := (List.getElem?_eq_some_iff.mp h).1
  have hold : st.hold = true := by cases st <;> first | rfl | cases hm
  have mu : Mu ρ σ a := ⟨i, st, d, h, hm, hv⟩
  have ns : ¬ S a := fun z => n.g.notMu z mu
  have tx : TopX K S H a d := by
    obtain ⟨v, h1, h2⟩ := n.g.sl i st d h
    rw [hv] at h1; cases h1
    cases st with
    | own => obtain ⟨b, e, _, t⟩ := h2; cases e; exact t
    | lent => obtain ⟨b, e, _, t⟩ := h2; cases e; exact t
    | _ => cases hm
  have u : Uph S H S' H' := ⟨sh, fun b o hb e => keep b o e (show b ≠ a from fun z => ns (z ▸ hb))⟩
  have nw : ∀ b, H b ≠ none → ¬ S b → ¬ S' b := fun b h1 h2 h3 => (new b h3).elim h2 h1
  refine ⟨n.g0, ⟨fun b hb => dom b (n.f.dom b hb), fun b o e nm => keep b o (n.f.keep b o e nm) (show b ≠ a from fun z => nm (z ▸ n.f.mu mu)), fun b hb => sh b (n.f.sh b hb), fun b hb => ?_, by rw [List.length_set]; exact n.f.len, fun j hj => ?_, fun j st1 d1 hj => ?_⟩, ⟨by rw [List.length_set]; exact n.g.len, fun j st1 d1 hj => ?_, fun j k b st1 d1 st2 d2 hj hk ha hb hvj hvk => ?_, al⟩⟩
  · rcases new b hb with z | z
    · exact n.f.new b z
    · exact .inr (.inr (n.none0 z))
  · have hj' := n.f.non j hj
    have : j ≠ i := by rintro rfl; rw [h] at hj'; cases hj'
    rw [List.getElem?_set_ne (Ne.symm this)]
    exact hj'
  · obtain ⟨st2, d2, h3, h4, h5⟩ := n.f.sts j st1 d1 hj
    by_cases hji : j = i
    · subst hji
      rw [h] at h3; cases h3
      refine ⟨st, d', by rw [List.getElem?_set_self hi], h4, fun z => ?_⟩
      rcases h4 with rfl | ⟨rfl, _⟩
      · rw [hm] at z; cases z
      · cases z
    · exact ⟨st2, d2, by rw [List.getElem?_set_ne (Ne.symm hji)]; exact h3, h4, h5⟩
  · rcases mem_set_slot hj with ⟨rfl, e1⟩ | ⟨hne, hj⟩
    · cases e1
      refine ⟨_, hv, ?_⟩
      cases st with
      | own => exact ⟨a, rfl, nS, t⟩
      | lent => exact ⟨a, rfl, nS, t⟩
      | _ => cases hm
    · obtain ⟨w, h3, h4⟩ := n.g.sl j st1 d1 hj
      refine ⟨w, h3, ?_⟩
      have other : ∀ b, w = .ref b → st1.hold = true → b ≠ a := fun b e1 hh e2 => hne (n.g.ne j i a st1 d1 st d hj h hh hold (by rw [h3, e1, e2]) hv)
      cases st1 with
      | shr => exact Rp.up u h4
      | own => obtain ⟨b, rfl, ns', t1⟩ := h4; exact ⟨b, rfl, nw b (TopX.there t1) ns', TopX.up u (fun o e => keep b o e (other b rfl rfl)) t1⟩
      | lent => obtain ⟨b, rfl, ns', t1⟩ := h4; exact ⟨b, rfl, nw b (TopX.there t1) ns', TopX.up u (fun o e => keep b o e (other b rfl rfl)) t1⟩
      | bor => obtain ⟨b, rfl, ns', t1⟩ := h4; exact ⟨b, rfl, nw b (TopR.there t1) ns', TopR.up u (fun o e => keep b o e (other b rfl rfl)) t1⟩
      | scr =>
        obtain ⟨b, ns1, rfl, e1, k⟩ := h4
        refine ⟨b, ns1, rfl, e1, KLst.keep (fun o e => keep b _ e fun z => ?_) k⟩
        subst z
        cases d with
        | list ds => obtain ⟨vs, q, _⟩ := tx; rw [q] at e; cases e
        | dict kvs => obtain ⟨ts, q, _⟩ := tx; rw [q] at e; cases e
        | _ => exact tx.elim
  · have f1 : ∀ {j : Nat} {st1 : Stt} {d1 : PyData}, (ρ.set i (some (st, d')))[j]? = some (some (st1, d1)) → ∃ d2, ρ[j]? = some (some (st1, d2)) := fun {j st1 d1} hj => by
      rcases mem_set_slot hj with ⟨rfl, e1⟩ | ⟨_, hj⟩
      · cases e1; exact ⟨d, h⟩
      · exact ⟨d1, hj⟩
    obtain ⟨x1, y1⟩ := f1 hj
    obtain ⟨x2, y2⟩ := f1 hk
    exact n.g.ne j k b st1 x1 st2 x2 y1 y2 ha hb hvj hvk
theorem RR.any {ρ1 ρ2 : Rho} {σ1 σ2 : L2.St} (h : RR K H0 S H ρ1 σ1 v r) (ns : ∀ i, r ≠ .slot i) : RR K H0 S H ρ2 σ2 v r := by
  cases r with
  | kept d => exact h
  | fresh d => exact h
  | slot i => exact absurd rfl (ns i)
end
section
variable {X : Cx} {k : Nat} {x : Str} {fn : Fn} {p pos : Pos} {e : Expr} {es : List Expr} {g : Mo (List Rs)}
theorem pd_call (c : Cl X.prog X.w X.K X.mg X.base k x fn) (hr : Room k X.A) (hg : Gl X x) (ha : AD X (e :: es) g) (hdb : (x == ("__debug__" : Str)) = false := by decide)
    (he : starEach (e :: es) X.env = (false, eval e X.env) :: starEach es X.env := by rfl) (hpl : (backTo pos (starEach es X.env)).any (·.1) = false := by rfl) : PD X (.Call (.Name x p) (e :: es) [] pos) (xCall fn g) := by
  obtain ⟨f, fd, ps, F, hm, hk, hb⟩ := c
  refine PE.to (pe_call F hr hg hm hk hb .nil pass0 ha hdb he hpl) fun σ H Q h => ?_
  obtain ⟨S, ρ, r, ρ', G, e, q⟩ := h
  obtain ⟨rs, ρ1, e1, e2⟩ := bindM_some e
  refine ⟨S, ρ, rs, ρ1, G, e1, fun vs S1 H1 F1 G1 R1 => ?_⟩
  have n1 : Now X.K σ S ρ H S1 ρ1 H1 := ⟨G, F1, G1⟩
  obtain ⟨S2, n2, A2, sh2⟩ := RRLw.hand rs n1 R1.w
  split at e2
  · rename_i args ea
    split at e2
    · rename_i nc
      split at e2
      · rename_i r0 l0 ef
        have hns : ∀ i, r0 ≠ .slot i := fun i z => by subst z; cases e2
        have he2 : r = r0 ∧ ρ' = ρ1 := by
          cases r0 with
          | slot i => cases e2
          | kept d => cases e2; exact ⟨rfl, rfl⟩
          | fresh d => cases e2; exact ⟨rfl, rfl⟩
        obtain ⟨rfl, rfl⟩ := he2
        show spI X.K fn (vs ++ []) H1 Q E0
        rw [List.append_nil]
        refine ⟨S2, args, r, l0, argGd n2.g A2 ea nc, ef, fun v S3 H3 fc rr _ => ?_⟩
        have gw : Gw S2 H1 S3 H3 := fc.gw fun a m => by
          obtain ⟨i, st, d, m1, m2, m3⟩ := m
          obtain ⟨y, hy1, hy2⟩ := get_map_some m1
          cases hy1
          obtain ⟨_, hall⟩ := argAll n2.g A2 ea
          obtain ⟨_, _, _, _, _, _, b5, _⟩ := hall i st d hy2
          rw [b5 (fun z => Bool.noConfusion z.1)] at m2
          cases m2
        exact q v S3 H3 (n2.grow gw).f (n2.grow gw).g ((rr.any hns).pre n2)
      · cases e2
    · cases e2
  · cases e2
theorem pd_callL (c : Cl X.prog X.w X.K X.mg X.base k x fn) (hr : Room k X.A) (hg : Gl X x) (ha : AD X (e :: es) g) (hdb : (x == ("__debug__" : Str)) = false := by decide)
    (he : starEach (e :: es) X.env = (false, eval e X.env) :: starEach es X.env := by rfl) (hpl : (backTo pos (starEach es X.env)).any (·.1) = false := by rfl) : PD X (.Call (.Name x p) (e :: es) [] pos) (xCallL fn g) := by
  obtain ⟨f, fd, ps, F, hm, hk, hb⟩ := c
  refine PE.to (pe_call F hr hg hm hk hb .nil pass0 ha hdb he hpl) fun σ H Q h => ?_
  obtain ⟨S, ρ, r, ρ', G, e, q⟩ := h
  obtain ⟨rs, ρ1, e1, e2⟩ := bindM_some e
  refine ⟨S, ρ, rs, ρ1, G, e1, fun vs S1 H1 F1 G1 R1 => ?_⟩
  have n1 : Now X.K σ S ρ H S1 ρ1 H1 := ⟨G, F1, G1⟩
  obtain ⟨S2, n2, A2, sh2⟩ := RRLw.hand rs n1 R1.w
  split at e2
  · rename_i args ea
    split at e2
    · rename_i nc
      split at e2
      · rename_i r0 d' ef
        have he2 : ∃ i rest st d0, rs = .slot i :: rest ∧ ρ1[i]? = some (some (st, d0)) ∧ r = r0 ∧ ρ' = ρ1.set i (some (st, d')) ∧ ∀ j, r0 ≠ .slot j := by
          split at e2
          · split at e2
            · cases e2; exact ⟨_, _, _, _, rfl, ‹_›, rfl, rfl, fun j z => by cases z⟩
            · cases e2
          · split at e2
            · cases e2; exact ⟨_, _, _, _, rfl, ‹_›, rfl, rfl, fun j z => by cases z⟩
            · cases e2
          · cases e2
        obtain ⟨i, rest, st, d0, rfl, hi, rfl, rfl, hns⟩ := he2
        show spI X.K fn (vs ++ []) H1 Q E0
        rw [List.append_nil]
        obtain ⟨hl, hall⟩ := argAll n2.g A2 ea
        refine ⟨S2, args, r, some d', argGd n2.g A2 ea nc, ef, fun v S3 H3 fc rr lt => ?_⟩
        obtain ⟨a, hv0, ns, tx⟩ := lt d' rfl
        have h0 : ∃ p, args[0]? = some p := by
          cases args with
          | nil => cases A2; simp at hl
          | cons p _ => exact ⟨p, rfl⟩
        obtain ⟨⟨st1, d1⟩, h0⟩ := h0
        obtain ⟨v1, r1, b1, b2, b3, b4, _, b6⟩ := hall 0 st1 d1 h0
        have hl1 := b6 ⟨rfl, rfl⟩
        subst hl1
        obtain ⟨j, st0, c1, c2, c3, c4, c5⟩ := b4 rfl
        simp at b2
        subst b2
        cases c1
        rw [hi] at c2; cases c2
        rw [hv0] at b1; cases b1
        have hm := c5 ⟨rfl, rfl⟩
        have only : ∀ b, Mu (args.map some) (vs.map some) b → b = a := fun b m => by
          obtain ⟨i1, st2, d2, m1, m2, m3⟩ := m
          obtain ⟨y, hy1, hy2⟩ := get_map_some m1
          cases hy1
          by_cases z : i1 = 0
          · subst z
            rw [List.getElem?_map, hv0] at m3
            cases m3; rfl
          · obtain ⟨_, _, _, _, _, _, b5, _⟩ := hall i1 st2 d2 hy2
            rw [b5 fun y => z y.2] at m2
            cases m2
        have n3 : Now X.K σ S ρ H S3 (ρ1.set i (some (st, d'))) H3 := n2.called hi hm c4 fc.dom (fun b o e nb => fc.keep b o e fun m => nb (only b m)) fc.sh (fun b hb => by
          rcases fc.new b hb with z | z | z
          · exact .inl z
          · exact absurd hb (only b z ▸ ns)
          · exact .inr z) fc.al ns tx
        exact q v S3 H3 n3.f n3.g ((rr.any hns).pre n2)
      · cases e2
    · cases e2
  · cases e2
end
end PyI

/-! PyI, part G: operators, displays, items. -/
namespace PyI
open PySem PySem.Spec L2

section
variable {K : PySem.W.Frag} {S S' : Addr → Prop} {H H' : Hp} {v : V} {d : PyData} {ds : List PyData} {kvs : List (PyData × PyData)} {a : Addr} {vs : List V}
theorem Rdb.int {i : Int} (h : Rdb K S H v (.int i)) : v = .int i := by
  rcases h with h | ⟨a, _, h⟩
  · cases h; rfl
  · exact h.elim
theorem Rdb.str {x : Str} (h : Rdb K S H v (.str x)) : v = .str x := by
  rcases h with h | ⟨a, _, h⟩
  · cases h; rfl
  · exact h.elim
theorem Rdb.non (h : Rdb K S H v .none) : v = .non := by
  rcases h with h | ⟨a, _, h⟩
  · cases h; rfl
  · exact h.elim
theorem Rdb.lst (h : Rdb K S H v (.list ds)) : ∃ a vs, v = .ref a ∧ H a = some (.lst vs) ∧ RpL K S H vs ds := by
  rcases h with h | ⟨a, e, h⟩
  · cases h with
    | lst _ h r => exact ⟨_, _, rfl, h, r⟩
  · obtain ⟨vs, h1, h2⟩ := h; exact ⟨a, vs, e, h1, h2⟩
theorem Rdb.tup (h : Rdb K S H v (.tuple ds)) : ∃ a vs, v = .ref a ∧ STup K S H a vs ∧ RpL K S H vs ds := by
  rcases h with h | ⟨a, e, h⟩
  · cases h with
    | tup h r _ => exact ⟨_, _, rfl, h, r⟩
  · exact h.elim
theorem Rdb.tupP (h : Rdb K S H v (.tuple ds)) : ∃ a vs, v = .ref a ∧ STup K S H a vs ∧ RpL K S H vs ds ∧ (pairsB ds = true → PlT S H a vs) := by
  rcases h with h | ⟨a, e, h⟩
  · cases h with
    | tup h r p => exact ⟨_, _, rfl, h, r, p⟩
  · exact h.elim
theorem Rdb.dct (h : Rdb K S H v (.dict kvs)) : ∃ a ts, v = .ref a ∧ Rd H a (.dK ts) ∧ kvs.map (·.1) = ts.map (fun p => keyD p.1) ∧ RpL K S H (ts.map (·.2)) (kvs.map (·.2)) := by
  rcases h with h | ⟨a, e, h⟩
  · cases h with
    | dct _ h k r => exact ⟨_, _, rfl, h, k, r⟩
  · obtain ⟨ts, h1, h2, h3⟩ := h; exact ⟨a, ts, e, h1, h2, h3⟩
theorem STup.sq (h : STup K S H a vs) : SqT K H a vs := by
  rcases h with ⟨_, h⟩ | ⟨o, its, n, h1, h2, h3, h4, h5⟩
  · exact .inl h
  · exact .inr ⟨o, its, n, h1, h2, h3, h4, h5⟩
mutual
theorem Rp.dp : ∀ {v : V} {d : PyData}, Rp K S H v d → d.plain = true → Dp K H v d
  | _, _, .non, _ => .non
  | _, _, .bl b, _ => .bl b
  | _, _, .int i, _ => .int i
  | _, _, .str x, _ => .str x
  | _, _, .tup h r _, p => .tup h.sq (RpL.dp r (by simpa [PyData.plain] using p))
  | _, _, .lst _ h r, p => .lst (SqL.of h) (RpL.dp r (by simpa [PyData.plain] using p))
  | _, _, .dct _ _ _ _, p => nomatch p
theorem RpL.dp : ∀ {vs : List V} {ds : List PyData}, RpL K S H vs ds → PyData.plainAll ds = true → DpAll K H vs ds
  | _, _, .nil, _ => .nil
  | _, _, .cons h r, p => by
    rw [PyData.plainAll, Bool.and_eq_true] at p
    exact .cons (Rp.dp h p.1) (RpL.dp r p.2)
end
theorem Rdb.dp (h : Rdb K S H v d) (p : d.plain = true) : Dp K H v d := by
  rcases h with h | ⟨a, rfl, h⟩
  · exact h.dp p
  · cases d with
    | list ds => obtain ⟨vs, h1, h2⟩ := h; exact .lst (SqL.of h1) (h2.dp (by simpa [PyData.plain] using p))
    | dict _ => nomatch p
    | _ => exact h.elim
theorem lay_lst {H0 : Hp} {ρ : Rho} {σ : L2.St} (al : ∀ a, S a → H a ≠ none) (r : RpL K S H vs ds) {p : Addr} (hp : H p = none) (h0 : H0 p = none) : RR K H0 S (upd H p (.lst vs)) ρ σ (.ref p) (.fresh (.list ds)) :=
  ⟨p, rfl, h0, fun z => al p z hp, vs, upd_same, r.up (Gw.lay al hp).up⟩
theorem lay_tup (al : ∀ a, S a → H a ≠ none) (r : RpL K S H vs ds) {p : Addr} (hp : H p = none) (n : pairsB ds = false) : Rp K (fun b => S b ∨ b = p) (upd H p (.tup vs)) (.ref p) (.tuple ds) :=
  .tup (.inl ⟨.inr rfl, .inl upd_same⟩) (r.up (Gw.layS al hp).up) fun e => by rw [n] at e; cases e
theorem lay_tupN (al : ∀ a, S a → H a ≠ none) (r : RpL K S H vs ds) {p : Addr} {o : Obj} (hp : H p = none) (ho : o.dict = none) : Rp K (fun b => S b ∨ b = p) (upd H p (.frz o (.tup vs))) (.ref p) (.tuple ds) :=
  .tup (.inl ⟨.inr rfl, .inr ⟨o, upd_same⟩⟩) (r.up (Gw.layS al hp).up) fun _ => ⟨.inr rfl, o, upd_same, ho⟩
end

/-! ### + - * // % ** -/
def opAdd : PyData → PyData → Option PyData
  | .int i, .int j => some (.int (i + j))
  | .str x, .str y => if x.length + y.length ≤ sizeLine then some (.str (x ++ y)) else none
  | .list xs, .list ys => if xs.length + ys.length ≤ sizeLine then some (.list (xs ++ ys)) else none
  | .tuple xs, .tuple ys => if xs.length + ys.length ≤ sizeLine then some (.tuple (xs ++ ys)) else none
  | _, _ => none
def opSub : PyData → PyData → Option PyData
  | .int i, .int j => some (.int (i - j))
  | _, _ => none
def opMul : PyData → PyData → Option PyData
  | .int i, .int j => if (-(2 ^ 64) < i ∧ i < 2 ^ 64) ∨ (-(2 ^ 64) < j ∧ j < 2 ^ 64) then some (.int (i * j)) else none
  | _, _ => none
def opFdiv : PyData → PyData → Option PyData
  | .int i, .int j => if 0 < j ∧ j < 1073741824 then some (.int (i / j)) else none
  | _, _ => none
def opMod : PyData → PyData → Option PyData
  | .int i, .int j => if 0 < j then some (.int (i % j)) else none
  | _, _ => none
def opPow : PyData → PyData → Option PyData
  | .int i, .int j => if 0 ≤ j ∧ j ≤ 1000000 ∧ i.natAbs < 18446744073709551616 then some (.int (i ^ j.toNat)) else none
  | _, _ => none
section
variable {X : Cx}
/-- an operator on ints -/
theorem oi {f : Value → Value → Sem Value} {C : Int → Int → Prop} {g : Int → Int → Int} {op : PyData → PyData → Option PyData} (h : OpR X f (rI C fun i j => .int (g i j)))
    (hop : ∀ a b d, op a b = some d → ∃ i j, a = .int i ∧ b = .int j ∧ C i j ∧ d = .int (g i j)) : OpR X f (rD X.K op) := by
  intro pins s σ H x y v u Q I rx ry q
  obtain ⟨S, d1, d2, d, al, r1, r2, e, q⟩ := q
  obtain ⟨i, j, rfl, rfl, hc, rfl⟩ := hop _ _ _ e
  exact h pins s σ H x y v u Q I rx ry ⟨i, j, r1.int, r2.int, hc, q _ S H (Gw.refl al) (.int _)⟩
theorem oi0 {f : Value → Value → Sem Value} {g : Int → Int → Int} {op : PyData → PyData → Option PyData} (h : OpR X f (rI0 fun i j => .int (g i j)))
    (hop : ∀ a b d, op a b = some d → ∃ i j, a = .int i ∧ b = .int j ∧ d = .int (g i j)) : OpR X f (rD X.K op) := by
  intro pins s σ H x y v u Q I rx ry q
  obtain ⟨S, d1, d2, d, al, r1, r2, e, q⟩ := q
  obtain ⟨i, j, rfl, rfl, rfl⟩ := hop _ _ _ e
  exact h pins s σ H x y v u Q I rx ry ⟨i, j, r1.int, r2.int, q _ S H (Gw.refl al) (.int _)⟩
theorem oib {f : Value → Value → Sem Value} {g : Int → Int → Bool} {op : PyData → PyData → Option PyData} (h : OpR X f (rI0 fun i j => .bl (g i j)))
    (hop : ∀ a b d, op a b = some d → ∃ i j, a = .int i ∧ b = .int j ∧ d = .bool (g i j)) : OpR X f (rD X.K op) := by
  intro pins s σ H x y v u Q I rx ry q
  obtain ⟨S, d1, d2, d, al, r1, r2, e, q⟩ := q
  obtain ⟨i, j, rfl, rfl, rfl⟩ := hop _ _ _ e
  exact h pins s σ H x y v u Q I rx ry ⟨i, j, r1.int, r2.int, q _ S H (Gw.refl al) (.bl _)⟩
theorem o_sub : OpR X (binaryOp .Sub) (rD X.K opSub) := oi0 op_sub fun a b d e => by
  unfold opSub at e; split at e
  · cases e; exact ⟨_, _, rfl, rfl, rfl⟩
  · cases e
theorem o_mul : OpR X (binaryOp .Mult) (rD X.K opMul) := oi op_mul fun a b d e => by
  unfold opMul at e; split at e
  · split at e
    · rename_i hc; cases e; exact ⟨_, _, rfl, rfl, hc, rfl⟩
    · cases e
  · cases e
theorem o_fdiv : OpR X (binaryOp .FloorDiv) (rD X.K opFdiv) := oi op_fdiv fun a b d e => by
  unfold opFdiv at e; split at e
  · split at e
    · rename_i hc; cases e; exact ⟨_, _, rfl, rfl, hc, rfl⟩
    · cases e
  · cases e
theorem o_mod : OpR X (binaryOp .Mod) (rD X.K opMod) := oi op_mod fun a b d e => by
  unfold opMod at e; split at e
  · split at e
    · rename_i hc; cases e; exact ⟨_, _, rfl, rfl, hc, rfl⟩
    · cases e
  · cases e
theorem o_pow : OpR X (binaryOp .Pow) (rD X.K opPow) := oi op_pow fun a b d e => by
  unfold opPow at e; split at e
  · split at e
    · rename_i hc; cases e; exact ⟨_, _, rfl, rfl, ⟨hc.1, hc.2.1, by simpa using hc.2.2⟩, rfl⟩
    · cases e
  · cases e
theorem o_add : OpR X (binaryOp .Add) (rD X.K opAdd) := by
  intro pins s σ H x y v u Q I rx ry q
  obtain ⟨S, d1, d2, d, al, r1, r2, e, q⟩ := q
  unfold opAdd at e
  split at e
  · cases e
    exact op_add pins s σ H x y v u Q I rx ry ⟨_, _, r1.int, r2.int, q _ S H (Gw.refl al) (.int _)⟩
  · split at e
    · rename_i hz
      cases e
      exact op_add_str pins s σ H x y v u Q I rx ry ⟨_, _, r1.str, r2.str, hz, q _ S H (Gw.refl al) (.str _)⟩
    · cases e
  · split at e
    · rename_i hz
      cases e
      obtain ⟨a, xs, rfl, h1, p1⟩ := r1.lst
      obtain ⟨b, zs, rfl, h2, p2⟩ := r2.lst
      exact op_cat pins s σ H _ _ v u Q I rx ry ⟨a, b, xs, zs, rfl, rfl, h1, h2, by rw [p1.len, p2.len]; exact hz, fun p hp => q _ S _ (Gw.lay al hp) (lay_lst al (p1.app p2) hp hp)⟩
    · cases e
  · split at e
    · rename_i hz
      cases e
      obtain ⟨a, xs, rfl, h1, p1, l1⟩ := r1.tupP
      obtain ⟨b, zs, rfl, h2, p2, l2⟩ := r2.tupP
      refine op_catN pins s σ H _ _ v u Q I rx ry ⟨a, b, xs, zs, rfl, rfl, h1.sq, h2.sq, by rw [p1.len, p2.len]; exact hz, fun ex => ?_, fun _ ey => ?_, fun _ _ p o hp ho => ?_⟩
      · subst ex
        cases p1
        exact q _ S H (Gw.refl al) (.tup h2 p2 l2)
      · subst ey
        cases p2
        refine q _ S H (Gw.refl al) (.tup h1 ?_ ?_)
        · rw [List.append_nil]; exact p1
        · rw [List.append_nil]; exact l1
      · exact q _ _ _ (Gw.layS al hp) (lay_tupN al (p1.app p2) hp ho)
    · cases e
  · cases e
end

/-! ### comparisons -/
def opLt : PyData → PyData → Option PyData
  | .int i, .int j => some (.bool (decide (i < j)))
  | _, _ => none
def opLe : PyData → PyData → Option PyData
  | .int i, .int j => some (.bool (decide (i ≤ j)))
  | _, _ => none
def opGt : PyData → PyData → Option PyData
  | .int i, .int j => some (.bool (decide (j < i)))
  | _, _ => none
def opGe : PyData → PyData → Option PyData
  | .int i, .int j => some (.bool (decide (j ≤ i)))
  | _, _ => none
def isNone : PyData → Bool
  | .none => true | _ => false
def opIsN : PyData → PyData → Option PyData
  | d, .none => some (.bool (isNone d))
  | _, _ => none
def opNotN : PyData → PyData → Option PyData
  | d, .none => some (.bool (!isNone d))
  | _, _ => none
/-- one key, another one -/
def keyEq : PyData → PyData → Bool
  | .int i, .int j => i == j
  | .str x, .str y => x == y
  | _, _ => false
def lookD (k : PyData) : List (PyData × PyData) → Option PyData
  | [] => none
  | p :: r => if keyEq p.1 k = true then some p.2 else lookD k r
/-- the values are small data -/
def okVals (n : Nat) : List (PyData × PyData) → Bool
  | [] => true
  | p :: r => p.2.plain && decide (p.2.depth ≤ n) && okVals n r
def hitsD (b : List (PyData × PyData)) : List (PyData × PyData) → Bool
  | [] => true
  | p :: r => match lookD p.1 b with
    | none => false
    | some y => PyData.eqv p.2 y && hitsD b r
def eqD : PyData → PyData → Option Bool
  | .dict a, .dict b => if okVals 50 a = true ∧ okVals 50 b = true then some (a.length == b.length && hitsD b a) else none
  | a, b => if a.plain = true ∧ b.plain = true ∧ min a.depth b.depth ≤ 60 then some (PyData.eqv a b) else none
def opEq (a b : PyData) : Option PyData := (eqD a b).map .bool
def opNe (a b : PyData) : Option PyData := (eqD a b).map fun b => .bool (!b)
theorem eqD_int {i j : Int} : eqD (.int i) (.int j) = some (i == j) := by simp [eqD, PyData.plain, PyData.depth, PyData.eqv]
theorem keyEq_keyD {k k' : Key} : keyEq (keyD k) (keyD k') = decide (k = k') := by
  cases k <;> cases k' <;> simp [keyD, keyEq]
  all_goals (rename_i a b; by_cases h : a = b <;> simp [h])
section
variable {K : PySem.W.Frag} {S S' : Addr → Prop} {H H' : Hp}
/-- a key's value, by the values and by the data -/
theorem look_of : ∀ {ts : List (Key × V)} {kvs : List (PyData × PyData)} (k : Key), kvs.map (·.1) = ts.map (fun p => keyD p.1) → RpL K S H (ts.map (·.2)) (kvs.map (·.2)) →
    (valV ts k = none ∧ lookD (keyD k) kvs = none) ∨ ∃ v d, valV ts k = some v ∧ lookD (keyD k) kvs = some d ∧ Rp K S H v d
  | [], [], k, _, _ => .inl ⟨rfl, rfl⟩
  | [], _ :: _, _, e, _ => by simp at e
  | _ :: _, [], _, e, _ => by simp at e
  | (j, w) :: ts, (jd, wd) :: kvs, k, e, r => by
    simp only [List.map_cons, List.cons.injEq] at e
    obtain ⟨e1, e2⟩ := e
    simp only [List.map_cons] at r
    cases r with
    | cons h t =>
      unfold lookD
      simp only at e1 ⊢
      rw [e1, keyEq_keyD]
      by_cases hk : j = k
      · rw [if_pos (decide_eq_true hk), valV_pos (p := (j, w)) hk]
        exact .inr ⟨w, wd, rfl, rfl, h⟩
      · rw [if_neg (by simpa using hk), valV_neg (p := (j, w)) hk]
        exact look_of k e2 t
theorem okVals_at : ∀ {kvs : List (PyData × PyData)} {n : Nat} {k : PyData} {d : PyData}, okVals n kvs = true → lookD k kvs = some d → d.plain = true ∧ d.depth ≤ n
  | p :: r, n, k, d, h, e => by
    unfold okVals at h
    simp only [Bool.and_eq_true, decide_eq_true_eq] at h
    unfold lookD at e
    split at e
    · cases e; exact h.1
    · exact okVals_at h.2 e
end
section
variable {X : Cx}
theorem o_lt : OpR X (compareOp .Lt) (rD X.K opLt) := oib op_lt fun a b d e => by
  unfold opLt at e; split at e
  · cases e; exact ⟨_, _, rfl, rfl, rfl⟩
  · cases e
theorem o_le : OpR X (compareOp .LtE) (rD X.K opLe) := oib op_le fun a b d e => by
  unfold opLe at e; split at e
  · cases e; exact ⟨_, _, rfl, rfl, rfl⟩
  · cases e
theorem o_gt : OpR X (compareOp .Gt) (rD X.K opGt) := oib op_gt fun a b d e => by
  unfold opGt at e; split at e
  · cases e; exact ⟨_, _, rfl, rfl, rfl⟩
  · cases e
theorem o_ge : OpR X (compareOp .GtE) (rD X.K opGe) := oib op_ge fun a b d e => by
  unfold opGe at e; split at e
  · cases e; exact ⟨_, _, rfl, rfl, rfl⟩
  · cases e
theorem Rdb.isNone {K : PySem.W.Frag} {S : Addr → Prop} {H : Hp} {v : V} {d : PyData} (h : Rdb K S H v d) : decide (v = .non) = PyI.isNone d := by
  rcases h with h | ⟨a, rfl, h⟩
  · cases h <;> rfl
  · cases d <;> first | rfl | exact h.elim
theorem o_isN : OpR X (compareOp .Is) (rD X.K opIsN) := by
  intro pins s σ H x y v u Q I rx ry q
  obtain ⟨S, d1, d2, d, al, r1, r2, e, q⟩ := q
  unfold opIsN at e
  split at e
  · cases e
    refine op_isN pins s σ H x y v u Q I rx ry ⟨r2.non, ?_⟩
    rw [r1.isNone]
    exact q _ S H (Gw.refl al) (.bl _)
  · cases e
theorem o_notN : OpR X (compareOp .IsNot) (rD X.K opNotN) := by
  intro pins s σ H x y v u Q I rx ry q
  obtain ⟨S, d1, d2, d, al, r1, r2, e, q⟩ := q
  unfold opNotN at e
  split at e
  · cases e
    refine op_notN pins s σ H x y v u Q I rx ry ⟨r2.non, ?_⟩
    rw [r1.isNone]
    exact q _ S H (Gw.refl al) (.bl _)
  · cases e
/-- the pairs of one dict are looked for in the other one -/
theorem hits_of {pins : List (Addr × Obj)} {s : Shared} {σ : L2.St} {H : Hp} {S : Addr → Prop} (I : Inv X pins σ H s) (hu : X.A.units + 64 < cLine) {ls : List (Key × V)} {vb : List (Key × Value)} {b : List (PyData × PyData)}
    (rb : KV ls vb) (kb : b.map (·.1) = ls.map (fun p => keyD p.1)) (pb : RpL X.K S H (ls.map (·.2)) (b.map (·.2))) (ob : okVals 50 b = true) :
    ∀ {ks : List (Key × V)} {va : List (Key × Value)} {a : List (PyData × PyData)}, KV ks va → a.map (·.1) = ks.map (fun p => keyD p.1) → RpL X.K S H (ks.map (·.2)) (a.map (·.2)) → okVals 50 a = true → PySem.W.KeqHits X.A.in1 s vb va (hitsD b a)
  | [], _, [], .nil, _, _, _ => .nil
  | [], _, _ :: _, _, e, _, _ => by simp at e
  | _ :: _, _, [], _, e, _, _ => by simp at e
  | (k, w) :: ks, (k', u) :: va, (kd, wd) :: a, .cons h t, e, r, o => by
    obtain ⟨h1, h2⟩ := h
    simp only at h1 h2
    subst h1
    simp only [List.map_cons, List.cons.injEq] at e
    obtain ⟨e1, e2⟩ := e
    simp only [List.map_cons] at r
    cases r with
    | cons rw' rt =>
      unfold okVals at o
      simp only [Bool.and_eq_true, decide_eq_true_eq] at o
      have ih := hits_of I hu rb kb pb ob t e2 rt o.2
      unfold hitsD
      simp only at e1 ⊢
      rw [e1]
      have rv := rb.val k
      rcases look_of k kb pb with ⟨n1, n2⟩ | ⟨y, yd, n1, n2, n3⟩
      · rw [n2]
        rw [n1] at rv
        refine .miss ?_
        cases hva : valueAt vb k with
        | none => rfl
        | some z => rw [hva] at rv; exact rv.elim
      · rw [n2]
        rw [n1] at rv
        obtain ⟨z, hz, rz⟩ := rv.some_of
        have oy := okVals_at ob n2
        obtain ⟨as, q1⟩ := Dp.reads I wd w u (rw'.dp o.1.1) h2
        obtain ⟨bs, q2⟩ := Dp.reads I yd y z (n3.dp oy.1) rz
        refine .hit hz (SeqAt.eqAt_plain wd yd X.A.in1 s u z as bs q1 q2 o.1.1 oy.1 ?_) ih
        have := o.1.2
        show X.A.units + 1 + min wd.depth yd.depth < cLine
        omega
theorem eqD_run {pins : List (Addr × Obj)} {s : Shared} {σ : L2.St} {H : Hp} {S : Addr → Prop} {x y : V} {v u : Value} {a b : PyData} {r : Bool} (I : Inv X pins σ H s) (hu : X.A.units + 64 < cLine) (rx : RelV x v) (ry : RelV y u) (r1 : Rdb X.K S H x a) (r2 : Rdb X.K S H y b) (e : eqD a b = some r) :
    (∀ {E Q : Value → Shared → Prop}, Q (.bool r) s → wpAny (model X.prog X.w) X.A (compareOp .Eq v u) Q E s) ∧ ∀ {E Q : Value → Shared → Prop}, Q (.bool (!r)) s → wpAny (model X.prog X.w) X.A (compareOp .NotEq v u) Q E s := by
  unfold eqD at e
  split at e
  · split at e
    · rename_i ks ls ok
      cases e
      obtain ⟨pa, ta, rfl, ha, ka, ra⟩ := r1.dct
      obtain ⟨pb, tb, rfl, hb, kb, rb⟩ := r2.dct
      obtain rfl : v = Value.ref pa := rx
      obtain rfl : u = Value.ref pb := ry
      obtain ⟨_, ya, va, ra', da⟩ := dk_rd I.hok ha
      obtain ⟨_, yb, vb, rb', db⟩ := dk_rd I.hok hb
      have l1 : va.length = ks.length := by rw [← ra'.length]; have := congrArg List.length ka; simpa using this.symm
      have l2 : vb.length = ls.length := by rw [← rb'.length]; have := congrArg List.length kb; simpa using this.symm
      have hh := hits_of I hu rb' kb rb ok.2 ra' ka ra ok.1
      refine ⟨fun {E Q} q => ?_, fun {E Q} q => ?_⟩
      · exact PySem.W.keq_eq (knd := mixKind X.prog X.w) ya yb da db (by omega) (fun _ => hh) (by rw [l1, l2]; exact q)
      · exact PySem.W.keq_ne (knd := mixKind X.prog X.w) ya yb da db (by omega) (fun _ => hh) (by rw [l1, l2]; exact q)
    · cases e
  · split at e
    · rename_i ok
      cases e
      obtain ⟨as, q1⟩ := Dp.reads I a x v (r1.dp ok.1) rx
      obtain ⟨bs, q2⟩ := Dp.reads I b y u (r2.dp ok.2.1) ry
      refine ⟨fun {E Q} q => SeqAt.eq_plain q1 q2 ok.1 ok.2.1 ?_ q, fun {E Q} q => SeqAt.ne_plain q1 q2 ok.1 ok.2.1 ?_ q⟩ <;> (have := ok.2.2; omega)
    · cases e
theorem o_eq (hu : X.A.units + 64 < cLine) : OpR X (compareOp .Eq) (rD X.K opEq) := by
  intro pins s σ H x y v u Q I rx ry q
  obtain ⟨S, d1, d2, d, al, r1, r2, e, q⟩ := q
  unfold opEq at e
  obtain ⟨r, e1, rfl⟩ := Option.map_eq_some_iff.mp e
  exact (eqD_run I hu rx ry r1 r2 e1).1 ⟨.bl r, H, I, rfl, q _ S H (Gw.refl al) (.bl _)⟩
theorem o_ne (hu : X.A.units + 64 < cLine) : OpR X (compareOp .NotEq) (rD X.K opNe) := by
  intro pins s σ H x y v u Q I rx ry q
  obtain ⟨S, d1, d2, d, al, r1, r2, e, q⟩ := q
  unfold opNe at e
  obtain ⟨r, e1, rfl⟩ := Option.map_eq_some_iff.mp e
  exact (eqD_run I hu rx ry r1 r2 e1).2 ⟨.bl (!r), H, I, rfl, q _ S H (Gw.refl al) (.bl _)⟩
end
/-- x in c: a list, a tuple, a text, a dict -/
def inD : PyData → PyData → Option Bool
  | d, .list xs => if d.plain = true ∧ PyData.plainAll xs = true ∧ d.depth ≤ 50 then some (xs.any fun y => PyData.eqv y d) else none
  | d, .tuple xs => if d.plain = true ∧ PyData.plainAll xs = true ∧ d.depth ≤ 50 then some (xs.any fun y => PyData.eqv y d) else none
  | .str x, .str y => some (!(Builtin.Str.occurrences y x 0 y.length 1).isEmpty)
  | _, _ => none
/-- .. a dict -/
def inK : PyData → PyData → Option Bool
  | .str x, .dict kvs => some (lookD (.str x) kvs).isSome
  | .int x, .dict kvs => some (lookD (.int x) kvs).isSome
  | _, _ => none
def opIn (a b : PyData) : Option PyData := (inD a b).map .bool
def opNotIn (a b : PyData) : Option PyData := (inD a b).map fun b => .bool (!b)
def opInK (a b : PyData) : Option PyData := (inK a b).map .bool
def opNotInK (a b : PyData) : Option PyData := (inK a b).map fun b => .bool (!b)
section
variable {X : Cx}
theorem inD_run {pins : List (Addr × Obj)} {s : Shared} {σ : L2.St} {H : Hp} {S : Addr → Prop} {x y : V} {v u : Value} {a b : PyData} {r : Bool} (I : Inv X pins σ H s) (hu : X.A.units + 64 < cLine) (rx : RelV x v) (ry : RelV y u) (r1 : Rdb X.K S H x a) (r2 : Rdb X.K S H y b) (e : inD a b = some r) :
    (∀ {E : Value → Shared → Prop} {Q : VK}, Q (.bl r) H → wpAny (model X.prog X.w) X.A (compareOp .In v u) (EP X pins σ Q) X.xe s) ∧ ∀ {E : Value → Shared → Prop} {Q : VK}, Q (.bl (!r)) H → wpAny (model X.prog X.w) X.A (compareOp .NotIn v u) (EP X pins σ Q) X.xe s := by
  unfold inD at e
  split at e
  · split at e
    · rename_i ok
      cases e
      have pl : (PyData.list ‹_›).plain = true := by unfold PyData.plain; exact ok.2.1
      obtain ⟨as, q1⟩ := Dp.reads I _ x v (r1.dp ok.1) rx
      obtain ⟨bs, q2⟩ := Dp.reads I _ y u (r2.dp pl) ry
      refine ⟨fun {E Q} q => SeqAt.in_list_data q2 q1 ok.2.1 ok.1 ?_ ⟨.bl _, H, I, rfl, q⟩, fun {E Q} q => SeqAt.notIn_list_data q2 q1 ok.2.1 ok.1 ?_ ⟨.bl _, H, I, rfl, q⟩⟩ <;> (have := ok.2.2; omega)
    · cases e
  · split at e
    · rename_i ok
      cases e
      have pl : (PyData.tuple ‹_›).plain = true := by unfold PyData.plain; exact ok.2.1
      obtain ⟨as, q1⟩ := Dp.reads I _ x v (r1.dp ok.1) rx
      obtain ⟨bs, q2⟩ := Dp.reads I _ y u (r2.dp pl) ry
      refine ⟨fun {E Q} q => SeqAt.in_tuple_data q2 q1 ok.2.1 ok.1 ?_ ⟨.bl _, H, I, rfl, q⟩, fun {E Q} q => SeqAt.notIn_tuple_data q2 q1 ok.2.1 ok.1 ?_ ⟨.bl _, H, I, rfl, q⟩⟩ <;> (have := ok.2.2; omega)
    · cases e
  · cases e
    exact ⟨fun {E Q} q => op_in_str pins s σ H x y v u Q I rx ry ⟨_, _, r1.str, r2.str, q⟩, fun {E Q} q => op_notin_str pins s σ H x y v u Q I rx ry ⟨_, _, r1.str, r2.str, q⟩⟩
  · cases e
theorem o_in (hu : X.A.units + 64 < cLine) : OpR X (compareOp .In) (rD X.K opIn) := by
  intro pins s σ H x y v u Q I rx ry q
  obtain ⟨S, d1, d2, d, al, r1, r2, e, q⟩ := q
  unfold opIn at e
  obtain ⟨r, e1, rfl⟩ := Option.map_eq_some_iff.mp e
  exact (inD_run I hu rx ry r1 r2 e1).1 (E := X.xe) (q _ S H (Gw.refl al) (.bl _))
theorem o_notIn (hu : X.A.units + 64 < cLine) : OpR X (compareOp .NotIn) (rD X.K opNotIn) := by
  intro pins s σ H x y v u Q I rx ry q
  obtain ⟨S, d1, d2, d, al, r1, r2, e, q⟩ := q
  unfold opNotIn at e
  obtain ⟨r, e1, rfl⟩ := Option.map_eq_some_iff.mp e
  exact (inD_run I hu rx ry r1 r2 e1).2 (E := X.xe) (q _ S H (Gw.refl al) (.bl _))
end
end PyI

/-! PyI, part H: items, slices, displays, the calls of built-ins. -/
namespace PyI
open PySem PySem.Spec L2

/-! ### a[b] -/
/-- a data key, by the values -/
def keyOf? : PyData → Option Key
  | .int i => some (.inl i)
  | .str x => some (.inr x)
  | _ => none
theorem keyOf_keyD {d : PyData} {k : Key} (h : keyOf? d = some k) : d = keyD k := by
  cases d <;> cases h <;> rfl
theorem Rdb.key {K : PySem.W.Frag} {S : Addr → Prop} {H : Hp} {v : V} {d : PyData} {k : Key} (r : Rdb K S H v d) (h : keyOf? d = some k) : v = kV k := by
  cases d <;> cases h
  · exact r.int
  · exact r.str
def opIx : PyData → PyData → Option PyData
  | .list ds, .int i => atI ds i
  | .tuple ds, .int i => atI ds i
  | .str z, .int i => if z.length ≤ sizeLine then (atI z.cps.toList i).map fun c => .str ⟨#[c]⟩ else none
  | .dict kvs, k => match keyOf? k with
    | some k => lookD (keyD k) kvs
    | none => none
  | _, _ => none
theorem atI_rp {K : PySem.W.Frag} {S : Addr → Prop} {H : Hp} {vs : List V} {ds : List PyData} {i : Int} {d : PyData} (r : RpL K S H vs ds) (e : atI ds i = some d) : ∃ v, atI vs i = some v ∧ Rp K S H v d := by
  unfold atI at e ⊢
  rw [r.len]
  cases h : ixN ds.length i with
  | none => rw [h] at e; cases e
  | some j =>
    rw [h] at e
    exact r.get e
section
variable {X : Cx}
theorem DGet.of {H : Hp} {a : Addr} {ts : List (Key × V)} {k : Key} (e : Rd H a (.dK ts)) : DGet H a (kV k) (valV ts k) := .inl ⟨ts, k, e, rfl, rfl⟩
theorem ix_data (hu : X.A.units + 64 < cLine) : IxR X (rDi X.K opIx) := by
  intro value slice pins s σ H x y v u Q I rx ry h hs
  obtain ⟨S, d1, d2, d, al, r1, r2, e, q⟩ := h
  unfold opIx at e
  split at e
  · obtain ⟨a, vs, rfl, h1, p1⟩ := r1.lst
    obtain ⟨w, e1, e2⟩ := atI_rp p1 e
    exact ix_list value slice pins s σ H _ _ v u Q I rx ry ⟨a, vs, _, w, rfl, r2.int, SqL.of h1, e1, q w S H (Gw.refl al) e2⟩ hs
  · obtain ⟨a, vs, rfl, h1, p1⟩ := r1.tup
    obtain ⟨w, e1, e2⟩ := atI_rp p1 e
    exact ix_tup value slice pins s σ H _ _ v u Q I rx ry ⟨a, vs, _, w, rfl, r2.int, h1.sq, e1, q w S H (Gw.refl al) e2⟩ hs
  · split at e
    · rename_i hz
      obtain ⟨c, e1, rfl⟩ := Option.map_eq_some_iff.mp e
      exact ix_str value slice pins s σ H _ _ v u Q I rx ry ⟨_, _, c, r1.str, r2.int, hz, e1, q _ S H (Gw.refl al) (.str _)⟩ hs
    · cases e
  · split at e
    · rename_i k hk
      obtain ⟨a, ts, rfl, h1, p1, p2⟩ := r1.dct
      obtain rfl := r2.key hk
      rcases look_of k p1 p2 with ⟨n1, n2⟩ | ⟨w, d', n1, n2, n3⟩
      · rw [n2] at e; cases e
      · rw [n2] at e
        cases e
        have g : DGet H a (kV k) (some w) := by rw [← n1]; exact DGet.of h1
        obtain rfl : v = Value.ref a := rx
        exact PyProof.Rows.tail_any (dict_typeIs I g) PySem.F.slot_dict_getitem.lookup (d_getItem (by omega) I g ry fun w' s3 I3 rw' => ⟨w, H, I3, rw', q w S H (Gw.refl al) n3⟩) hs
    · cases e
  · cases e

/-! ### k in d -/
def inKD : PyData → PyData → Option Bool
  | k, .dict kvs => match keyOf? k with
    | some k => some (lookD (keyD k) kvs).isSome
    | none => none
  | _, _ => none
def anyIn (a b : PyData) : Option Bool := match b with
  | .dict _ => inKD a b
  | _ => inD a b
def opInA (a b : PyData) : Option PyData := (anyIn a b).map .bool
def opNotInA (a b : PyData) : Option PyData := (anyIn a b).map fun b => .bool (!b)
theorem inKD_run {pins : List (Addr × Obj)} {s : Shared} {σ : L2.St} {H : Hp} {S : Addr → Prop} {x y : V} {v u : Value} {a b : PyData} {r : Bool} (I : Inv X pins σ H s) (hu : X.A.units + 64 < cLine) (rx : RelV x v) (ry : RelV y u) (r1 : Rdb X.K S H x a) (r2 : Rdb X.K S H y b) (e : inKD a b = some r) :
    (∀ {E : Value → Shared → Prop} {Q : VK}, Q (.bl r) H → wpAny (model X.prog X.w) X.A (compareOp .In v u) (EP X pins σ Q) X.xe s) ∧ ∀ {E : Value → Shared → Prop} {Q : VK}, Q (.bl (!r)) H → wpAny (model X.prog X.w) X.A (compareOp .NotIn v u) (EP X pins σ Q) X.xe s := by
  unfold inKD at e
  split at e
  · split at e
    · rename_i k hk
      cases e
      obtain ⟨p, ts, rfl, h1, p1, p2⟩ := r2.dct
      obtain rfl := r1.key hk
      obtain rfl : u = Value.ref p := ry
      have g : DGet H p (kV k) (valV ts k) := DGet.of h1
      have er : (lookD (keyD k) ‹_›).isSome = (valV ts k).isSome := by
        rcases look_of k p1 p2 with ⟨n1, n2⟩ | ⟨w, d', n1, n2, n3⟩ <;> rw [n1, n2] <;> rfl
      rw [er]
      exact ⟨fun {E Q} q => d_in (by omega) I g rx fun s3 I3 => ⟨.bl _, H, I3, rfl, q⟩, fun {E Q} q => d_notIn (by omega) I g rx fun s3 I3 => ⟨.bl _, H, I3, rfl, q⟩⟩
    · cases e
  · cases e
theorem anyIn_run {pins : List (Addr × Obj)} {s : Shared} {σ : L2.St} {H : Hp} {S : Addr → Prop} {x y : V} {v u : Value} {a b : PyData} {r : Bool} (I : Inv X pins σ H s) (hu : X.A.units + 64 < cLine) (rx : RelV x v) (ry : RelV y u) (r1 : Rdb X.K S H x a) (r2 : Rdb X.K S H y b) (e : anyIn a b = some r) :
    (∀ {E : Value → Shared → Prop} {Q : VK}, Q (.bl r) H → wpAny (model X.prog X.w) X.A (compareOp .In v u) (EP X pins σ Q) X.xe s) ∧ ∀ {E : Value → Shared → Prop} {Q : VK}, Q (.bl (!r)) H → wpAny (model X.prog X.w) X.A (compareOp .NotIn v u) (EP X pins σ Q) X.xe s := by
  unfold anyIn at e
  split at e
  · exact inKD_run I hu rx ry r1 r2 e
  · exact inD_run I hu rx ry r1 r2 e
theorem o_inA (hu : X.A.units + 64 < cLine) : OpR X (compareOp .In) (rD X.K opInA) := by
  intro pins s σ H x y v u Q I rx ry q
  obtain ⟨S, d1, d2, d, al, r1, r2, e, q⟩ := q
  unfold opInA at e
  obtain ⟨r, e1, rfl⟩ := Option.map_eq_some_iff.mp e
  exact (anyIn_run I hu rx ry r1 r2 e1).1 (E := X.xe) (q _ S H (Gw.refl al) (.bl _))
theorem o_notInA (hu : X.A.units + 64 < cLine) : OpR X (compareOp .NotIn) (rD X.K opNotInA) := by
  intro pins s σ H x y v u Q I rx ry q
  obtain ⟨S, d1, d2, d, al, r1, r2, e, q⟩ := q
  unfold opNotInA at e
  obtain ⟨r, e1, rfl⟩ := Option.map_eq_some_iff.mp e
  exact (anyIn_run I hu rx ry r1 r2 e1).2 (E := X.xe) (q _ S H (Gw.refl al) (.bl _))
end

/-! ### (..), [..], {} -/
def lenOk {α : Type} (l : List α) : Bool := decide (l.length ≤ sizeLine)
theorem lenOk_le {α : Type} {l : List α} (h : lenOk l = true) : l.length ≤ sizeLine := of_decide_eq_true h
def xTup (g : Mo (List Rs)) : Mo Rs := bindM g fun rs => bindM (keepL rs) fun ds => if lenOk ds = true then retM (.kept (.tuple ds)) else fun _ => none
def xLst (g : Mo (List Rs)) : Mo Rs := bindM g fun rs => bindM (keepL rs) fun ds => if lenOk ds = true then retM (.fresh (.list ds)) else fun _ => none
def xDict0 : Mo Rs := retM (.fresh (.dict []))
section
variable {X : Cx} {es : List Expr} {g : Mo (List Rs)} {pos : Pos}
theorem pd_tup {x1} (h : AD X es g) : PD X (.Tuple es x1 pos) (xTup g) := PE.to (pe_tupN h) fun σ H Q hq => by
  obtain ⟨S, ρ, r, ρ', G, e, q⟩ := hq
  obtain ⟨rs, ρ1, e1, e2⟩ := bindM_some e
  obtain ⟨ds, ρ2, e3, e4⟩ := bindM_some e2
  split at e4
  · rename_i hz
    cases retM_some e4
    refine ⟨S, ρ, rs, ρ1, G, e1, fun vs S1 H1 F1 G1 R1 => ?_⟩
    obtain ⟨S2, n2, p2, sh2⟩ := RRLw.keep rs ⟨G, F1, G1⟩ R1.w e3
    refine ⟨by rw [p2.len]; exact lenOk_le hz, fun p o hp ho => ?_⟩
    have gw := Gw.layS (o := .frz o (.tup vs)) n2.g.al hp
    exact q _ _ _ (n2.grow gw).f (n2.grow gw).g (lay_tupN n2.g.al p2 hp ho)
  · cases e4
theorem pd_lst (h : AD X es g) : PD X (.List es pos) (xLst g) := PE.to (pe_lst h) fun σ H Q hq => by
  obtain ⟨S, ρ, r, ρ', G, e, q⟩ := hq
  obtain ⟨rs, ρ1, e1, e2⟩ := bindM_some e
  obtain ⟨ds, ρ2, e3, e4⟩ := bindM_some e2
  split at e4
  · rename_i hz
    cases retM_some e4
    refine ⟨S, ρ, rs, ρ1, G, e1, fun vs S1 H1 F1 G1 R1 => ?_⟩
    obtain ⟨S2, n2, p2, sh2⟩ := RRLw.keep rs ⟨G, F1, G1⟩ R1.w e3
    refine ⟨by rw [p2.len]; exact lenOk_le hz, fun p hp => ?_⟩
    have gw := Gw.lay (o := .lst vs) n2.g.al hp
    exact q _ _ _ (n2.grow gw).f (n2.grow gw).g (lay_lst n2.g.al p2 hp (n2.none0 hp))
  · cases e4
theorem pd_dict0 : PD X (.Dict [] [] pos) xDict0 := PE.to pe_dnewK fun σ H Q hq => by
  obtain ⟨S, ρ, r, ρ', G, e, q⟩ := hq
  cases retM_some e
  intro p hp
  have gw := Gw.lay (o := .dK []) G.al hp
  exact q _ _ _ gw.fr (G.ext gw) ⟨p, rfl, hp, fun z => G.al p z hp, [], upd_same, rfl, .nil⟩
end

/-! ### the calls of built-ins -/
inductive RdbL (K : PySem.W.Frag) (S : Addr → Prop) (H : Hp) : List V → List PyData → Prop
  | nil : RdbL K S H [] []
  | cons {v : V} {vs : List V} {d : PyData} {ds : List PyData} : Rdb K S H v d → RdbL K S H vs ds → RdbL K S H (v :: vs) (d :: ds)
def rdL : List Rs → Mo (List PyData)
  | [] => retM []
  | r :: rs => bindM (rdR r) fun d => bindM (rdL rs) fun ds => retM (d :: ds)
theorem rdL_ok {K : PySem.W.Frag} {H0 H : Hp} {S : Addr → Prop} {ρ : Rho} {σ : L2.St} (g : Gd K S ρ σ H) : ∀ {rs : List Rs} {vs : List V} {ds : List PyData} {ρ' : Rho}, RRL K H0 S H ρ σ vs rs → rdL rs ρ = some (ds, ρ') → RdbL K S H vs ds ∧ ρ' = ρ
  | [], _, _, _, .nil, e => by cases retM_some e; exact ⟨.nil, rfl⟩
  | r :: rs, _, _, _, .cons h t, e => by
    obtain ⟨d, ρ1, e1, e2⟩ := bindM_some e
    obtain ⟨ds, ρ2, e3, e4⟩ := bindM_some e2
    cases retM_some e4
    obtain ⟨q1, rfl⟩ := h.rd g e1
    obtain ⟨q2, rfl⟩ := rdL_ok g t e3
    exact ⟨.cons q1 q2, rfl⟩
def rB (K : PySem.W.Frag) (op : List PyData → Option PyData) : List V → Hp → VK → Prop := fun xs H Q => ∃ S ds d, (∀ a, S a → H a ≠ none) ∧ RdbL K S H xs ds ∧ op ds = some d ∧ ∀ v S' H', Gw S H S' H' → RR K H S' H' [] [] v (resN d) → Q v H'
def xB (op : List PyData → Option PyData) (g : Mo (List Rs)) : Mo Rs := bindM g fun rs => bindM (rdL rs) fun ds => bindM (optM (op ds)) fun d => retM (resN d)
section
variable {X : Cx} {op : List PyData → Option PyData} {g : Mo (List Rs)} {id T : String} {x : Str} {p pos : Pos} {e : Expr} {es : List Expr}
theorem xB_ok {K : PySem.W.Frag} {σ : L2.St} {H : Hp} {Q : VK} (h : tD K (xB op g) σ H Q) : tCB (rB K op) (tA K g) σ H Q := by
  obtain ⟨S, ρ, r, ρ', G, e, q⟩ := h
  obtain ⟨rs, ρ1, e1, e2⟩ := bindM_some e
  obtain ⟨ds, ρ2, e3, e4⟩ := bindM_some e2
  obtain ⟨d, ρ3, e5, e6⟩ := bindM_some e4
  obtain ⟨b1, b2⟩ := optM_some e5
  simp only at b1 b2
  cases retM_some e6
  refine ⟨S, ρ, rs, ρ1, G, e1, fun vs S1 H1 F1 G1 R1 => ?_⟩
  obtain ⟨r1, rfl⟩ := rdL_ok G1 R1 e3
  subst b2
  have n1 : Now K σ S ρ H S1 ρ' H1 := ⟨G, F1, G1⟩
  refine ⟨S1, ds, d, G1.al, r1, b1, fun v S3 H3 E R => ?_⟩
  exact q v S3 H3 (n1.grow E).f (n1.grow E).g ((RR.new R : RR K H1 S3 H3 ρ' σ v (resN d)).pre n1)
theorem pd_callB (hc : CallR X (.builtin id) (rB X.K op)) (hg : Gl X x) (hm : X.mg x = none) (hv : bootBuiltins x = some (.builtin id)) (ha : AD X (e :: es) g) (hn : x ≠ "__name__" := by decide) (hdb : (x == ("__debug__" : Str)) = false := by decide)
    (he : starEach (e :: es) X.env = (false, eval e X.env) :: starEach es X.env := by rfl) (hpl : (backTo pos (starEach es X.env)).any (·.1) = false := by rfl) : PD X (.Call (.Name x p) (e :: es) [] pos) (xB op g) :=
  PE.to (pe_callB hc hg hm hv ha hn hdb he hpl) fun _ _ _ h => xB_ok h
theorem pd_callTy (hc : CallR X (.type T) (rB X.K op)) (hg : Gl X x) (hm : X.mg x = none) (hv : bootBuiltins x = some (.type T)) (ha : AD X (e :: es) g) (hn : x ≠ "__name__" := by decide) (hdb : (x == ("__debug__" : Str)) = false := by decide)
    (he : starEach (e :: es) X.env = (false, eval e X.env) :: starEach es X.env := by rfl) (hpl : (backTo pos (starEach es X.env)).any (·.1) = false := by rfl) : PD X (.Call (.Name x p) (e :: es) [] pos) (xB op g) :=
  PE.to (pe_callTy hc hg hm hv ha hn hdb he hpl) fun _ _ _ h => xB_ok h
end
def oLen : List PyData → Option PyData
  | [.list ds] => some (.int ds.length)
  | [.tuple ds] => some (.int ds.length)
  | [.dict kvs] => some (.int kvs.length)
  | [.str z] => if z.length ≤ sizeLine then some (.int z.length) else none
  | _ => none
def oInt : List PyData → Option PyData
  | [.int i] => some (.int i)
  | [.bool b] => some (.int (if b then 1 else 0))
  | _ => none
def oStr : List PyData → Option PyData
  | [.int i] => if i.natAbs.log2 < 1920 then some (.str (toString i)) else none
  | _ => none
def oList : List PyData → Option PyData
  | [.list ds] => some (.list ds)
  | [.tuple ds] => some (.list ds)
  | _ => none
def oTuple : List PyData → Option PyData
  | [.list ds] => some (.tuple ds)
  | [.tuple ds] => some (.tuple ds)
  | _ => none
def oDict : List PyData → Option PyData
  | [.dict kvs] => some (.dict kvs)
  | _ => none
def oAbs : List PyData → Option PyData
  | [.int i] => some (.int (if i < 0 then -i else i))
  | _ => none
def oMin2 : List PyData → Option PyData
  | [.int i, .int j] => some (.int (if j < i then j else i))
  | _ => none
def oMax2 : List PyData → Option PyData
  | [.int i, .int j] => some (.int (if j > i then j else i))
  | _ => none
section
variable {X : Cx}
theorem RdbL.one {K : PySem.W.Frag} {S : Addr → Prop} {H : Hp} {vs : List V} {d : PyData} (h : RdbL K S H vs [d]) : ∃ v, vs = [v] ∧ Rdb K S H v d := by
  cases h with
  | cons h t => cases t; exact ⟨_, rfl, h⟩
theorem RdbL.two {K : PySem.W.Frag} {S : Addr → Prop} {H : Hp} {vs : List V} {d e : PyData} (h : RdbL K S H vs [d, e]) : ∃ v w, vs = [v, w] ∧ Rdb K S H v d ∧ Rdb K S H w e := by
  cases h with
  | cons h t =>
    obtain ⟨w, rfl, r⟩ := t.one
    exact ⟨_, w, rfl, h, r⟩
theorem b_len : CallR X (.builtin "len") (rB X.K oLen) := by
  intro pins s σ H xs us Q I r h
  obtain ⟨S, ds, d, al, rs, e, q⟩ := h
  unfold oLen at e
  split at e
  · cases e
    obtain ⟨v, rfl, r1⟩ := rs.one
    obtain ⟨a, vs, rfl, h1, p1⟩ := r1.lst
    refine call_len_seq pins s σ H _ us Q I r ⟨a, vs, rfl, .inl (SqL.of h1), ?_⟩
    rw [p1.len]
    exact q _ S H (Gw.refl al) (.int _)
  · cases e
    obtain ⟨v, rfl, r1⟩ := rs.one
    obtain ⟨a, vs, rfl, h1, p1⟩ := r1.tup
    refine call_len_seq pins s σ H _ us Q I r ⟨a, vs, rfl, .inr h1.sq, ?_⟩
    rw [p1.len]
    exact q _ S H (Gw.refl al) (.int _)
  · rename_i kvs
    cases e
    obtain ⟨v, rfl, r1⟩ := rs.one
    obtain ⟨a, ts, rfl, h1, p1, p2⟩ := r1.dct
    rw [Vals.ref1 r]
    have hl : ts.length = kvs.length := by have := congrArg List.length p1; simpa using this.symm
    exact d_len I h1 fun t s3 I3 => ⟨.int ts.length, H, I3, ⟨t, rfl⟩, by rw [hl]; exact q _ S H (Gw.refl al) (.int _)⟩
  · split at e
    · rename_i hz
      cases e
      obtain ⟨v, rfl, r1⟩ := rs.one
      obtain rfl := r1.str
      exact call_len_str pins s σ H _ us Q I r ⟨_, rfl, hz, q _ S H (Gw.refl al) (.int _)⟩
    · cases e
  · cases e
theorem b_int : CallR X (.type "int") (rB X.K oInt) := by
  intro pins s σ H xs us Q I r h
  obtain ⟨S, ds, d, al, rs, e, q⟩ := h
  unfold oInt at e
  split at e
  · cases e
    obtain ⟨v, rfl, r1⟩ := rs.one
    obtain rfl := r1.int
    exact call_int1 pins s σ H _ us Q I r (.inl ⟨_, rfl, q _ S H (Gw.refl al) (.int _)⟩)
  · cases e
    obtain ⟨v, rfl, r1⟩ := rs.one
    obtain rfl := r1.bl
    exact call_int1 pins s σ H _ us Q I r (.inr ⟨_, rfl, q _ S H (Gw.refl al) (.int _)⟩)
  · cases e
theorem b_str : CallR X (.type "str") (rB X.K oStr) := by
  intro pins s σ H xs us Q I r h
  obtain ⟨S, ds, d, al, rs, e, q⟩ := h
  unfold oStr at e
  split at e
  · split at e
    · rename_i hz
      cases e
      obtain ⟨v, rfl, r1⟩ := rs.one
      obtain rfl := r1.int
      exact call_str_int pins s σ H _ us Q I r ⟨_, rfl, hz, q _ S H (Gw.refl al) (.str _)⟩
    · cases e
  · cases e
theorem b_list : CallR X (.type "list") (rB X.K oList) := by
  intro pins s σ H xs us Q I r h
  obtain ⟨S, ds, d, al, rs, e, q⟩ := h
  unfold oList at e
  split at e
  · cases e
    obtain ⟨v, rfl, r1⟩ := rs.one
    obtain ⟨a, vs, rfl, h1, p1⟩ := r1.lst
    exact call_list_of pins s σ H _ us Q I r ⟨a, vs, rfl, .inl (SqL.of h1), fun p hp => q _ S _ (Gw.lay al hp) (lay_lst al p1 hp hp)⟩
  · cases e
    obtain ⟨v, rfl, r1⟩ := rs.one
    obtain ⟨a, vs, rfl, h1, p1⟩ := r1.tup
    exact call_list_of pins s σ H _ us Q I r ⟨a, vs, rfl, .inr h1.sq, fun p hp => q _ S _ (Gw.lay al hp) (lay_lst al p1 hp hp)⟩
  · cases e
theorem b_tuple : CallR X (.type "tuple") (rB X.K oTuple) := by
  intro pins s σ H xs us Q I r h
  obtain ⟨S, ds, d, al, rs, e, q⟩ := h
  unfold oTuple at e
  split at e
  · cases e
    obtain ⟨v, rfl, r1⟩ := rs.one
    obtain ⟨a, vs, rfl, h1, p1⟩ := r1.lst
    exact call_tupN pins s σ H _ us Q I r ⟨a, vs, rfl, .inl ⟨SqL.of h1, fun p o hp ho => q _ _ _ (Gw.layS al hp) (lay_tupN al p1 hp ho)⟩⟩
  · cases e
    obtain ⟨v, rfl, r1⟩ := rs.one
    obtain ⟨a, vs, rfl, h1, p1, l1⟩ := r1.tupP
    exact call_tupN pins s σ H _ us Q I r ⟨a, vs, rfl, .inr ⟨h1.sq, q _ S H (Gw.refl al) (.tup h1 p1 l1)⟩⟩
  · cases e
theorem b_dict : CallR X (.type "dict") (rB X.K oDict) := by
  intro pins s σ H xs us Q I r h
  obtain ⟨S, ds, d, al, rs, e, q⟩ := h
  unfold oDict at e
  split at e
  · cases e
    obtain ⟨v, rfl, r1⟩ := rs.one
    obtain ⟨a, ts, rfl, h1, p1, p2⟩ := r1.dct
    exact call_dictD pins s σ H _ us Q I r ⟨a, ts, rfl, h1, fun p hp => q _ S _ (Gw.lay al hp) ⟨p, rfl, hp, fun z => al p z hp, ts, upd_same, p1, p2.up (Gw.lay al hp).up⟩⟩
  · cases e
theorem b_abs : CallR X (.builtin "abs") (rB X.K oAbs) := by
  intro pins s σ H xs us Q I r h
  obtain ⟨S, ds, d, al, rs, e, q⟩ := h
  unfold oAbs at e
  split at e
  · cases e
    obtain ⟨v, rfl, r1⟩ := rs.one
    obtain rfl := r1.int
    exact call_abs pins s σ H _ us Q I r ⟨_, rfl, q _ S H (Gw.refl al) (.int _)⟩
  · cases e
theorem b_min2 (hc : X.calm = true) : CallR X (.builtin "min") (rB X.K oMin2) := by
  intro pins s σ H xs us Q I r h
  obtain ⟨S, ds, d, al, rs, e, q⟩ := h
  unfold oMin2 at e
  split at e
  · cases e
    obtain ⟨v, w, rfl, r1, r2⟩ := rs.two
    obtain rfl := r1.int
    obtain rfl := r2.int
    exact call_min2 hc pins s σ H _ us Q I r ⟨_, _, rfl, q _ S H (Gw.refl al) (.int _)⟩
  · cases e
theorem b_max2 (hc : X.calm = true) : CallR X (.builtin "max") (rB X.K oMax2) := by
  intro pins s σ H xs us Q I r h
  obtain ⟨S, ds, d, al, rs, e, q⟩ := h
  unfold oMax2 at e
  split at e
  · cases e
    obtain ⟨v, w, rfl, r1, r2⟩ := rs.two
    obtain rfl := r1.int
    obtain rfl := r2.int
    exact call_max2 hc pins s σ H _ us Q I r ⟨_, _, rfl, q _ S H (Gw.refl al) (.int _)⟩
  · cases e
end

/-! ### isinstance -/
def tyD : PyData → String
  | .none => "NoneType"
  | .bool _ => "bool"
  | .int _ => "int"
  | .str _ => "str"
  | .list _ => "list"
  | .tuple _ => "tuple"
  | .dict _ => "dict"
def isSub (t T : String) : Bool := t == T || (t == "bool" && T == "int")
def xIsi (T : String) (f : Mo Rs) : Mo Rs := bindM f fun r => bindM (rdR r) fun d => retM (.kept (.bool (isSub (tyD d) T)))
theorem Rd.tyx {K : PySem.W.Frag} {H : Hp} {a : Addr} {ts : List (Key × V)} (h : Rd H a (.dK ts)) : TyX K H (.ref a) (.type "dict") := by
  rcases h with h | ⟨o, h⟩
  · exact .base (.dK h)
  · exact .fDict h
theorem Rdb.tyx {K : PySem.W.Frag} {S : Addr → Prop} {H : Hp} {v : V} {d : PyData} (h : Rdb K S H v d) : TyX K H v (.type (tyD d)) := by
  rcases h with h | ⟨a, rfl, h⟩
  · cases h with
    | non => exact .base .non
    | bl b => exact .base (.bl b)
    | int i => exact .base (.int i)
    | str x => exact .base (.str x)
    | tup h r _ =>
      rcases h with ⟨_, h | ⟨o, h⟩⟩ | ⟨o, _, _, h1, h2, _⟩
      · exact .base (.tup h)
      · exact .fTuple h
      · exact .kTuple h1 h2
    | lst _ h _ => exact .base (.lst h)
    | dct _ h _ _ => exact Rd.tyx h
  · cases d with
    | list ds => obtain ⟨vs, h, _⟩ := h; exact .base (.lst h)
    | dict kvs => obtain ⟨ts, h, _⟩ := h; exact Rd.tyx h
    | _ => exact h.elim
/-- the answers of isinstance, for the types of data -/
structure Kit (K : PySem.W.Frag) (T : String) : Prop where
  ok : ∀ d : PyData, PySem.W.kitOne K (.type (tyD d)) (.type T) = some (isSub (tyD d) T)
section
variable {X : Cx} {f : Mo Rs} {e : Expr} {T : String} {x z : Str} {p p2 pos : Pos}
theorem pd_isi (k : Kit X.K T) (he : PD X e f) (hg : Gl X "isinstance") (hm : X.mg "isinstance" = none) (hg2 : Gl X z) (hm2 : X.mg z = none) (hv : bootBuiltins "isinstance" = some (.builtin "isinstance")) (hv2 : bootBuiltins z = some (.type T))
    (hn2 : z ≠ "__name__" := by decide) (hd2 : (z == ("__debug__" : Str)) = false := by decide) (h1 : starEach [e, .Name z p2] X.env = (false, eval e X.env) :: starEach [.Name z p2] X.env := by rfl) (hpl : (backTo pos (starEach [.Name z p2] X.env)).any (·.1) = false := by rfl) :
    PD X (.Call (.Name "isinstance" p) [e, .Name z p2] [] pos) (xIsi T f) :=
  PE.to (pe_callB call_isi hg hm hv (pa_cons he (pa_cons (pe_bltn hg2 hm2 hv2 (v := .ty T) rfl hn2 hd2) pa_nil) h1) (he := h1) (hpl := hpl)) fun σ H Q h => by
    obtain ⟨S, ρ, r, ρ', G, e, q⟩ := h
    obtain ⟨r1, ρ1, e1, e2⟩ := bindM_some e
    obtain ⟨d, ρ2, e3, e4⟩ := bindM_some e2
    cases retM_some e4
    refine ⟨S, ρ, r1, ρ1, G, e1, fun v S1 H1 F1 G1 R1 => ?_⟩
    obtain ⟨rd, rfl⟩ := R1.rd G1 e3
    exact ⟨v, .ty T, .type (tyD d), .type T, _, rfl, .ty T, rd.tyx, k.ok d, q _ S1 H1 F1 G1 (.bl _)⟩
end

/-! ### a[lo:hi] -/
def cutD {α : Type} (xs : List α) (lo hi : Option Int) : List α := (xs.drop (HT.sIx xs.length 0 lo)).take (HT.sIx xs.length xs.length hi - HT.sIx xs.length 0 lo)
def opSl (d : PyData) (lo hi : Option Int) : Option PyData := match d with
  | .list ds => some (.list (cutD ds lo hi))
  | .tuple ds => some (.tuple (cutD ds lo hi))
  | .str z => if z.length ≤ sizeLine then some (.str (cutS z lo hi)) else none
  | _ => none
theorem RpL.cut {K : PySem.W.Frag} {S : Addr → Prop} {H : Hp} {vs : List V} {ds : List PyData} (r : RpL K S H vs ds) (lo hi : Option Int) : RpL K S H (cutV vs lo hi) (cutD ds lo hi) := by
  unfold cutV cutD
  rw [r.len]
  exact (r.drop _).take _
/-- a part of a slice -/
def tO (K : PySem.W.Frag) (f : Mo (Option Int)) : TO := fun σ H Q => ∃ S ρ o ρ', Gd K S ρ σ H ∧ f ρ = some (o, ρ') ∧ ∀ S' H', Fm S ρ σ H S' ρ' H' → Gd K S' ρ' σ H' → Q o H'
abbrev OD (X : Cx) (e : Option Expr) (f : Mo (Option Int)) : Prop := PO X e (tO X.K f)
def oN : Mo (Option Int) := retM none
def intD : PyData → Option Int
  | .int i => some i
  | _ => none
def oS (f : Mo Rs) : Mo (Option Int) := bindM f fun r => bindM (rdR r) fun d => bindM (optM (intD d)) fun i => retM (some i)
def xSl (f : Mo Rs) (lo hi : Mo (Option Int)) : Mo Rs := bindM f fun r => bindM lo fun l => bindM hi fun h => bindM (rdR r) fun d => bindM (optM (opSl d l h)) fun d' => retM (resN d')
theorem PO.to {X : Cx} {e : Option Expr} {t t' : TO} (h : PO X e t) (i : ∀ σ H Q, t' σ H Q → t σ H Q) : PO X e t' := ⟨fun pins s σ H Q I q => h.run pins s σ H Q I (i σ H Q q)⟩
section
variable {X : Cx} {f : Mo Rs} {e : Expr} {lo hi : Option Expr} {gl gh : Mo (Option Int)} {p2 pos : Pos}
theorem od_none : OD X none oN := PO.to po_none fun σ H Q h => by
  obtain ⟨S, ρ, r, ρ', G, e, q⟩ := h
  cases retM_some e
  exact q S H Fm.refl G
theorem od_some (h : PD X e f) : OD X (some e) (oS f) := PO.to (po_some h) fun σ H Q h => by
  obtain ⟨S, ρ, o, ρ', G, e, q⟩ := h
  obtain ⟨r1, ρ1, e1, e2⟩ := bindM_some e
  obtain ⟨d, ρ2, e3, e4⟩ := bindM_some e2
  obtain ⟨i, ρ3, e5, e6⟩ := bindM_some e4
  cases retM_some e6
  obtain ⟨b1, b2⟩ := optM_some e5
  simp only at b1 b2
  refine ⟨S, ρ, r1, ρ1, G, e1, fun v S1 H1 F1 G1 R1 => ?_⟩
  obtain ⟨rd, rfl⟩ := R1.rd G1 e3
  subst b2
  cases d with
  | int j => cases b1; exact ⟨i, rd.int, q S1 H1 F1 G1⟩
  | _ => cases b1
def rSlD (K : PySem.W.Frag) : V → Option Int → Option Int → Hp → VK → Prop := fun x lo hi H Q => ∃ S d d', (∀ a, S a → H a ≠ none) ∧ Rdb K S H x d ∧ opSl d lo hi = some d' ∧ ∀ v S' H', Gw S H S' H' → RR K H S' H' [] [] v (resN d') → Q v H'
theorem sl_data : SlR X (rSlD X.K) := by
  intro pins s σ H x v vl vu lo hi sl Q I rx hs pl pu h
  obtain ⟨S, d, d', al, r1, e, q⟩ := h
  unfold opSl at e
  split at e
  · cases e
    obtain ⟨a, vs, rfl, h1, p1⟩ := r1.lst
    exact sl_list pins s σ H _ v vl vu lo hi sl Q I rx hs pl pu ⟨a, vs, rfl, SqL.of h1, fun p hp => q _ S _ (Gw.lay al hp) (lay_lst al (p1.cut lo hi) hp hp)⟩
  · cases e
    obtain ⟨a, vs, rfl, h1, p1, l1⟩ := r1.tupP
    refine sl_tupN pins s σ H _ v vl vu lo hi sl Q I rx hs pl pu ⟨a, vs, rfl, h1.sq, fun ⟨z1, z2⟩ => ?_, fun _ p o hp ho => q _ _ _ (Gw.layS al hp) (lay_tupN al (p1.cut lo hi) hp ho)⟩
    have ec : cutV vs lo hi = vs := by
      unfold cutV
      rw [z1, z2]
      simp
    have key : ∀ dl : List PyData, RpL X.K S H vs dl → (pairsB dl = true → PlT S H a vs) → Rp X.K S H (.ref a) (.tuple (cutD dl lo hi)) := fun dl p1 l1 => by
      have ed : cutD dl lo hi = dl := by
        unfold cutD
        rw [← p1.len, z1, z2, p1.len]
        simp
      rw [ed]
      exact .tup h1 p1 l1
    exact q _ S H (Gw.refl al) (key _ p1 l1)
  · split at e
    · rename_i hz
      cases e
      obtain rfl := r1.str
      exact sl_str pins s σ H _ v vl vu lo hi sl Q I rx hs pl pu ⟨_, rfl, hz, q _ S H (Gw.refl al) (.str _)⟩
    · cases e
  · cases e
theorem pd_sl (he : PD X e f) (hl : OD X lo gl) (hh : OD X hi gh) : PD X (.Subscript e (.Slice lo hi none p2) pos) (xSl f gl gh) := PE.to (pe_slice sl_data he hl hh) fun σ H Q h => by
  obtain ⟨S, ρ, r, ρ', G, e, q⟩ := h
  obtain ⟨r1, ρ1, e1, a1⟩ := bindM_some e
  obtain ⟨l, ρ2, e2, a2⟩ := bindM_some a1
  obtain ⟨u, ρ3, e3, a3⟩ := bindM_some a2
  obtain ⟨d, ρ4, e4, a4⟩ := bindM_some a3
  obtain ⟨d', ρ5, e5, a5⟩ := bindM_some a4
  obtain ⟨b1, b2⟩ := optM_some e5
  simp only at b1 b2
  cases retM_some a5
  obtain rfl := rdR_same e4
  subst b2
  refine ⟨S, ρ, r1, ρ1, G, e1, fun v S1 H1 F1 G1 R1 => ⟨S1, ρ1, l, ρ2, G1, e2, fun S2 H2 F2 G2 => ⟨S2, ρ2, u, ρ', G2, e3, fun S3 H3 F3 G3 => ?_⟩⟩⟩
  have n1 : Now X.K σ S ρ H S1 ρ1 H1 := ⟨G, F1, G1⟩
  have n2 := n1.step F2 G2
  have n3 := n2.step F3 G3
  refine ⟨S3, d, d', G3.al, (((R1.fm n1 F2).fm n2 F3).rd G3 e4).1, b1, fun w S4 H4 E R => ?_⟩
  exact q w S4 H4 (n3.grow E).f (n3.grow E).g ((RR.new R : RR X.K H3 S4 H4 ρ' σ w (resN d')).pre n3)
end

/-! ### - x -/
def opNeg : PyData → Option PyData
  | .int i => some (.int (-i))
  | _ => none
def x1 (op : PyData → Option PyData) (f : Mo Rs) : Mo Rs := bindM f fun r => bindM (rdR r) fun d => bindM (optM (op d)) fun d' => retM (resN d')
section
variable {X : Cx} {f : Mo Rs} {e : Expr} {pos : Pos}
theorem pd_neg (he : PD X e f) : PD X (.UnaryOp .USub e pos) (x1 opNeg f) := PE.to (pe_un un_neg he) fun σ H Q h => by
  obtain ⟨S, ρ, r, ρ', G, e, q⟩ := h
  obtain ⟨r1, ρ1, e1, e2⟩ := bindM_some e
  obtain ⟨d, ρ2, e3, e4⟩ := bindM_some e2
  obtain ⟨i, ρ3, e5, e6⟩ := bindM_some e4
  obtain ⟨b1, b2⟩ := optM_some e5
  simp only at b1 b2
  cases retM_some e6
  refine ⟨S, ρ, r1, ρ1, G, e1, fun v S1 H1 F1 G1 R1 => ?_⟩
  obtain ⟨rd, rfl⟩ := R1.rd G1 e3
  subst b2
  cases d with
  | int j => cases b1; exact ⟨j, rd.int, q _ S1 H1 F1 G1 (.int _)⟩
  | _ => cases b1
end
end PyI

/-! PyI, part I: sorted, dict of pairs, range, stores, methods that change. -/
namespace PyI
open PySem PySem.Spec L2

/-! ### sorted -/
def leS (a b : Str) : Bool := !ltCps b.cps.toList a.cps.toList
def insS (x : Str) : List Str → List Str
  | [] => [x]
  | y :: r => if leS x y = true then x :: y :: r else y :: insS x r
def sortS : List Str → List Str
  | [] => []
  | x :: r => insS x (sortS r)
theorem leS_iff {a b : Str} : leS a b = true ↔ a.cps.toList ≤ b.cps.toList := by
  unfold leS
  rw [PyProof.Rows.ltCps_eq]
  simp
theorem leS_trans {a b c : Str} (h1 : leS a b = true) (h2 : leS b c = true) : leS a c = true := leS_iff.mpr (List.le_trans (leS_iff.mp h1) (leS_iff.mp h2))
theorem leS_total (a b : Str) : leS a b = true ∨ leS b a = true := (List.le_total a.cps.toList b.cps.toList).imp leS_iff.mpr leS_iff.mpr
theorem leS_antisymm {a b : Str} (h1 : leS a b = true) (h2 : leS b a = true) : a = b := by
  have := List.le_antisymm (leS_iff.mp h1) (leS_iff.mp h2)
  cases a with
  | mk a => cases b with
    | mk b => simp only at this; rw [Array.toList_inj.mp this]
theorem insS_perm (x : Str) : ∀ l, (insS x l).Perm (x :: l)
  | [] => .refl _
  | y :: r => by
    unfold insS
    split
    · exact .refl _
    · exact ((insS_perm x r).cons y).trans (.swap x y r)
theorem sortS_perm : ∀ l, (sortS l).Perm l
  | [] => .refl _
  | x :: r => (insS_perm x _).trans ((sortS_perm r).cons x)
theorem insS_sorted (x : Str) : ∀ {l : List Str}, l.Pairwise (fun a b => leS a b = true) → (insS x l).Pairwise fun a b => leS a b = true
  | [], _ => List.pairwise_singleton _ _
  | y :: r, h => by
    obtain ⟨h1, h2⟩ := List.pairwise_cons.mp h
    unfold insS
    split
    · rename_i hx
      refine List.pairwise_cons.mpr ⟨fun z hz => ?_, h⟩
      rcases List.mem_cons.mp hz with rfl | hz
      · exact hx
      · exact leS_trans hx (h1 z hz)
    · rename_i hx
      refine List.pairwise_cons.mpr ⟨fun z hz => ?_, insS_sorted x h2⟩
      rcases List.mem_cons.mp ((insS_perm x r).mem_iff.mp hz) with rfl | hz
      · exact (leS_total _ _).resolve_left hx
      · exact h1 z hz
theorem sortS_sorted : ∀ l, (sortS l).Pairwise fun a b => leS a b = true
  | [] => .nil
  | x :: r => insS_sorted x (sortS_sorted r)
theorem rising_pair : ∀ (l : List Str) (p : Str), PyProof.Rows.risingS p l = true → (p :: l).Pairwise fun a b => leS a b = true
  | [], p, _ => List.pairwise_singleton _ _
  | x :: r, p, h => by
    unfold PyProof.Rows.risingS at h
    rw [Bool.and_eq_true] at h
    have ih := rising_pair r x h.2
    obtain ⟨h1, h2⟩ := List.pairwise_cons.mp ih
    have hx : leS p x = true := h.1
    refine List.pairwise_cons.mpr ⟨fun z hz => ?_, ih⟩
    rcases List.mem_cons.mp hz with rfl | hz
    · exact hx
    · exact leS_trans hx (h1 z hz)
theorem sortS_of {l ys : List Str} (hp : ys.Perm l) (hs : PyProof.Rows.sortedS ys = true) : ys = sortS l := by
  have pw : ys.Pairwise fun a b => leS a b = true := by
    cases ys with
    | nil => exact .nil
    | cons x r => exact rising_pair r x hs
  exact List.Perm.eq_of_pairwise (fun a b _ _ h1 h2 => leS_antisymm h1 h2) pw (sortS_sorted l) (hp.trans (sortS_perm l).symm)
def insI (x : Int) : List Int → List Int
  | [] => [x]
  | y :: r => if x ≤ y then x :: y :: r else y :: insI x r
def sortI : List Int → List Int
  | [] => []
  | x :: r => insI x (sortI r)
theorem insI_perm (x : Int) : ∀ l, (insI x l).Perm (x :: l)
  | [] => .refl _
  | y :: r => by
    unfold insI
    split
    · exact .refl _
    · exact ((insI_perm x r).cons y).trans (.swap x y r)
theorem sortI_perm : ∀ l, (sortI l).Perm l
  | [] => .refl _
  | x :: r => (insI_perm x _).trans ((sortI_perm r).cons x)
theorem insI_sorted (x : Int) : ∀ {l : List Int}, l.Pairwise (· ≤ ·) → (insI x l).Pairwise (· ≤ ·)
  | [], _ => List.pairwise_singleton _ _
  | y :: r, h => by
    obtain ⟨h1, h2⟩ := List.pairwise_cons.mp h
    unfold insI
    split
    · rename_i hx
      refine List.pairwise_cons.mpr ⟨fun z hz => ?_, h⟩
      rcases List.mem_cons.mp hz with rfl | hz
      · exact hx
      · exact Int.le_trans hx (h1 z hz)
    · rename_i hx
      refine List.pairwise_cons.mpr ⟨fun z hz => ?_, insI_sorted x h2⟩
      rcases List.mem_cons.mp ((insI_perm x r).mem_iff.mp hz) with rfl | hz
      · omega
      · exact h1 z hz
theorem sortI_sorted : ∀ l, (sortI l).Pairwise (· ≤ ·)
  | [] => .nil
  | x :: r => insI_sorted x (sortI_sorted r)
theorem sortI_of {l ys : List Int} (hp : ys.Perm l) (hs : ys.Pairwise (· ≤ ·)) : ys = sortI l :=
  List.Perm.eq_of_pairwise (fun a b _ _ h1 h2 => Int.le_antisymm h1 h2) hs (sortI_sorted l) (hp.trans (sortI_perm l).symm)
def strsD : List PyData → Option (List Str)
  | [] => some []
  | .str x :: r => (strsD r).map (x :: ·)
  | _ :: _ => none
def intsD : List PyData → Option (List Int)
  | [] => some []
  | .int x :: r => (intsD r).map (x :: ·)
  | _ :: _ => none
theorem strsD_eq : ∀ {ds : List PyData} {xs : List Str}, strsD ds = some xs → ds = xs.map .str
  | [], _, e => by cases e; rfl
  | d :: r, xs, e => by
    cases d with
    | str x =>
      obtain ⟨l, e1, rfl⟩ := Option.map_eq_some_iff.mp e
      rw [strsD_eq e1]; rfl
    | _ => cases e
theorem intsD_eq : ∀ {ds : List PyData} {xs : List Int}, intsD ds = some xs → ds = xs.map .int
  | [], _, e => by cases e; rfl
  | d :: r, xs, e => by
    cases d with
    | int x =>
      obtain ⟨l, e1, rfl⟩ := Option.map_eq_some_iff.mp e
      rw [intsD_eq e1]; rfl
    | _ => cases e
theorem strsD_map : ∀ xs : List Str, strsD (xs.map .str) = some xs
  | [] => rfl
  | x :: r => by simp [strsD, strsD_map r]
theorem intsD_map : ∀ xs : List Int, intsD (xs.map .int) = some xs
  | [] => rfl
  | x :: r => by simp [intsD, intsD_map r]
theorem RpL.strs_eq {K : PySem.W.Frag} {S : Addr → Prop} {H : Hp} : ∀ {xs : List Str} {vs : List V}, RpL K S H vs (xs.map .str) → vs = xs.map V.str
  | [], _, .nil => rfl
  | x :: r, _, .cons h t => by
    cases h
    rw [RpL.strs_eq t]; rfl
theorem RpL.ints_eq {K : PySem.W.Frag} {S : Addr → Prop} {H : Hp} : ∀ {xs : List Int} {vs : List V}, RpL K S H vs (xs.map .int) → vs = xs.map V.int
  | [], _, .nil => rfl
  | x :: r, _, .cons h t => by
    cases h
    rw [RpL.ints_eq t]; rfl
def keysD (kvs : List (PyData × PyData)) : List PyData := kvs.map (·.1)
def oSorted : List PyData → Option PyData
  | [.list ds] => match strsD ds with
    | some xs => if xs.length < 64 then some (.list ((sortS xs).map .str)) else none
    | none => match intsD ds with
      | some xs => some (.list ((sortI xs).map .int))
      | none => none
  | [.dict kvs] => match strsD (keysD kvs) with
    | some xs => if xs.length < 64 then some (.list ((sortS xs).map .str)) else none
    | none => none
  | _ => none
section
variable {X : Cx}
theorem keyD_strs : ∀ {ts : List (Key × V)} {xs : List Str}, xs.map PyData.str = ts.map (fun p => keyD p.1) → ts.map (·.1) = xs.map Sum.inr
  | [], [], _ => rfl
  | [], _ :: _, e => by simp at e
  | _ :: _, [], e => by simp at e
  | (k, v) :: ts, x :: xs, e => by
    simp only [List.map_cons, List.cons.injEq] at e
    rw [List.map_cons, List.map_cons, keyD_strs e.2]
    cases k with
    | inl i => cases e.1
    | inr y => cases e.1; rfl
theorem b_sorted (hc : X.calm = true) : CallR X (.builtin "sorted") (rB X.K oSorted) := by
  intro pins s σ H xs us Q I r h
  obtain ⟨S, ds, d, al, rs, e, q⟩ := h
  unfold oSorted at e
  split at e
  · obtain ⟨v, rfl, r1⟩ := rs.one
    obtain ⟨a, vs, rfl, h1, p1⟩ := r1.lst
    split at e
    · rename_i xs hx
      split at e
      · rename_i hl
        cases e
        obtain rfl := strsD_eq hx
        obtain rfl := p1.strs_eq
        refine cr_sortedS pins s σ H _ us Q I r ⟨a, xs, rfl, SqL.of h1, hl, fun ys p hp hs hn => ?_⟩
        rw [sortS_of hp hs]
        exact q _ S _ (Gw.lay al hn) (lay_lst al (RpL.strs _) hn hn)
      · cases e
    · split at e
      · rename_i xs hx
        cases e
        obtain rfl := intsD_eq hx
        obtain rfl := p1.ints_eq
        refine cr_sortedI pins s σ H _ us Q I r ⟨a, xs, rfl, SqL.of h1, fun ys p hp hs hn => ?_⟩
        rw [sortI_of hp hs]
        exact q _ S _ (Gw.lay al hn) (lay_lst al (RpL.ints _) hn hn)
      · cases e
  · obtain ⟨v, rfl, r1⟩ := rs.one
    obtain ⟨a, ts, rfl, h1, p1, p2⟩ := r1.dct
    split at e
    · rename_i xs hx
      split at e
      · rename_i hl
        cases e
        have hk := keyD_strs ((strsD_eq hx).symm.trans p1)
        refine call_sortedD hc pins s σ H _ us Q I r ⟨a, ts, xs, rfl, h1, hk, hl, fun ys p hp hs hn => ?_⟩
        rw [sortS_of hp hs]
        exact q _ S _ (Gw.lay al hn) (lay_lst al (RpL.strs _) hn hn)
      · cases e
    · cases e
  · cases e
end

/-! ### dicts: put, merge -/
def hasD (kvs : List (PyData × PyData)) (k : PyData) : Bool := kvs.any fun p => keyEq p.1 k
def putD (kvs : List (PyData × PyData)) (k v : PyData) : List (PyData × PyData) := if hasD kvs k = true then kvs.map (fun p => if keyEq p.1 k = true then (p.1, v) else p) else kvs ++ [(k, v)]
def mergeD (kvs more : List (PyData × PyData)) : List (PyData × PyData) := more.foldl (fun acc p => putD acc p.1 p.2) kvs
section
variable {K : PySem.W.Frag} {S : Addr → Prop} {H : Hp}
/-- the pairs of a dict, by the values and by the data -/
def KvR (K : PySem.W.Frag) (S : Addr → Prop) (H : Hp) (ts : List (Key × V)) (kvs : List (PyData × PyData)) : Prop := kvs.map (·.1) = ts.map (fun p => keyD p.1) ∧ RpL K S H (ts.map (·.2)) (kvs.map (·.2))
theorem KvR.nil : KvR K S H [] [] := ⟨rfl, .nil⟩
theorem KvR.cons_inv {p : Key × V} {ts : List (Key × V)} {q : PyData × PyData} {kvs : List (PyData × PyData)} (h : KvR K S H (p :: ts) (q :: kvs)) : q.1 = keyD p.1 ∧ Rp K S H p.2 q.2 ∧ KvR K S H ts kvs := by
  obtain ⟨h1, h2⟩ := h
  simp only [List.map_cons, List.cons.injEq] at h1
  simp only [List.map_cons] at h2
  cases h2 with
  | cons a b => exact ⟨h1.1, a, h1.2, b⟩
theorem KvR.cons {p : Key × V} {ts : List (Key × V)} {q : PyData × PyData} {kvs : List (PyData × PyData)} (h1 : q.1 = keyD p.1) (h2 : Rp K S H p.2 q.2) (h3 : KvR K S H ts kvs) : KvR K S H (p :: ts) (q :: kvs) :=
  ⟨by rw [List.map_cons, List.map_cons, h1, h3.1], .cons h2 h3.2⟩
theorem KvR.len : ∀ {ts : List (Key × V)} {kvs : List (PyData × PyData)}, KvR K S H ts kvs → kvs.length = ts.length := fun h => by have := congrArg List.length h.1; simpa using this
theorem KvR.snoc {k : Key} {v : V} {d : PyData} (h2 : Rp K S H v d) : ∀ {ts : List (Key × V)} {kvs : List (PyData × PyData)}, KvR K S H ts kvs → KvR K S H (ts ++ [(k, v)]) (kvs ++ [(keyD k, d)])
  | [], [], _ => .cons rfl h2 .nil
  | [], _ :: _, h => by have := h.len; simp at this
  | _ :: _, [], h => by have := h.len; simp at this
  | _ :: _, _ :: _, h => by
    obtain ⟨a, b, c⟩ := h.cons_inv
    exact .cons a b (KvR.snoc h2 c)
theorem KvR.has (k : Key) : ∀ {ts : List (Key × V)} {kvs : List (PyData × PyData)}, KvR K S H ts kvs → (ts.any fun kv => decide (kv.1 = k)) = hasD kvs (keyD k)
  | [], [], _ => rfl
  | [], _ :: _, h => by have := h.len; simp at this
  | _ :: _, [], h => by have := h.len; simp at this
  | p :: ts, q :: kvs, h => by
    obtain ⟨a, b, c⟩ := h.cons_inv
    have ih := KvR.has k c
    unfold hasD at ih ⊢
    rw [List.any_cons, List.any_cons, ih, a, keyEq_keyD]
theorem KvR.repl {k : Key} {v : V} {d : PyData} (h2 : Rp K S H v d) : ∀ {ts : List (Key × V)} {kvs : List (PyData × PyData)}, KvR K S H ts kvs → KvR K S H (ts.map fun kv => if kv.1 = k then (kv.1, v) else kv) (kvs.map fun p => if keyEq p.1 (keyD k) = true then (p.1, d) else p)
  | [], [], _ => .nil
  | [], _ :: _, h => by have := h.len; simp at this
  | _ :: _, [], h => by have := h.len; simp at this
  | p :: ts, q :: kvs, h => by
    obtain ⟨a, b, c⟩ := h.cons_inv
    rw [List.map_cons, List.map_cons, a, keyEq_keyD]
    by_cases hk : p.1 = k
    · rw [if_pos hk, if_pos (decide_eq_true hk)]
      exact .cons rfl h2 (KvR.repl h2 c)
    · rw [if_neg hk, if_neg (by simpa using hk)]
      exact .cons a b (KvR.repl h2 c)
theorem KvR.put {ts : List (Key × V)} {kvs : List (PyData × PyData)} {k : Key} {v : V} {d : PyData} (h : KvR K S H ts kvs) (h2 : Rp K S H v d) : KvR K S H (putK ts k v) (putD kvs (keyD k) d) := by
  unfold putK putD
  rw [h.has k]
  split
  · exact h.repl h2
  · exact h.snoc h2
theorem KvR.merge : ∀ {us : List (Key × V)} {more : List (PyData × PyData)} {ts : List (Key × V)} {kvs : List (PyData × PyData)}, KvR K S H us more → KvR K S H ts kvs → KvR K S H (mergeK ts us) (mergeD kvs more)
  | [], [], _, _, _, h => h
  | [], _ :: _, _, _, h, _ => by have := h.len; simp at this
  | _ :: _, [], _, _, h, _ => by have := h.len; simp at this
  | p :: us, q :: more, ts, kvs, h, g => by
    obtain ⟨a, b, c⟩ := h.cons_inv
    have := g.put (k := p.1) b
    rw [← a] at this
    show KvR K S H (mergeK (putK ts p.1 p.2) us) (mergeD (putD kvs q.1 q.2) more)
    exact KvR.merge c this
theorem putD_len (kvs : List (PyData × PyData)) (k v : PyData) : (putD kvs k v).length ≤ kvs.length + 1 := by
  unfold putD
  split
  · simp
  · simp
end
def pairsD : List PyData → Option (List (PyData × PyData))
  | [] => some []
  | .tuple [k, v] :: r => match keyOf? k, pairsD r with
    | some _, some l => some ((k, v) :: l)
    | _, _ => none
  | _ :: _ => none
def oDictP : List PyData → Option PyData
  | [.dict kvs] => some (.dict kvs)
  | [.list ds] => (pairsD ds).map fun l => .dict (mergeD [] l)
  | [.tuple ds] => if pairsB ds = true then (pairsD ds).map fun l => .dict (mergeD [] l) else none
  | _ => none
theorem pairs_run {K : PySem.W.Frag} {S : Addr → Prop} {H : Hp} : ∀ {ds : List PyData} {l : List (PyData × PyData)} {vs : List V}, RpL K S H vs ds → pairsD ds = some l →
    ∃ (ps : List Addr) (kvs : List (Key × V)), vs = ps.map V.ref ∧ Paired (fun p kv => SqT K H p [kV kv.1, kv.2]) ps kvs ∧ KvR K S H kvs l
  | [], l, _, .nil, e => by cases e; exact ⟨[], [], rfl, .nil, .nil⟩
  | d :: r, l, _, .cons h t, e => by
    unfold pairsD at e
    split at e
    · rename_i e0; cases e0
    · rename_i k v r' e0
      cases e0
      split at e
      · rename_i kk l' hk hl
        cases e
        obtain ⟨ps, kvs, rfl, hp, hr⟩ := pairs_run t hl
        cases h with
        | tup hs hh _ =>
          cases hh with
          | cons a b =>
            cases b with
            | cons b c =>
              cases c
              have ek := keyOf_keyD hk
              obtain rfl := Rdb.key (.inl a) hk
              exact ⟨_ :: ps, (kk, _) :: kvs, rfl, .cons hs.sq hp, .cons ek b hr⟩
      · cases e
    · cases e
/-- dict(t) of a plain tuple of pairs -/
theorem dict_ofT {X : Cx} (hcalm : X.calm = true) : CallR X (.type "dict") (fun xs H Q => ∃ (a : Addr) (ps : List Addr) (kvs : List (Key × V)) (o : Obj), xs = [.ref a] ∧ H a = some (.frz o (.tup (ps.map V.ref))) ∧ o.dict = none ∧ Paired (fun p kv => SqT X.K H p [kV kv.1, kv.2]) ps kvs ∧
    ∀ p, H p = none → Q (.ref p) (upd H p (.dK (mergeK [] kvs)))) := by
  rintro pins s σ H xs us Q I r ⟨a, ps, kvs, o, rfl, ha, hdn, hp, q⟩
  obtain ⟨u, rfl, ru⟩ := vals1 r
  cases ru
  obtain ⟨ho, z, its, rv, ho2⟩ := I.hok a _ ha
  obtain ⟨o2, g2, hcls, n, hdat⟩ := ho2
  rw [ho] at g2; cases g2
  obtain rfl := refs_at rv
  obtain ⟨prs, rel, hl, hpr⟩ := pairs_of I hp
  rw [List.length_map] at z
  have hlen : (mergeK [] kvs).length ≤ sizeLine := by
    have h1 := length_mergeK kvs []
    have h2 : kvs.length = prs.length := rel.length
    rw [List.length_nil] at h1
    omega
  let us2 : List (Value × Value) := (List.range prs.length).map fun j => (match (s.heap.get? (ps.getD j 0)) with | some ⟨_, _, .seq its _, _⟩ => its.getD 0 .none | _ => .none, (prs.getD j (.inl 0, .none)).2)
  have at2 : ∀ (j : Nat) (q : Key × Value), prs[j]? = some q → ∃ b u, ps[j]? = some b ∧ PyProof.Rows.IsTup s.heap b #[u, q.2] ∧ keyIs q.1 u = true ∧ us2[j]? = some (u, q.2) := fun j q e => by
    obtain ⟨b, u, e1, e2, e3⟩ := hpr j q e
    refine ⟨b, u, e1, e2, e3, ?_⟩
    obtain ⟨hj, ej⟩ := List.getElem?_eq_some_iff.mp e
    obtain ⟨ob, g1, g2, m, g3⟩ := id e2
    have x1 : ps.getD j 0 = b := by rw [List.getD_eq_getElem?_getD, e1]; rfl
    have x2 : prs.getD j (.inl 0, .none) = q := by rw [List.getD_eq_getElem?_getD, e]; rfl
    show ((List.range prs.length).map _)[j]? = _
    rw [List.getElem?_map, List.getElem?_range hj, Option.map_some, x1, x2, g1]
    obtain ⟨oc, od, odat, osl⟩ := ob
    simp only at g3
    subst g3
    rfl
  have hu2 : us2.length = prs.length := by show ((List.range prs.length).map _).length = _; rw [List.length_map, List.length_range]
  have ok : PlainSeq "tuple" s.heap a (ps.map Value.ref).toArray ∧ PairItems s.heap (ps.map Value.ref).toArray (fun j => ps.getD j 0) us2 := by
    refine ⟨⟨o, n, ho, hcls, hdn, hdat⟩, by rw [List.size_toArray, List.length_map, hu2, hl], fun j k v e => ?_⟩
    obtain ⟨hj, _⟩ := List.getElem?_eq_some_iff.mp e
    rw [hu2] at hj
    obtain ⟨b, u, e1, e2, e3, e4⟩ := at2 j prs[j] (List.getElem?_eq_getElem hj)
    rw [e] at e4; cases e4
    have x1 : ps.getD j 0 = b := by rw [List.getD_eq_getElem?_getD, e1]; rfl
    refine ⟨?_, ?_⟩
    · show (ps.map Value.ref).toArray[j]? = some (Value.ref (ps.getD j 0))
      rw [x1]; simp [e1]
    · show PairAt s.heap (ps.getD j 0) _ _
      rw [x1]; exact .inl e2
  refine PySem.call_dict_pairs (knd := mixKind X.prog X.w) (kvs := prs) (PairArg.tuple a (ps.map Value.ref).toArray (fun j => ps.getD j 0) us2) (I.ok.hd hcalm) ok ?_ (by rw [hu2, hl]; exact z) fun h' tk hd' k => ?_
  · refine ⟨hu2.symm, fun i key v e => ?_⟩
    have e : us2[i]? = some (key, v) := e
    obtain ⟨hj, _⟩ := List.getElem?_eq_some_iff.mp e
    rw [hu2] at hj
    obtain ⟨b, u, e1, e2, e3, e4⟩ := at2 i prs[i] (List.getElem?_eq_getElem hj)
    rw [e] at e4; cases e4
    exact ⟨prs[i].1, by rw [List.getElem?_eq_getElem hj], e3⟩
  · have hm : (s.heap.objs.size == sysModules) = false := beq_eq_false_iff_ne.mpr (Nat.ne_of_gt I.big)
    exact ⟨.ref _, _, I.laid (t' := tk) (a := s.heap.objs.size) (o := .dK (mergeK [] kvs)) (fun b o e => k b o (by simp) e) (Nat.le_refl _) ⟨hlen, hm, merged [] prs, KV.merge rel .nil, hd'⟩, rfl, q _ (I.hok.fresh (Nat.le_refl _))⟩
theorem b_dictP {X : Cx} (hc : X.calm = true) : CallR X (.type "dict") (rB X.K oDictP) := by
  intro pins s σ H xs us Q I r h
  obtain ⟨S, ds, d, al, rs, e, q⟩ := h
  unfold oDictP at e
  split at e
  · cases e
    exact b_dict pins s σ H xs us Q I r ⟨S, _, _, al, rs, rfl, q⟩
  · obtain ⟨l, e1, rfl⟩ := Option.map_eq_some_iff.mp e
    obtain ⟨v, rfl, r1⟩ := rs.one
    obtain ⟨a, vs, rfl, h1, p1⟩ := r1.lst
    obtain ⟨ps, kvs, rfl, hp, hr⟩ := pairs_run p1 e1
    refine call_dictP hc pins s σ H _ us Q I r ⟨a, ps, kvs, rfl, SqL.of h1, hp, fun p hn => ?_⟩
    have m := KvR.merge hr (KvR.nil (K := X.K) (S := S) (H := H))
    exact q _ S _ (Gw.lay al hn) ⟨p, rfl, hn, fun z => al p z hn, _, upd_same, m.1, m.2.up (Gw.lay al hn).up⟩
  · split at e
    · rename_i hB
      obtain ⟨l, e1, rfl⟩ := Option.map_eq_some_iff.mp e
      obtain ⟨v, rfl, r1⟩ := rs.one
      obtain ⟨a, vs, rfl, h1, p1, l1⟩ := r1.tupP
      obtain ⟨hsa, o, ho, hdn⟩ := l1 hB
      obtain ⟨ps, kvs, rfl, hp, hr⟩ := pairs_run p1 e1
      refine dict_ofT hc pins s σ H _ us Q I r ⟨a, ps, kvs, o, rfl, ho, hdn, hp, fun p hn => ?_⟩
      have m := KvR.merge hr (KvR.nil (K := X.K) (S := S) (H := H))
      exact q _ S _ (Gw.lay al hn) ⟨p, rfl, hn, fun z => al p z hn, _, upd_same, m.1, m.2.up (Gw.lay al hn).up⟩
    · cases e
  · cases e

/-! ### for i in range(n), range(a, b) -/
def rngD (lo : Int) : Nat → List PyData
  | 0 => []
  | n + 1 => .int lo :: rngD (lo + 1) n
theorem rngD_len : ∀ (n : Nat) (lo : Int), (rngD lo n).length = n
  | 0, _ => rfl
  | n + 1, lo => by unfold rngD; rw [List.length_cons, rngD_len]
theorem rngD_get : ∀ (n : Nat) (lo : Int) (i : Nat), i < n → (rngD lo n)[i]? = some (.int (lo + i))
  | 0, _, _, h => by omega
  | n + 1, lo, 0, _ => by simp [rngD]
  | n + 1, lo, i + 1, h => by
    unfold rngD
    rw [List.getElem?_cons_succ, rngD_get n (lo + 1) i (by omega)]
    congr 2
    omega
theorem walk_rng {K : PySem.W.Frag} {T S0 : Addr → Prop} {H0 : Hp} (lo : Int) (n : Nat) : Walk K (Itr lo n) (rngD lo n) T S0 H0 := by
  intro S H i u t al
  rw [rngD_len]
  refine ⟨fun hi => ⟨hi, fun x H' y => ?_⟩, fun hi => hi⟩
  obtain ⟨rfl, rfl⟩ := y
  exact ⟨S, _, Gw.refl al, rngD_get n lo i hi, .int _⟩
def smallI (i : Int) : Bool := decide (-(2 ^ 62) ≤ i ∧ i < 2 ^ 62)
def iR1 (f : Mo Rs) : Mo (List PyData) := bindM f fun r => bindM (rdR r) fun d => bindM (optM (intD d)) fun j => if smallI j = true then retM (rngD 0 j.toNat) else fun _ => none
def iR2 (f g : Mo Rs) : Mo (List PyData) := bindM f fun r => bindM g fun r2 => bindM (rdR r) fun d => bindM (rdR r2) fun d2 => bindM (optM (intD d)) fun i => bindM (optM (intD d2)) fun j => if smallI i = true then if smallI j = true then retM (rngD i (j - i).toNat) else fun _ => none else fun _ => none
theorem intD_eq {d : PyData} {i : Int} (h : intD d = some i) : d = .int i := by cases d <;> cases h <;> rfl
section
variable {X : Cx} {tg a b : Expr} {f g : Mo Rs} {p pos : Pos}
theorem id_range1 (hg : Gl X "range") (hm : X.mg "range" = none) (ha : PD X a f) (hs : starEach [a] X.env = [(false, eval a X.env)] := by rfl) (hs' : starEach [a] X.env = (false, eval a X.env) :: starEach [] X.env := by rfl) : ID X tg (.Call (.Name "range" p) [a] [] pos) (iR1 f) :=
  PI.to (pi_range1 hg hm (pa_cons ha pa_nil hs') hs) fun σ H R h => by
    obtain ⟨S, ρ, ds, ρ', G, e, q⟩ := h
    obtain ⟨r, ρ1, e1, e2⟩ := bindM_some e
    obtain ⟨d, ρ2, e3, e4⟩ := bindM_some e2
    obtain ⟨j, ρ3, e5, e6⟩ := bindM_some e4
    obtain ⟨b1, b2⟩ := optM_some e5
    simp only at b1 b2
    split at e6
    · rename_i hj
      cases retM_some e6
      refine ⟨S, ρ, r, ρ1, G, e1, fun v S1 H1 F1 G1 R1 => ?_⟩
      obtain ⟨rd, rfl⟩ := R1.rd G1 e3
      obtain rfl := intD_eq b1
      subst b2
      have hj' := of_decide_eq_true hj
      exact ⟨j, by rw [rd.int], hj'.1, hj'.2, q _ S1 H1 (fun _ => False) F1 G1 (fun _ z => z.elim) (walk_rng 0 j.toNat)⟩
    · cases e6
theorem id_range2 (hg : Gl X "range") (hm : X.mg "range" = none) (ha : PD X a f) (hb : PD X b g) (hs : starEach [a, b] X.env = [(false, eval a X.env), (false, eval b X.env)] := by rfl) (hs2 : starEach [b] X.env = [(false, eval b X.env)] := by rfl)
    (hs' : starEach [a, b] X.env = (false, eval a X.env) :: starEach [b] X.env := by rfl) (hs'' : starEach [b] X.env = (false, eval b X.env) :: starEach [] X.env := by rfl) : ID X tg (.Call (.Name "range" p) [a, b] [] pos) (iR2 f g) :=
  PI.to (pi_range2 hg hm (pa_cons ha (pa_cons hb pa_nil hs'') hs') hs hs2) fun σ H R h => by
    obtain ⟨S, ρ, ds, ρ', G, e, q⟩ := h
    obtain ⟨r, ρ1, e1, e2⟩ := bindM_some e
    obtain ⟨r2, ρ2, e3, e4⟩ := bindM_some e2
    obtain ⟨d, ρ3, e5, e6⟩ := bindM_some e4
    obtain ⟨d2, ρ4, e7, e8⟩ := bindM_some e6
    obtain ⟨i, ρ5, e9, e10⟩ := bindM_some e8
    obtain ⟨j, ρ6, e11, e12⟩ := bindM_some e10
    obtain ⟨b1, b2⟩ := optM_some e9
    obtain ⟨b3, b4⟩ := optM_some e11
    simp only at b1 b2 b3 b4
    split at e12
    · rename_i hi
      split at e12
      · rename_i hj
        cases retM_some e12
        obtain rfl := rdR_same e5
        obtain rfl := rdR_same e7
        subst b2
        subst b4
        refine ⟨S, ρ, r, ρ1, G, e1, fun v S1 H1 F1 G1 R1 => ⟨S1, ρ1, r2, _, G1, e3, fun w S2 H2 F2 G2 R2 => ?_⟩⟩
        have n1 : Now X.K σ S ρ H S1 ρ1 H1 := ⟨G, F1, G1⟩
        obtain ⟨rd, _⟩ := (R1.fm n1 F2).rd G2 e5
        obtain ⟨rd2, _⟩ := R2.rd G2 e7
        obtain rfl := intD_eq b1
        obtain rfl := intD_eq b3
        have hi' := of_decide_eq_true hi
        have hj' := of_decide_eq_true hj
        exact ⟨i, j, by rw [rd.int, rd2.int], ⟨hi'.1, hi'.2, hj'.1, hj'.2⟩, q _ S2 H2 (fun _ => False) (F1.trans F2) G2 (fun _ z => z.elim) (walk_rng i (j - i).toNat)⟩
      · cases e12
    · cases e12
end

/-! ### x[i] = v, x[i] op= v at a name that holds its own list or dict -/
def setD : PyData → PyData → PyData → Option PyData
  | .list ds, .int i, v => (ixN ds.length i).map fun j => .list (ds.set j v)
  | .dict kvs, k, v => match keyOf? k with
    | some k => if kvs.length < sizeLine then some (.dict (putD kvs (keyD k) v)) else none
    | none => none
  | _, _, _ => none
/-- the place of a name is changed -/
def mutM (j : Nat) (op : PyData → Option PyData) : Mo Unit := fun ρ => match ρ[j]? with
  | some (some (st, d)) => if st.mut = true then match op d with
      | some d' => some ((), ρ.set j (some (st, d')))
      | none => none
    else none
  | _ => none
theorem mutM_some {j : Nat} {op : PyData → Option PyData} {ρ ρ' : Rho} {u : Unit} (e : mutM j op ρ = some (u, ρ')) : ∃ st d d', ρ[j]? = some (some (st, d)) ∧ st.mut = true ∧ op d = some d' ∧ ρ' = ρ.set j (some (st, d')) := by
  unfold mutM at e
  split at e
  · split at e
    · split at e
      · cases e; exact ⟨_, _, _, ‹_›, ‹_›, ‹_›, rfl⟩
      · cases e
    · cases e
  · cases e
theorem xV_some {i : Nat} {ρ ρ' : Rho} {r : Rs} (e : xV i ρ = some (r, ρ')) : ∃ p, ρ[i]? = some (some p) ∧ r = .slot i ∧ ρ' = ρ := by
  unfold xV at e
  split at e
  · cases e; exact ⟨_, ‹_›, rfl, rfl⟩
  · cases e
theorem Rp.key {K : PySem.W.Frag} {S : Addr → Prop} {H : Hp} (k : Key) : Rp K S H (kV k) (keyD k) := by
  cases k with
  | inl i => exact .int i
  | inr x => exact .str x
def sPut (j : Nat) (fi fv : Mo Rs) : Mo Fl := bindM fv fun rv => bindM (keepR rv) fun v => bindM (xV j) fun _ => bindM fi fun ri => bindM (rdR ri) fun i => bindM (mutM j fun d => setD d i v) fun _ => retM .nx
def rSetA (o i v : V) (H : Hp) (Q : Hp → Prop) : Prop := rSetL o i v H Q ∨ rSetD o i v H Q
theorem set_any {X : Cx} (hu : X.A.units + 1 < cLine) : PSet X rSetA := by
  intro pins s σ H o i v ov iv u Q I ro ri rv h
  rcases h with h | h
  · exact set_list pins s σ H o i v ov iv u Q I ro ri rv h
  · exact set_dict hu pins s σ H o i v ov iv u Q I ro ri rv h
/-- a store, by the state -/
theorem Now.setAt {K : PySem.W.Frag} {S0 S : Addr → Prop} {ρ0 ρ : Rho} {σ : L2.St} {H0 H : Hp} {j : Nat} {st : Stt} {d d' i x : PyData} {wi w : V} {Q : Hp → Prop} (n : Now K σ S0 ρ0 H0 S ρ H) (h : ρ[j]? = some (some (st, d))) (hm : st.mut = true) (ri : Rdb K S H wi i) (rx : Rp K S H w x) (e : setD d i x = some d') :
    ∃ a, σ[j]? = some (some (V.ref a)) ∧ ((∀ H', Now K σ S0 ρ0 H0 S (ρ.set j (some (st, d'))) H' → Q H') → rSetA (.ref a) wi w H Q) := by
  obtain ⟨v, hv, sr⟩ := n.g.sl j st d h
  have top : ∃ a, v = .ref a ∧ ¬ S a ∧ TopX K S H a d := by cases st <;> first | exact sr | cases hm
  obtain ⟨a, rfl, ns, tx⟩ := top
  refine ⟨a, hv, fun q => ?_⟩
  have go : ∀ o', (TopX K S (upd H a o') a d') → Q (upd H a o') := fun o' t => q _ (n.mutate h hm hv fun _ => t)
  have u : ∀ o', Uph S H S (upd H a o') := fun o' => ⟨fun _ h => h, fun b o hb e => by rw [upd_ne (show b ≠ a from fun z => ns (z ▸ hb))]; exact e⟩
  unfold setD at e
  split at e
  · obtain ⟨k, e1, rfl⟩ := Option.map_eq_some_iff.mp e
    obtain ⟨vs, h1, p1⟩ := tx
    exact .inl ⟨a, vs, _, k, rfl, ri.int, h1, by rw [p1.len]; exact e1, go _ ⟨_, upd_same, (RpL.set rx k p1).up (u _)⟩⟩
  · split at e
    · rename_i k hk
      split at e
      · rename_i hl
        cases e
        obtain ⟨ts, h1, p1, p2⟩ := tx
        have kv : KvR K S H ts _ := ⟨p1, p2⟩
        have m := kv.put (k := k) rx
        refine .inr ⟨a, _, rfl, .inl ⟨ts, k, h1, ri.key hk, by rw [← kv.len]; exact hl, rfl⟩, go _ ⟨_, upd_same, m.1, m.2.up (u _)⟩⟩
      · cases e
    · cases e
  · cases e
section
variable {X : Cx} {x : Str} {ei ev : Expr} {fi fv : Mo Rs} {np tpos pos : Pos}
theorem sd_put (j : Nat) (hu : X.A.units + 64 < cLine) (hi : PD X ei fi) (hv : PD X ev fv) (hN : X.N[j]? = some x := by rfl) (hvis : Vis X.env.scope x := by first | exact Or.inl rfl | exact Or.inr (Or.inl rfl) | exact Or.inr (Or.inr rfl)) (hd : (x == ("__debug__" : Str)) = false := by decide)
    (hcd : (x == ("__classdict__" : Str)) = false := by decide)
    (ha : ∀ v, assign (.Subscript (.Name x np) ei tpos) X.env v = (do
      let ov ← holding [v] (eval (.Name x np) X.env)
      let iv ← holding [v, ov] (eval ei X.env)
      standAt tpos
      holding [v, ov, iv] (setItem ov iv v)
      release [v, ov, iv] []) := by intro _; rfl)
    (hs : swapsWithSole [.Subscript (.Name x np) ei tpos] ev pos.line X.env = pure false := by rfl) (hw : swappedStores [.Subscript (.Name x np) ei tpos] ev X.env = pure none := by rfl)
    (h1 : (assignEach [.Subscript (.Name x np) ei tpos] X.env).map (·.2) = [assign (.Subscript (.Name x np) ei tpos) X.env] := by rfl) :
    SD X (.Assign [.Subscript (.Name x np) ei tpos] ev pos) (sPut j fi fv) := PS.to (ps_asg hv (pg_sub (pe_var hN hvis hd hcd) hi (set_any (by omega)) ha) hs hw h1) fun D σ H h => by
  obtain ⟨S, ρ, fl, ρ', G, e, q⟩ := h
  obtain ⟨rv, ρ1, e1, a1⟩ := bindM_some e
  obtain ⟨v, ρ2, e2, a2⟩ := bindM_some a1
  obtain ⟨rj, ρ0, e0, a0⟩ := bindM_some a2
  obtain ⟨ri, ρ3, e3, a3⟩ := bindM_some a0
  obtain ⟨i, ρ4, e4, a4⟩ := bindM_some a3
  obtain ⟨u, ρ5, e5, a5⟩ := bindM_some a4
  cases retM_some a5
  obtain rfl := rdR_same e4
  obtain ⟨st, d, d', m1, m2, m3, rfl⟩ := mutM_some e5
  obtain ⟨p0, m0, rfl, rfl⟩ := xV_some e0
  refine ⟨S, ρ, rv, ρ1, G, e1, fun w S1 H1 F1 G1 R1 => ?_⟩
  obtain ⟨S2, n2, p2, _⟩ := R1.w.keep ⟨G, F1, G1⟩ e2
  obtain ⟨wj, hwj, _⟩ := n2.g.sl j p0.1 p0.2 m0
  refine ⟨wj, hwj, S2, _, ri, _, n2.g, e3, fun wi S3 H3 F3 G3 R3 => ?_⟩
  have n3 := n2.step F3 G3
  obtain ⟨rdi, _⟩ := R3.rd G3 e4
  obtain ⟨a, ha, go⟩ := n3.setAt (Q := fun H' => D.nx σ H') m1 m2 rdi (Rp.up (F3.up n2.g) p2) m3
  rw [hwj] at ha
  cases ha
  exact go fun H' n4 => q σ S3 H' n4.f.fs n4.g
end

/-! ### op= -/
def augI (g : Int → Int → Int) : PyData → PyData → Option PyData
  | .int i, .int j => some (.int (g i j))
  | _, _ => none
/-- an item, by its place or its key -/
def getD : PyData → PyData → Option PyData
  | .list ds, .int i => atI ds i
  | .dict kvs, k => match keyOf? k with
    | some k => lookD (keyD k) kvs
    | none => none
  | _, _ => none
theorem getD_key {o i d : PyData} (e : getD o i = some d) : ∃ k, keyOf? i = some k := by
  unfold getD at e
  split at e
  · exact ⟨_, rfl⟩
  · split at e
    · exact ⟨_, ‹_›⟩
    · cases e
  · cases e
/-- x op= e, ints -/
def sAug (j : Nat) (g : Int → Int → Int) (f : Mo Rs) : Mo Fl := bindM (xV j) fun r0 => bindM (rdR r0) fun a => bindM f fun r => bindM (rdR r) fun b => bindM (optM (augI g a b)) fun d => bindM (storeR j (.kept d)) fun _ => retM .nx
/-- x[i] op= e, ints -/
def sAugS (j : Nat) (g : Int → Int → Int) (fi f : Mo Rs) : Mo Fl := bindM (xV j) fun rj => bindM fi fun ri => bindM (rdR rj) fun o => bindM (rdR ri) fun i => bindM (optM (getD o i)) fun a => bindM f fun r => bindM (rdR r) fun b => bindM (optM (augI g a b)) fun d => bindM (mutM j fun o' => setD o' i d) fun _ => retM .nx
theorem augI_some {g : Int → Int → Int} {a b d : PyData} (e : augI g a b = some d) : ∃ i j, a = .int i ∧ b = .int j ∧ d = .int (g i j) := by
  unfold augI at e
  split at e
  · cases e; exact ⟨_, _, rfl, rfl, rfl⟩
  · cases e
/-- o[i] of a list or a dict -/
def rGetA (K : PySem.W.Frag) (o i : V) (H : Hp) (Q : VK) : Prop := (∃ p xs k v, o = .ref p ∧ i = .int k ∧ H p = some (.lst xs) ∧ atI xs k = some v ∧ Q v H) ∨ ∃ a v, o = .ref a ∧ DGet H a i (some v) ∧ Q v H
theorem get_any {X : Cx} (hu : X.A.units + 1 < cLine) : PGet X (rGetA X.K) := by
  intro pins s σ H o i ov iv Q I ro ri h
  rcases h with ⟨p, xs, k, v, rfl, rfl, hp, hj, q⟩ | ⟨a, v, rfl, g, q⟩
  · cases ro
    obtain ⟨t, rfl⟩ := ri
    obtain ⟨its, n, r, ho, hz⟩ := I.lst hp
    obtain ⟨j, h1, h2, h3, h4, h5⟩ := atI_get hj
    obtain ⟨w, ew, rw'⟩ := r.get h2
    have hl := r.length
    have hn := line63
    have il : s.heap.IsList p its.toArray := ⟨_, ho, rfl, n, rfl⟩
    have fin : EP X pins σ Q w s := ⟨v, H, I, rw', q⟩
    by_cases h0 : 0 ≤ k
    · have hk : k.toNat = j := by
        rw [seqIndex_of h0 h5] at h1
        exact Option.some.inj h1
      exact wpAny_getItem_list il h0 (by omega) (by rw [hk]; simpa using ew) fin
    · have hk : (k + (its.toArray.size : Int)).toNat = j := by
        rw [seqIndex_neg (by omega) h4] at h1
        rw [List.size_toArray, ← hl]
        exact Option.some.inj h1
      exact wpAny_getItem_list_neg il (by omega) (by rw [List.size_toArray] <;> omega) (by omega) (by rw [hk]; simpa using ew) fin
  · cases ro
    exact d_getItem hu I g ri fun w' s3 I3 rw' => ⟨v, H, I3, rw', q⟩
section
variable {X : Cx} {x : Str} {ei ev : Expr} {fi fv : Mo Rs} {np tpos pos : Pos} {op : Operator} {g : Int → Int → Int}
theorem sd_aug (j : Nat) (hN : X.N.Nodup) (ho : PIp X op (ipI g)) (hv : PD X ev fv) (hj : X.N[j]? = some x := by rfl) (hx : Loc X.env.scope x := by first | exact Or.inl rfl | exact Or.inr rfl)
    (hf : X.fn x = true ∨ X.env.scope.names.lookup x = some .local := by first | exact .inl rfl | exact .inr rfl | assumption) : SD X (.AugAssign (.Name x np) op ev pos) (sAug j g fv) := PS.to (ps_aug hN hj hx hv ho hf) fun D σ H h => by
  obtain ⟨S, ρ, fl, ρ', G, e, q⟩ := h
  obtain ⟨r0, ρ0, e0, a0⟩ := bindM_some e
  obtain ⟨a, ρ1, e1, a1⟩ := bindM_some a0
  obtain ⟨r, ρ2, e2, a2⟩ := bindM_some a1
  obtain ⟨b, ρ3, e3, a3⟩ := bindM_some a2
  obtain ⟨d, ρ4, e4, a4⟩ := bindM_some a3
  obtain ⟨u, ρ5, e5, a5⟩ := bindM_some a4
  cases retM_some a5
  obtain ⟨p0, m0, rfl, rfl⟩ := xV_some e0
  obtain rfl := rdR_same e1
  obtain rfl := rdR_same e3
  obtain ⟨b1, b2⟩ := optM_some e4
  simp only at b1 b2
  subst b2
  obtain ⟨i, k, rfl, rfl, rfl⟩ := augI_some b1
  obtain ⟨wj, hwj, _⟩ := G.sl j p0.1 p0.2 m0
  have r0' : RR X.K H S H _ σ wj (.slot j) := ⟨hwj, _, m0⟩
  have hwi := (r0'.rd G e1).1.int
  subst hwi
  refine ⟨_, hwj, S, _, r, _, G, e2, fun w S1 H1 F1 G1 R1 => ?_⟩
  obtain ⟨rd, _⟩ := R1.rd G1 e3
  refine ⟨i, k, rfl, rd.int, ?_⟩
  obtain ⟨G3, F3, _⟩ := storeK G1 (Rp.int (g i k)) e5
  exact q _ S1 H1 (F1.fs.trans F3) G3
theorem sd_augS (j : Nat) (hu : X.A.units + 64 < cLine) (ho : PIp X op (ipI g)) (hi : PD X ei fi) (hv : PD X ev fv) (hN : X.N[j]? = some x := by rfl) (hvis : Vis X.env.scope x := by first | exact Or.inl rfl | exact Or.inr (Or.inl rfl) | exact Or.inr (Or.inr rfl)) (hd : (x == ("__debug__" : Str)) = false := by decide)
    (hcd : (x == ("__classdict__" : Str)) = false := by decide)
    (ha : ∀ ov iv new, augStore ei ov iv new = (do holding [new, ov, iv] (setItem ov iv new); release [new, ov, iv] []; pure .next) := by intros; rfl) : SD X (.AugAssign (.Subscript (.Name x np) ei tpos) op ev pos) (sAugS j g fi fv) :=
  PS.to (ps_augS (pe_var hN hvis hd hcd) hi (get_any (by omega)) hv ho (set_any (by omega)) ha) fun D σ H h => by
  obtain ⟨S, ρ, fl, ρ', G, e, q⟩ := h
  obtain ⟨rj, ρ0, e0, a0⟩ := bindM_some e
  obtain ⟨ri, ρ1, e1, a1⟩ := bindM_some a0
  obtain ⟨o, ρ2, e2, a2⟩ := bindM_some a1
  obtain ⟨i, ρ3, e3, a3⟩ := bindM_some a2
  obtain ⟨a, ρ4, e4, a4⟩ := bindM_some a3
  obtain ⟨r, ρ5, e5, a5⟩ := bindM_some a4
  obtain ⟨b, ρ6, e6, a6⟩ := bindM_some a5
  obtain ⟨d, ρ7, e7, a7⟩ := bindM_some a6
  obtain ⟨u, ρ8, e8, a8⟩ := bindM_some a7
  cases retM_some a8
  obtain ⟨p0, m0, rfl, rfl⟩ := xV_some e0
  obtain rfl := rdR_same e2
  obtain rfl := rdR_same e3
  obtain rfl := rdR_same e6
  obtain ⟨b1, b2⟩ := optM_some e4
  obtain ⟨b3, b4⟩ := optM_some e7
  simp only at b1 b2 b3 b4
  subst b2
  subst b4
  obtain ⟨n, k, rfl, rfl, rfl⟩ := augI_some b3
  obtain ⟨st, d, d', m1, m2, m3, rfl⟩ := mutM_some e8
  obtain ⟨wj, hwj, _⟩ := G.sl j p0.1 p0.2 m0
  have r0' : RR X.K H S H _ σ wj (.slot j) := ⟨hwj, _, m0⟩
  refine ⟨wj, hwj, S, _, ri, _, G, e1, fun wi S1 H1 F1 G1 R1 => ?_⟩
  have n1 : Now X.K σ S _ H S1 _ H1 := ⟨G, F1, G1⟩
  obtain ⟨rdo, _⟩ := (r0'.fm (Now.start G) F1).rd G1 e2
  obtain ⟨rdi, _⟩ := R1.rd G1 e3
  obtain ⟨kk, hkk⟩ := getD_key b1
  have nxt : tD X.K fv σ H1 fun y H4 => ipI g (.int n) y H4 fun z H5 => rSetA wj wi z H5 fun H6 => D.nx σ H6 := by
    refine ⟨S1, _, r, _, G1, e5, fun w S2 H2 F2 G2 R2 => ?_⟩
    have n2 := n1.step F2 G2
    obtain ⟨rd, _⟩ := R2.rd G2 e6
    refine ⟨n, k, rfl, rd.int, ?_⟩
    obtain ⟨a, ha, go⟩ := n2.setAt (Q := fun H' => D.nx σ H') m1 m2 (wi := wi) (i := i) (by
      rw [rdi.key hkk, keyOf_keyD hkk]
      exact .inl (Rp.key kk)) (Rp.int (g n k)) m3
    rw [hwj] at ha
    cases ha
    exact go fun H' n4 => q σ S2 H' n4.f.fs n4.g
  unfold getD at b1
  split at b1
  · obtain ⟨a, vs, rfl, h1, p1⟩ := rdo.lst
    obtain ⟨w, x1, x2⟩ := atI_rp p1 b1
    cases x2
    exact .inl ⟨a, vs, _, _, rfl, rdi.int, h1, x1, nxt⟩
  · rename_i kvs _
    obtain ⟨a, ts, rfl, h1, p1, p2⟩ := rdo.dct
    rw [hkk] at b1
    obtain rfl := rdi.key hkk
    rcases look_of kk p1 p2 with ⟨n1, n2⟩ | ⟨w, d', n1, n2, n3⟩
    · dsimp only at b1
      rw [n2] at b1; cases b1
    · dsimp only at b1
      rw [n2] at b1
      cases b1
      cases n3
      exact .inr ⟨a, _, rfl, by rw [← n1]; exact DGet.of h1, nxt⟩
  · cases b1
end
end PyI

/-! PyI, part J: methods; a tuple turned about. -/
namespace PyI
open PySem PySem.Spec L2

/-! ### methods that change their list or dict -/
/-- a method of the list or dict at a name -/
def chkT (T : String) (j : Nat) : Mo Unit := fun ρ => match ρ[j]? with
  | some (some (st, d)) => if st.mut = true ∧ tyD d = T then some ((), ρ) else none
  | _ => none
def mutR (j : Nat) (op : PyData → Option (PyData × PyData)) : Mo Rs := fun ρ => match ρ[j]? with
  | some (some (st, d)) => if st.mut = true then match op d with
      | some (d', rt) => some (.kept rt, ρ.set j (some (st, d')))
      | none => none
    else none
  | _ => none
def xMut (T : String) (j : Nat) (op : PyData → List PyData → Option (PyData × PyData)) (g : Mo (List Rs)) : Mo Rs :=
  bindM (chkT T j) fun _ => bindM g fun rs => bindM (keepL rs) fun ds => mutR j fun d => op d ds
theorem chkT_some {T : String} {j : Nat} {ρ ρ' : Rho} {u : Unit} (e : chkT T j ρ = some (u, ρ')) : ∃ st d, ρ[j]? = some (some (st, d)) ∧ st.mut = true ∧ tyD d = T ∧ ρ' = ρ := by
  unfold chkT at e
  split at e
  · split at e
    · rename_i h; cases e; exact ⟨_, _, ‹_›, h.1, h.2, rfl⟩
    · cases e
  · cases e
theorem mutR_some {j : Nat} {op : PyData → Option (PyData × PyData)} {ρ ρ' : Rho} {r : Rs} (e : mutR j op ρ = some (r, ρ')) : ∃ st d d' rt, ρ[j]? = some (some (st, d)) ∧ st.mut = true ∧ op d = some (d', rt) ∧ ρ' = ρ.set j (some (st, d')) ∧ r = .kept rt := by
  unfold mutR at e
  split at e
  · split at e
    · split at e
      · cases e; exact ⟨_, _, _, _, ‹_›, ‹_›, ‹_›, rfl, rfl⟩
      · cases e
    · cases e
  · cases e
/-- what the rule of a method says, by data -/
def MetD (K : PySem.W.Frag) (op : PyData → List PyData → Option (PyData × PyData)) (r : V → List V → Hp → VK → Prop) : Prop :=
  ∀ (S : Addr → Prop) (H : Hp) (a : Addr) (d d' rt : PyData) (ds : List PyData) (vs : List V) (Q : VK), (∀ b, S b → H b ≠ none) → ¬ S a → TopX K S H a d → RpL K S H vs ds → op d ds = some (d', rt) →
    (∀ o' v, TopX K S (upd H a o') a d' → Rp K S (upd H a o') v rt → Q v (upd H a o')) → r (.ref a) vs H Q
theorem TopX.tyV {K : PySem.W.Frag} {S : Addr → Prop} {H : Hp} {a : Addr} {d : PyData} (t : TopX K S H a d) : tyV K (tyD d) (.ref a) H := by
  cases d with
  | list ds => obtain ⟨vs, h, _⟩ := t; exact .inl ⟨rfl, vs, SqL.of h⟩
  | dict kvs => obtain ⟨ts, h, _⟩ := t; exact .inr (.inr (.inl ⟨rfl, .inl ⟨ts, h⟩⟩))
  | _ => exact t.elim
theorem Gd.top {K : PySem.W.Frag} {S : Addr → Prop} {ρ : Rho} {σ : L2.St} {H : Hp} {j : Nat} {st : Stt} {d : PyData} (g : Gd K S ρ σ H) (h : ρ[j]? = some (some (st, d))) (hm : st.mut = true) : ∃ a, σ[j]? = some (some (V.ref a)) ∧ ¬ S a ∧ TopX K S H a d := by
  obtain ⟨v, hv, sr⟩ := g.sl j st d h
  have top : ∃ a, v = .ref a ∧ ¬ S a ∧ TopX K S H a d := by cases st <;> first | exact sr | cases hm
  obtain ⟨a, rfl, ns, tx⟩ := top
  exact ⟨a, hv, ns, tx⟩
section
variable {X : Cx} {T id : String} {x name : Str} {e : Expr} {es : List Expr} {g : Mo (List Rs)} {op : PyData → List PyData → Option (PyData × PyData)} {r : V → List V → Hp → VK → Prop} {np apos cpos : Pos}
theorem xMut_fin {K : PySem.W.Frag} {S0 S : Addr → Prop} {ρ0 ρ ρ' : Rho} {σ : L2.St} {H0 H : Hp} {j : Nat} {a : Addr} {rs : List Rs} {vs : List V} {rr : Rs} {ds : List PyData} {ρ1 : Rho} {Q : VK} (md : MetD K op r) (n : Now K σ S0 ρ0 H0 S ρ H) (R : RRL K H0 S H ρ σ vs rs) (e1 : keepL rs ρ = some (ds, ρ1)) (e2 : mutR j (fun d => op d ds) ρ1 = some (rr, ρ'))
    (ha : σ[j]? = some (some (V.ref a))) (q : ∀ v S' H', Fm S0 ρ0 σ H0 S' ρ' H' → Gd K S' ρ' σ H' → RR K H0 S' H' ρ' σ v rr → Q v H') : r (.ref a) vs H Q := by
  obtain ⟨S2, n2, p2, _⟩ := RRLw.keep rs n R.w e1
  obtain ⟨st, d, d', rt, m1, m2, m3, rfl, rfl⟩ := mutR_some e2
  obtain ⟨b, hb, ns, tx⟩ := n2.g.top m1 m2
  rw [ha] at hb; cases hb
  exact md S2 H a d d' rt ds vs Q n2.g.al ns tx p2 m3 fun o' v t rv => by
    have n3 := n2.mutate (o' := o') m1 m2 ha fun _ => t
    exact q v S2 _ n3.f n3.g rv
theorem pd_mut (j : Nat) (pa : PlainAttrs T) (slot : Slot T name id) (hty : typeOf (.builtin id) = pure (.type "method_descriptor")) (hm : MtR X id r) (md : MetD X.K op r) (ha : AD X (e :: es) g) (hN : X.N[j]? = some x := by rfl)
    (hvis : Vis X.env.scope x := by first | exact Or.inl rfl | exact Or.inr (Or.inl rfl) | exact Or.inr (Or.inr rfl)) (hd : (x == ("__debug__" : Str)) = false := by decide) (hcd : (x == ("__classdict__" : Str)) = false := by decide)
    (hbase : attributeBase (.Name x np) name X.env (eval (.Name x np) X.env) = eval (.Name x np) X.env := by rfl)
    (hfew : ((backTo cpos (starEach (e :: es) X.env)).all (fun x => !x.1) && (backToKw cpos (keywordEach [] X.env)).all (fun x => x.1.isSome)
      && decide ((e :: es).length + ([] : List Keyword).length + (if ([] : List Keyword).isEmpty then 0 else 1) < 30)) = true := by rfl)
    (hline : (apos.endLine == cpos.line) = true := by rfl) (hs : starEach (e :: es) X.env = (false, eval e X.env) :: starEach es X.env := by rfl) (hplain : (backTo cpos (starEach es X.env)).any (·.1) = false := by rfl) :
    PD X (.Call (.Attribute (.Name x np) name apos) (e :: es) [] cpos) (xMut T j op g) := PE.to (pe_bm pa slot hty hm (pe_var hN hvis hd hcd) ha hbase hfew hline hs hplain) fun σ H Q h => by
  obtain ⟨S, ρ, rr, ρ', G, e, q⟩ := h
  obtain ⟨u, ρ1, e1, a1⟩ := bindM_some e
  obtain ⟨rs, ρ2, e2, a2⟩ := bindM_some a1
  obtain ⟨ds, ρ3, e3, a3⟩ := bindM_some a2
  obtain ⟨st, d, c1, c2, c3, rfl⟩ := chkT_some e1
  obtain ⟨a, hv, ns, tx⟩ := G.top c1 c2
  refine ⟨_, hv, by rw [← c3]; exact tx.tyV, S, _, rs, ρ2, G, e2, fun vs S1 H1 F1 G1 R1 => ?_⟩
  exact xMut_fin md ⟨G, F1, G1⟩ R1 e3 a3 hv q
theorem pd_mut0 (j : Nat) (pa : PlainAttrs T) (slot : Slot T name id) (hty : typeOf (.builtin id) = pure (.type "method_descriptor")) (hm : MtR X id r) (md : MetD X.K op r) (hN : X.N[j]? = some x := by rfl)
    (hvis : Vis X.env.scope x := by first | exact Or.inl rfl | exact Or.inr (Or.inl rfl) | exact Or.inr (Or.inr rfl)) (hd : (x == ("__debug__" : Str)) = false := by decide) (hcd : (x == ("__classdict__" : Str)) = false := by decide)
    (hbase : attributeBase (.Name x np) name X.env (eval (.Name x np) X.env) = eval (.Name x np) X.env := by rfl) (hline : (apos.endLine == cpos.line) = true := by rfl) :
    PD X (.Call (.Attribute (.Name x np) name apos) [] [] cpos) (xMut T j op aN) := PE.to (pe_bm0 pa slot hty hm (pe_var hN hvis hd hcd) hbase hline) fun σ H Q h => by
  obtain ⟨S, ρ, rr, ρ', G, e, q⟩ := h
  obtain ⟨u, ρ1, e1, a1⟩ := bindM_some e
  obtain ⟨rs, ρ2, e2, a2⟩ := bindM_some a1
  obtain ⟨ds, ρ3, e3, a3⟩ := bindM_some a2
  obtain ⟨st, d, c1, c2, c3, rfl⟩ := chkT_some e1
  cases retM_some e2
  obtain ⟨a, hv, ns, tx⟩ := G.top c1 c2
  exact ⟨_, hv, by rw [← c3]; exact tx.tyV, xMut_fin md (Now.start G) .nil e3 a3 hv q⟩
end
def mAppend : PyData → List PyData → Option (PyData × PyData)
  | .list xs, [y] => if xs.length < LIM then some (.list (xs ++ [y]), .none) else none
  | _, _ => none
def mExtend : PyData → List PyData → Option (PyData × PyData)
  | .list xs, [.list ys] => if xs.length + ys.length ≤ LIM then some (.list (xs ++ ys), .none) else none
  | _, _ => none
def mPop : PyData → List PyData → Option (PyData × PyData)
  | .list xs, [] => (xs[xs.length - 1]?).map fun y => (.list xs.dropLast, y)
  | _, _ => none
def mPopAt : PyData → List PyData → Option (PyData × PyData)
  | .list xs, [.int i] => if smallI i = true then (seqIndex? i xs.length).bind fun k => (xs[k]?).map fun y => (.list (xs.eraseIdx k), y) else none
  | _, _ => none
def mUpdate : PyData → List PyData → Option (PyData × PyData)
  | .dict kvs, [.dict more] => if kvs.length + more.length ≤ LIM then some (.dict (mergeD kvs more), .none) else none
  | _, _ => none
section
variable {X : Cx}
theorem RpL.one {K : PySem.W.Frag} {S : Addr → Prop} {H : Hp} {vs : List V} {d : PyData} (h : RpL K S H vs [d]) : ∃ v, vs = [v] ∧ Rp K S H v d := by
  cases h with
  | cons h t => cases t; exact ⟨_, rfl, h⟩
theorem uph_at {S : Addr → Prop} {H : Hp} {a : Addr} (ns : ¬ S a) (o' : HO) : Uph S H S (upd H a o') := ⟨fun _ h => h, fun b o hb e => by rw [upd_ne (show b ≠ a from fun z => ns (z ▸ hb))]; exact e⟩
theorem RpL.dropLast {K : PySem.W.Frag} {S : Addr → Prop} {H : Hp} {vs : List V} {ds : List PyData} (h : RpL K S H vs ds) : RpL K S H vs.dropLast ds.dropLast := by
  rw [List.dropLast_eq_take, List.dropLast_eq_take, h.len]
  exact h.take _
theorem md_append {K : PySem.W.Frag} : MetD K mAppend rAppend := by
  intro S H a d d' rt ds vs Q al ns t r e q
  unfold mAppend at e
  split at e
  · split at e
    · rename_i xs y hz
      cases e
      obtain ⟨ws, h1, p1⟩ := t
      obtain ⟨v, rfl, rv⟩ := r.one
      have u := uph_at (H := H) ns (.lst (ws ++ [v]))
      exact ⟨a, ws, v, rfl, rfl, h1, by rw [p1.len]; exact lim_lt hz, q _ _ ⟨_, upd_same, (p1.app (.cons rv .nil)).up u⟩ .non⟩
    · cases e
  · cases e
theorem md_extend {K : PySem.W.Frag} : MetD K mExtend rExtend := by
  intro S H a d d' rt ds vs Q al ns t r e q
  unfold mExtend at e
  split at e
  · split at e
    · rename_i xs ys hz
      cases e
      obtain ⟨ws, h1, p1⟩ := t
      obtain ⟨v, rfl, rv⟩ := r.one
      cases rv with
      | lst hs h2 p2 =>
        rename_i b zs
        have u := uph_at (H := H) ns (.lst (ws ++ zs))
        exact ⟨a, b, ws, zs, rfl, rfl, h1, h2, by rw [p1.len, p2.len]; exact lim_line hz, q _ _ ⟨_, upd_same, (p1.app p2).up u⟩ .non⟩
    · cases e
  · cases e
theorem md_pop {K : PySem.W.Frag} : MetD K mPop rPop := by
  intro S H a d d' rt ds vs Q al ns t r e q
  unfold mPop at e
  split at e
  · obtain ⟨y, hy, e1⟩ := Option.map_eq_some_iff.mp e
    cases e1
    obtain ⟨ws, h1, p1⟩ := t
    cases r
    obtain ⟨v, hv, rv⟩ := p1.get hy
    have u := uph_at (H := H) ns (.lst ws.dropLast)
    exact ⟨a, ws, v, rfl, rfl, h1, by rw [p1.len]; exact hv, q _ _ ⟨_, upd_same, (p1.dropLast).up u⟩ (rv.up u)⟩
  · cases e
theorem md_popAt {K : PySem.W.Frag} : MetD K mPopAt rPopAt := by
  intro S H a d d' rt ds vs Q al ns t r e q
  unfold mPopAt at e
  split at e
  · split at e
    · rename_i hi
      obtain ⟨k, hk, e1⟩ := Option.bind_eq_some_iff.mp e
      obtain ⟨y, hy, e2⟩ := Option.map_eq_some_iff.mp e1
      cases e2
      obtain ⟨ws, h1, p1⟩ := t
      obtain ⟨w, rfl, rw'⟩ := r.one
      cases rw'
      obtain ⟨v, hv, rv⟩ := p1.get hy
      have hi' := of_decide_eq_true hi
      have u := uph_at (H := H) ns (.lst (ws.eraseIdx k))
      exact ⟨a, ws, _, k, v, rfl, rfl, h1, by omega, by omega, by rw [p1.len]; exact hk, hv, q _ _ ⟨_, upd_same, (p1.erase k).up u⟩ (rv.up u)⟩
    · cases e
  · cases e
/-- d.update(e), another dict -/
def rUpdate : V → List V → Hp → VK → Prop := fun x vs H Q => ∃ a b kvs more, x = .ref a ∧ vs = [.ref b] ∧ a ≠ b ∧ H a = some (.dK kvs) ∧ Rd H b (.dK more) ∧ kvs.length + more.length ≤ sizeLine ∧ Q .non (upd H a (.dK (mergeK kvs more)))
theorem mt_update : MtR X "dict.update" rUpdate := by
  intro pins s σ H x vs v us Q I rx rv h
  obtain ⟨a, b, kvs, more, rfl, rfl, hne, ha, hb, hz, q⟩ := h
  cases rx
  obtain ⟨w, rfl, rw'⟩ := rv.one
  cases rw'
  obtain ⟨z, hd, va, rel, dd⟩ := dk_of I.hok ha
  obtain ⟨z2, hd2, vb, rel2, dd2⟩ := dk_rd I.hok hb
  have hl : va.length + vb.length ≤ sizeLine := by rw [← rel.length, ← rel2.length]; exact hz
  refine call_meetsIn PySem.F.slot_dict_update dd.typeIs PySem.F.entry_dict_update (PySem.F.args_dict_update_2 _ _) (meets_dict_update (mixKind X.prog X.w) a b hne hd2) ⟨va, vb, dd, dd2, hl, fun h' dd' _ hs => ?_⟩
  have he : ∃ q, h'.get? a = some q := let ⟨q, _, _, hq, _⟩ := dd'; ⟨q, hq⟩
  have hm : (mergeK kvs more).length ≤ sizeLine := Nat.le_trans (length_mergeK more kvs) hz
  exact ⟨.non, _, d_write (t' := s.toks) I (by rw [ha]; exact True.intro) hs he (dk_new hm hd (KV.merge rel2 rel) dd'), rfl, q⟩
theorem md_update {K : PySem.W.Frag} : MetD K mUpdate rUpdate := by
  intro S H a d d' rt ds vs Q al ns t r e q
  unfold mUpdate at e
  split at e
  · split at e
    · rename_i kvs more hz
      cases e
      obtain ⟨ts, h1, p1, p2⟩ := t
      obtain ⟨v, rfl, rv⟩ := r.one
      cases rv with
      | dct hs h2 k2 r2 =>
        rename_i b us
        have kv1 : KvR K S H ts kvs := ⟨p1, p2⟩
        have kv2 : KvR K S H us more := ⟨k2, r2⟩
        have m := KvR.merge kv2 kv1
        have u := uph_at (H := H) ns (.dK (mergeK ts us))
        exact ⟨a, b, ts, us, rfl, rfl, fun z => ns (z ▸ hs), h1, h2, by rw [← kv1.len, ← kv2.len]; exact lim_line hz, q _ _ ⟨_, upd_same, m.1, m.2.up u⟩ .non⟩
    · cases e
  · cases e
end

/-! ### d.get -/
def isDct : PyData → Bool
  | .dict _ => true | _ => false
def getK (o k : PyData) : Option (Option PyData) := match o with
  | .dict kvs => (keyOf? k).map fun k => lookD (keyD k) kvs
  | _ => none
/-- d.get(k, x) -/
def xGet2 (f fk fx : Mo Rs) : Mo Rs := bindM f fun r => bindM (rdR r) fun o0 => if isDct o0 = true then bindM fk fun rk => bindM fx fun rx => bindM (rdR rk) fun k => bindM (rdR r) fun o => bindM (keepR rx) fun x => bindM (optM (getK o k)) fun y => retM (.kept (y.getD x)) else fun _ => none
/-- d.get(k) -/
def xGet1 (f fk : Mo Rs) : Mo Rs := bindM f fun r => bindM (rdR r) fun o0 => if isDct o0 = true then bindM fk fun rk => bindM (rdR rk) fun k => bindM (rdR r) fun o => bindM (optM (getK o k)) fun y => retM (.kept (y.getD .none)) else fun _ => none
theorem Rdb.more {K : PySem.W.Frag} {S S' : Addr → Prop} {H : Hp} {v : V} {d : PyData} (sh : ∀ b, S b → S' b) (r : Rdb K S H v d) : Rdb K S' H v d := by
  have u : Uph S H S' H := ⟨sh, fun _ _ _ h => h⟩
  rcases r with r | ⟨a, e, r⟩
  · exact .inl (Rp.up u r)
  · exact .inr ⟨a, e, TopR.up u (fun _ e => e) r⟩
theorem Rdb.isD {K : PySem.W.Frag} {S : Addr → Prop} {H : Hp} {v : V} {d : PyData} (r : Rdb K S H v d) (h : isDct d = true) : ∃ a, v = .ref a ∧ IsD H a := by
  cases d with
  | dict kvs => obtain ⟨a, ts, rfl, h1, _⟩ := r.dct; exact ⟨a, rfl, .inl ⟨ts, h1⟩⟩
  | _ => cases h
theorem getK_run {K : PySem.W.Frag} {S : Addr → Prop} {H : Hp} {v w : V} {o k : PyData} {y : Option PyData} (r : Rdb K S H v o) (rk : Rdb K S H w k) (e : getK o k = some y) : ∃ a z, v = .ref a ∧ DGet H a w z ∧ ((z = none ∧ y = none) ∨ ∃ zv yd, z = some zv ∧ y = some yd ∧ Rp K S H zv yd) := by
  unfold getK at e
  split at e
  · obtain ⟨kk, hk, rfl⟩ := Option.map_eq_some_iff.mp e
    obtain ⟨a, ts, rfl, h1, p1, p2⟩ := r.dct
    obtain rfl := rk.key hk
    refine ⟨a, _, rfl, DGet.of h1, ?_⟩
    rcases look_of kk p1 p2 with ⟨n1, n2⟩ | ⟨w, d', n1, n2, n3⟩
    · exact .inl ⟨n1, n2⟩
    · exact .inr ⟨w, d', n1, n2, n3⟩
  · cases e
section
variable {X : Cx} {o e f : Expr} {fo fk fx : Mo Rs} {apos cpos : Pos}
theorem pd_get2 (hu : X.A.units + 64 < cLine) (ho : PD X o fo) (he : PD X e fk) (hf : PD X f fx) (m : M2 X o "get" apos e f cpos) : PD X (.Call (.Attribute o "get" apos) [e, f] [] cpos) (xGet2 fo fk fx) := PE.to (pe_dget2 (by omega) ho he hf m) fun σ H Q h => by
  obtain ⟨S, ρ, r, ρ', G, e, q⟩ := h
  obtain ⟨r0, ρ1, e1, a1⟩ := bindM_some e
  obtain ⟨o0, ρ2, e2, a2⟩ := bindM_some a1
  obtain rfl := rdR_same e2
  split at a2
  · rename_i hd
    obtain ⟨rk, ρ3, e3, a3⟩ := bindM_some a2
    obtain ⟨rx, ρ4, e4, a4⟩ := bindM_some a3
    obtain ⟨k, ρ5, e5, a5⟩ := bindM_some a4
    obtain ⟨o1, ρ6, e6, a6⟩ := bindM_some a5
    obtain ⟨x, ρ7, e7, a7⟩ := bindM_some a6
    obtain ⟨y, ρ8, e8, a8⟩ := bindM_some a7
    cases retM_some a8
    obtain rfl := rdR_same e5
    obtain rfl := rdR_same e6
    obtain ⟨b1, b2⟩ := optM_some e8
    simp only at b1 b2
    subst b2
    refine ⟨S, ρ, r0, _, G, e1, fun v S1 H1 F1 G1 R1 => ?_⟩
    obtain ⟨a, rfl, hD⟩ := ((R1.rd G1 e2).1).isD hd
    refine ⟨a, rfl, hD, S1, _, rk, ρ3, G1, e3, fun w S2 H2 F2 G2 R2 => ⟨S2, ρ3, rx, _, G2, e4, fun z S3 H3 F3 G3 R3 => ?_⟩⟩
    have n1 : Now X.K σ S ρ H S1 _ H1 := ⟨G, F1, G1⟩
    have n2 := n1.step F2 G2
    have n3 := n2.step F3 G3
    obtain ⟨S4, n4, p4, sh4⟩ := (R3.pre n2).w.keep n3 e7
    obtain ⟨rdk, _⟩ := ((R2.pre n1).fm n2 F3).rd G3 e5
    obtain ⟨rdo, _⟩ := ((R1.fm n1 F2).fm n2 F3).rd G3 e6
    obtain ⟨b, zz, hb, dg, hz⟩ := getK_run (rdo.more sh4) (rdk.more sh4) b1
    cases hb
    refine ⟨zz, dg, q _ S4 H3 n4.f n4.g ?_⟩
    rcases hz with ⟨rfl, rfl⟩ | ⟨zv, yd, rfl, rfl, hr⟩
    · exact p4
    · exact hr
  · cases a2
theorem pd_get1 (hu : X.A.units + 64 < cLine) (ho : PD X o fo) (he : PD X e fk) (m : M1 X o "get" apos e cpos) : PD X (.Call (.Attribute o "get" apos) [e] [] cpos) (xGet1 fo fk) := PE.to (pe_dget1 (by omega) ho he m) fun σ H Q h => by
  obtain ⟨S, ρ, r, ρ', G, e, q⟩ := h
  obtain ⟨r0, ρ1, e1, a1⟩ := bindM_some e
  obtain ⟨o0, ρ2, e2, a2⟩ := bindM_some a1
  obtain rfl := rdR_same e2
  split at a2
  · rename_i hd
    obtain ⟨rk, ρ3, e3, a3⟩ := bindM_some a2
    obtain ⟨k, ρ5, e5, a5⟩ := bindM_some a3
    obtain ⟨o1, ρ6, e6, a6⟩ := bindM_some a5
    obtain ⟨y, ρ8, e8, a8⟩ := bindM_some a6
    cases retM_some a8
    obtain rfl := rdR_same e5
    obtain rfl := rdR_same e6
    obtain ⟨b1, b2⟩ := optM_some e8
    simp only at b1 b2
    subst b2
    refine ⟨S, ρ, r0, _, G, e1, fun v S1 H1 F1 G1 R1 => ?_⟩
    obtain ⟨a, rfl, hD⟩ := ((R1.rd G1 e2).1).isD hd
    refine ⟨a, rfl, hD, S1, _, rk, _, G1, e3, fun w S2 H2 F2 G2 R2 => ?_⟩
    have n1 : Now X.K σ S ρ H S1 _ H1 := ⟨G, F1, G1⟩
    have n2 := n1.step F2 G2
    obtain ⟨rdk, _⟩ := (R2.pre n1).rd G2 e5
    obtain ⟨rdo, _⟩ := (R1.fm n1 F2).rd G2 e6
    obtain ⟨b, zz, hb, dg, hz⟩ := getK_run rdo rdk b1
    cases hb
    refine ⟨zz, dg, q _ S2 H2 n2.f n2.g ?_⟩
    rcases hz with ⟨rfl, rfl⟩ | ⟨zv, yd, rfl, rfl, hr⟩
    · exact .non
    · exact hr
  · cases a2
end

/-! ### t[::-1] of a tuple, l[::-1] of a list -/
theorem adj_rev (n : Nat) : Builtin.Slice.sliceAdjust none none (-1) (n : Int) = ((n : Int) - 1, -1) := by
  unfold Builtin.Slice.sliceAdjust
  simp
theorem places_rev (n : Nat) : Builtin.Slice.slicePlaces ((n : Int) - 1) (-1) (-1) = n := by
  unfold Builtin.Slice.slicePlaces
  simp
  split <;> omega
theorem fm_map {α β : Type} (f : α → Option β) (g : α → β) : ∀ l : List α, (∀ m ∈ l, f m = some (g m)) → l.filterMap f = l.map g
  | [], _ => rfl
  | x :: r, h => by
    rw [List.filterMap_cons, h x List.mem_cons_self, List.map_cons, fm_map f g r fun m hm => h m (List.mem_cons_of_mem _ hm)]
theorem pick_rev : ∀ (xs : Array Value), ((List.range xs.size).filterMap fun (m : Nat) => xs[(((xs.size : Int) - 1) + (m : Int) * (-1)).toNat]?) = xs.toList.reverse := by
  intro xs
  apply List.ext_getElem?
  intro i
  have all : ∀ m ∈ List.range xs.size, xs[(((xs.size : Int) - 1) + (m : Int) * (-1)).toNat]? = some (xs.toList.reverse.getD m .none) := by
    intro m hm
    have hm' : m < xs.size := List.mem_range.mp hm
    have e : (((xs.size : Int) - 1) + (m : Int) * (-1)).toNat = xs.size - 1 - m := by omega
    rw [e, ← Array.getElem?_toList, List.getD_eq_getElem?_getD, List.getElem?_reverse (by simpa using hm'), Array.length_toList]
    rw [List.getElem?_eq_getElem (by rw [Array.length_toList]; omega)]
    rfl
  have e2 : ((List.range xs.size).filterMap fun (m : Nat) => xs[(((xs.size : Int) - 1) + (m : Int) * (-1)).toNat]?) = (List.range xs.size).map fun m => xs.toList.reverse.getD m .none := by
    exact fm_map _ _ _ all
  rw [e2, List.getElem?_map]
  by_cases hi : i < xs.size
  · rw [List.getElem?_range hi, List.getElem?_eq_getElem (by simpa using hi)]
    simp [List.getD_eq_getElem?_getD, hi]
  · rw [List.getElem?_eq_none (by simpa using hi), List.getElem?_eq_none (by simpa using hi)]
    rfl
section
open PySem.SeqAt PySem.MeetsSeq PyProof.Rows
variable {prog : Program} {w : World} {A : Around} {E : Value → Shared → Prop} {s : Shared}
theorem sapp_rev {sl : Addr} {vl vu vt : Value} {n : Nat} {Q : Int × Int × Nat → Shared → Prop} (hs : s.heap.IsSliceOf sl vl vu vt) (pl : IsPart vl none) (pu : IsPart vu none) (pt : IsPart vt (some (-1))) (h : Q ((n : Int) - 1, -1, n) s) : wpAny (model prog w) A (Builtin.Slice.sliceApplied (.ref sl) (pure (n : Int))) Q E s := by
  obtain ⟨os, g1, g2, g3⟩ := id hs
  unfold Builtin.Slice.sliceApplied Builtin.Slice.sliceFields
  refine wpAny_bind (wpAny_bind (wpAny_field g1 g3 (x := vl) rfl (wpAny_bind (wpAny_field g1 g3 (x := vu) rfl (wpAny_bind (wpAny_field g1 g3 (x := vt) rfl (wpAny_pure ?_)))))))
  refine wpAny_bind (HT.slicePart_ pt ?_)
  show wpAny _ _ (if (((-1) : Int) == 0) = true then _ else _) _ _ s
  rw [if_neg (by decide)]
  refine wpAny_bind (HT.slicePart_ pl (wpAny_bind (HT.slicePart_ pu (wpAny_bind (wpAny_pure ?_)))))
  show wpAny _ _ (match Builtin.Slice.sliceAdjust none none (-1) (n : Int) with | (lo, hi) => pure (lo, (-1 : Int), Builtin.Slice.slicePlaces lo hi (-1))) _ _ s
  rw [adj_rev n]
  show wpAny _ _ (pure ((n : Int) - 1, (-1 : Int), Builtin.Slice.slicePlaces ((n : Int) - 1) (-1) (-1))) _ _ s
  rw [places_rev]
  exact wpAny_pure h
theorem item_rev {t sl : Addr} {items : Array Value} {vl vu vt : Value} {Q : Value → Shared → Prop} (ht : IsTup s.heap t items) (hs : s.heap.IsSliceOf sl vl vu vt) (pl : IsPart vl none) (pu : IsPart vu none) (pt : IsPart vt (some (-1))) (hsz : items.size ≤ sizeLine)
    (h : Q (.ref s.heap.objs.size) { s with heap := s.heap.push { cls := .type "tuple", data := .seq items.toList.reverse.toArray } }) : wpAny (model prog w) A (getItem (.ref t) (.ref sl)) Q E s := by
  have ok : sizeOk (.seq items.toList.reverse.toArray) := by
    show items.toList.reverse.toArray.size ≤ sizeLine
    simpa using hsz
  obtain ⟨os, g1, g2, g3⟩ := id hs
  have hT : s.TypeIs (.ref sl) "slice" := ⟨os, g1, g2⟩
  unfold getItem
  try with_reducible refine wpAny_holding ?_
  first | refine wpAny_bind (wpAny_pure ?_) | skip
  refine wpAny_bind (wpAny_sequenceKey ht.typeIs (by decide) ?_)
  refine wpAny_bind (wpAny_callSpecial?_slot (name := Str.ofString "__getitem__") ht.typeIs PyProof.Rows.slot_tuple_getitem (wpAny_call_entry PyProof.Rows.slot_tuple_getitem ht.typeIs entry_tuple_getitem ?_ (args_tuple_getitem _ _)))
  show wpAny _ _ (Builtin.Tuple.tupleItemsOf (.ref t) >>= _) _ _ s
  refine wpAny_bind (tupleItemsOf_ ht (wpAny_bind (wpAny_typeOf hT ?_)))
  rw [if_pos (by decide)]
  refine wpAny_bind (sapp_rev hs pl pu pt ?_)
  have hno : ¬ (((((items.size : Nat) : Int) - 1) == 0 && ((-1) : Int) == 1 && items.size == items.size) = true) := by
    simp
  show wpAny _ _ (if ((((items.size : Nat) : Int) - 1) == 0 && ((-1) : Int) == 1 && items.size == items.size) = true then _ else _) _ _ s
  rw [if_neg hno, pick_rev]
  first
    | exact wpAny_bind (m := Builtin.Tuple.tupleExact _) (wpAny_newObj_type (wpAny_pure ⟨_, rfl, wpAny_pure h⟩) ok)
    | exact wpAny_bind (wpAny_bind (m := Builtin.Tuple.tupleExact _) (wpAny_newObj_type (wpAny_pure (wpAny_pure ⟨_, rfl, wpAny_pure h⟩)) ok))
    | exact wpAny_bind (m := Builtin.Tuple.tupleExact _) (wpAny_newObj_type (wpAny_bind (wpAny_pure (wpAny_pure ⟨_, rfl, wpAny_pure h⟩))) ok)
    | exact wpAny_bind (wpAny_bind (m := Builtin.Tuple.tupleExact _) (wpAny_newObj_type (wpAny_pure ⟨_, rfl, wpAny_pure h⟩) ok))
end
def tRevA (K : PySem.W.Frag) (te : TE) : TE := fun σ H Q => te σ H fun x H1 => ∃ a xs, x = .ref a ∧ ((H1 a = some (.lst xs) ∧ ∀ p, H1 p = none → Q (.ref p) (upd H1 p (.lst xs.reverse))) ∨ (SqT K H1 a xs ∧ NewT H1 xs.reverse Q))
section
variable {X : Cx} {e : Expr} {te : TE} {f : Mo Rs} {k : Nat} {p1 p2 p3 pos : Pos}
theorem pe_revT (he : PE X e te) : PE X (.Subscript e (.Slice none none (some (.UnaryOp .USub (.Constant (.int 1) k p1) p2)) p3) pos) (tRevA X.K te) := by
  refine ⟨fun pins s σ H Q I h => ?_⟩
  refine PyProof.Rows.Subscript_ (thn (he.run pins s σ H _ I h) fun v s1 ⟨x, H1, I1, r1, a, xs, ex, q⟩ => ?_)
  subst ex
  cases r1
  have step : PO X (some (.UnaryOp .USub (.Constant (.int 1) k p1) p2)) (tPart (tUn (rU fun i => .int (-i)) (tC (.int 1)))) := po_some (pe_un un_neg pe_int)
  refine wpAny_Slice (thn (po_none.run pins s1 σ H1 (fun o H2 => o = none ∧ H2 = H1) I1 ⟨rfl, rfl⟩) fun vl s2 ⟨l, H2, I2, pl, el, e2⟩ => ?_)
  subst el e2
  refine thn (po_none.run pins s2 σ H2 (fun o H3 => o = none ∧ H3 = H2) I2 ⟨rfl, rfl⟩) fun vu s3 ⟨u, H3, I3, pu, eu, e3⟩ => ?_
  subst eu e3
  refine thn (step.run pins s3 σ H3 (fun o H4 => o = some (-1) ∧ H4 = H3) I3 ⟨1, rfl, -1, rfl, rfl, rfl⟩) fun vt s4 ⟨o, H4, I4, pt, eo, e4⟩ => ?_
  subst eo e4
  have I5 : Inv X pins σ H4 { s4 with heap := s4.heap.push { cls := .type "slice", data := .fields #[vl, vu, vt] } } := I4.kept (t' := s4.toks) fun b ob z => Heap.get?_push_of_some _ z
  show wpAny (model X.prog X.w) X.A (PyProof.Rows.subscriptTail e (.Slice none none (some (.UnaryOp .USub (.Constant (.int 1) k p1) p2)) p3) (.ref a) (.ref s4.heap.objs.size)) (EP X pins σ Q) X.xe { s4 with heap := s4.heap.push { cls := .type "slice", data := .fields #[vl, vu, vt] } }
  rcases q with ⟨hx, q⟩ | ⟨hx, q⟩
  · obtain ⟨its, r, ht, hz⟩ := I5.list (SqL.of hx)
    have hlen := r.length
    refine PyProof.Rows.tail_any (ops := [.ref a, .ref s4.heap.objs.size]) ht.isList.typeIs (PySem.slot_list_getitem.lookup) ?_ (by with_unfolding_all rfl)
    refine wpAny_getItem_list_slice ht.isList (Heap.IsSliceOf.new _ vl vu vt) pl pu pt (by decide) ?_ (by rw [List.size_toArray]; omega)
    rw [PySem.W.krv_pick]
    exact ⟨.ref _, _, I5.laid (t' := s4.toks) (o := .lst xs.reverse) (fun b ob z => Heap.get?_push_of_some _ z) (Nat.le_refl _) ⟨by rw [List.length_reverse]; exact hz, _, 0, r.reverse, Heap.get?_push_size _ rfl⟩, rfl, q _ (I5.hok.fresh (Nat.le_refl _))⟩
  · obtain ⟨its, r, ht, hz⟩ := I5.tuple hx
    have hlen := r.length
    refine PyProof.Rows.tail_any (ops := [.ref a, .ref s4.heap.objs.size]) ht.typeIs PyProof.Rows.slot_tuple_getitem.lookup ?_ (by with_unfolding_all rfl)
    refine item_rev ht (Heap.IsSliceOf.new _ vl vu vt) pl pu pt (by rw [List.size_toArray]; omega) ?_
    exact q.put (k := s4.toks) I5 r.reverse (by rw [List.length_reverse]; exact hz)
def opRev : PyData → Option PyData
  | .list ds => some (.list ds.reverse)
  | .tuple ds => some (.tuple ds.reverse)
  | _ => none
theorem pd_rev (he : PD X e f) : PD X (.Subscript e (.Slice none none (some (.UnaryOp .USub (.Constant (.int 1) k p1) p2)) p3) pos) (x1 opRev f) := PE.to (pe_revT he) fun σ H Q h => by
  obtain ⟨S, ρ, r, ρ', G, e, q⟩ := h
  obtain ⟨r1, ρ1, e1, e2⟩ := bindM_some e
  obtain ⟨d, ρ2, e3, e4⟩ := bindM_some e2
  obtain ⟨d', ρ3, e5, e6⟩ := bindM_some e4
  obtain ⟨b1, b2⟩ := optM_some e5
  simp only at b1 b2
  cases retM_some e6
  refine ⟨S, ρ, r1, ρ1, G, e1, fun v S1 H1 F1 G1 R1 => ?_⟩
  obtain ⟨rd, rfl⟩ := R1.rd G1 e3
  subst b2
  have n1 : Now X.K σ S ρ H S1 _ H1 := ⟨G, F1, G1⟩
  unfold opRev at b1
  split at b1
  · cases b1
    obtain ⟨a, vs, rfl, h1, p1⟩ := rd.lst
    exact ⟨a, vs, rfl, .inl ⟨h1, fun p hp => q _ S1 _ (n1.grow (Gw.lay G1.al hp)).f (n1.grow (Gw.lay G1.al hp)).g (lay_lst G1.al p1.rev hp (n1.none0 hp))⟩⟩
  · cases b1
    obtain ⟨a, vs, rfl, h1, p1⟩ := rd.tup
    exact ⟨a, vs, rfl, .inr ⟨h1.sq, fun p o hp ho => q _ _ _ (n1.grow (Gw.layS G1.al hp)).f (n1.grow (Gw.layS G1.al hp)).g (lay_tupN G1.al p1.rev hp ho)⟩⟩
  · cases b1
end
end PyI

/-! PyI, part K: dicts walked: they are locked meanwhile. -/
namespace PyI
open PySem PySem.Spec L2

/-! ### the dict at d, locked or not -/
structure Tw (d : Addr) (ts : List (Key × V)) (H H' : Hp) : Prop where
  ne : ∀ a, a ≠ d → H' a = H a
  h1 : Rd H d (.dK ts)
  h2 : Rd H' d (.dK ts)
theorem rd_inj {H : Hp} {d : Addr} {ts us : List (Key × V)} (h : Rd H d (.dK ts)) (k : Rd H d (.dK us)) : us = ts := by
  rcases h with h | ⟨o, h⟩ <;> rcases k with k | ⟨o', k⟩ <;> (rw [h] at k; cases k; try rfl)
theorem rd_not {H : Hp} {d : Addr} {ts : List (Key × V)} {u : HO} (h : Rd H d (.dK ts)) (k : H d = some u) : u = .dK ts ∨ ∃ o, u = .frz o (.dK ts) := by
  rcases h with h | ⟨o, h⟩
  · rw [h] at k; cases k; exact .inl rfl
  · rw [h] at k; cases k; exact .inr ⟨o, rfl⟩
section
variable {K : PySem.W.Frag} {S S' : Addr → Prop} {ρ ρ' : Rho} {σ σ' : L2.St} {H H' : Hp} {d a : Addr} {ts : List (Key × V)} {v : V} {x : PyData}
theorem Tw.other {u : HO} (t : Tw d ts H H') (h : H a = some u) (h1 : u ≠ .dK ts) (h2 : ∀ o, u ≠ .frz o (.dK ts)) : a ≠ d := by
  rintro rfl
  rcases rd_not t.h1 h with e | ⟨o, e⟩
  · exact h1 e
  · exact h2 o e
theorem Tw.at' {u : HO} (t : Tw d ts H H') (h : H a = some u) (h1 : u ≠ .dK ts) (h2 : ∀ o, u ≠ .frz o (.dK ts)) : H' a = some u := by rw [t.ne a (t.other h h1 h2)]; exact h
theorem Tw.rd {us : List (Key × V)} (t : Tw d ts H H') (h : Rd H a (.dK us)) : Rd H' a (.dK us) := by
  by_cases e : a = d
  · subst e
    rw [rd_inj t.h1 h]; exact t.h2
  · rcases h with h | ⟨o, h⟩
    · exact .inl (by rw [t.ne a e]; exact h)
    · exact .inr ⟨o, by rw [t.ne a e]; exact h⟩
theorem Tw.stup {vs : List V} (t : Tw d ts H H') (h : STup K S H a vs) : STup K S H' a vs := by
  rcases h with ⟨h1, h2 | ⟨o, h2⟩⟩ | h
  · exact .inl ⟨h1, .inl (t.at' h2 (by simp) (by simp))⟩
  · exact .inl ⟨h1, .inr ⟨o, t.at' h2 (by simp) (by simp)⟩⟩
  · exact .inr h
theorem Tw.plt {vs : List V} (t : Tw d ts H H') (h : PlT S H a vs) : PlT S H' a vs := by
  obtain ⟨h1, o, h2, h3⟩ := h
  exact ⟨h1, o, t.at' h2 (by simp) (by simp), h3⟩
mutual
theorem Rp.tw (t : Tw d ts H H') : ∀ {v : V} {x : PyData}, Rp K S H v x → Rp K S H' v x
  | _, _, .non => .non
  | _, _, .bl b => .bl b
  | _, _, .int i => .int i
  | _, _, .str x => .str x
  | _, _, .tup h r p => .tup (t.stup h) (RpL.tw t r) fun e => t.plt (p e)
  | _, _, .lst hs h r => .lst hs (t.at' h (by simp) (by simp)) (RpL.tw t r)
  | _, _, .dct hs h k r => .dct hs (t.rd h) k (RpL.tw t r)
theorem RpL.tw (t : Tw d ts H H') : ∀ {vs : List V} {ds : List PyData}, RpL K S H vs ds → RpL K S H' vs ds
  | _, _, .nil => .nil
  | _, _, .cons h r => .cons (Rp.tw t h) (RpL.tw t r)
end
theorem TopX.tw (t : Tw d ts H H') (ne : a ≠ d) (h : TopX K S H a x) : TopX K S H' a x := by
  cases x with
  | list ds => obtain ⟨vs, h1, h2⟩ := h; exact ⟨vs, by rw [t.ne a ne]; exact h1, h2.tw t⟩
  | dict kvs => obtain ⟨us, h1, h2, h3⟩ := h; exact ⟨us, by rw [t.ne a ne]; exact h1, h2, h3.tw t⟩
  | _ => exact h.elim
theorem TopR.tw (t : Tw d ts H H') (h : TopR K S H a x) : TopR K S H' a x := by
  cases x with
  | list ds => obtain ⟨vs, h1, h2⟩ := h; exact ⟨vs, t.at' h1 (by simp) (by simp), h2.tw t⟩
  | dict kvs => obtain ⟨us, h1, h2, h3⟩ := h; exact ⟨us, t.rd h1, h2, h3.tw t⟩
  | _ => exact h.elim
theorem Tw.there (t : Tw d ts H H') (h : H a ≠ none) : H' a ≠ none := by
  by_cases e : a = d
  · subst e
    rcases t.h2 with q | ⟨o, q⟩ <;> rw [q] <;> simp
  · rw [t.ne a e]; exact h
theorem Tw.back (t : Tw d ts H H') : Tw d ts H' H := ⟨fun a h => (t.ne a h).symm, t.h2, t.h1⟩
theorem Tw.gone (t : Tw d ts H H') (h : H' a = none) : H a = none := by
  cases e : H a with
  | none => rfl
  | some o => exact absurd h (t.there (by rw [e]; simp))
theorem Gd.tw (t : Tw d ts H H') (nm : ¬ Mu ρ σ d) (g : Gd K S ρ σ H) : Gd K S ρ σ H' := by
  refine ⟨g.len, fun i st x h => ?_, g.ne, fun a h => t.there (g.al a h)⟩
  obtain ⟨v, h1, h2⟩ := g.sl i st x h
  refine ⟨v, h1, ?_⟩
  cases st with
  | shr => exact Rp.tw t h2
  | own => obtain ⟨a, rfl, ns, q⟩ := h2; exact ⟨a, rfl, ns, TopX.tw t (fun z => nm (z ▸ ⟨i, .own, x, h, rfl, h1⟩)) q⟩
  | lent => obtain ⟨a, rfl, ns, q⟩ := h2; exact ⟨a, rfl, ns, TopX.tw t (fun z => nm (z ▸ ⟨i, .lent, x, h, rfl, h1⟩)) q⟩
  | bor => obtain ⟨a, rfl, ns, q⟩ := h2; exact ⟨a, rfl, ns, TopR.tw t q⟩
  | scr =>
    obtain ⟨a, ns, rfl, e1, k⟩ := h2
    exact ⟨a, ns, rfl, e1, KLst.keep (fun o e => t.at' e (by simp) (by simp)) k⟩
theorem RR.tw {H0 : Hp} {r : Rs} (t : Tw d ts H H') (h0 : H0 d ≠ none) (h : RR K H0 S H ρ σ v r) : RR K H0 S H' ρ σ v r := by
  cases r with
  | kept x => exact Rp.tw t h
  | fresh x => obtain ⟨a, rfl, e, ns, q⟩ := h; exact ⟨a, rfl, e, ns, TopX.tw t (fun z => h0 (z ▸ e)) q⟩
  | slot i => exact h
/-- under the lock, and behind it -/
theorem Fs.unlock {od : Obj} (h0 : H d = some (.dK ts)) (f : Fs S ρ σ (upd H d (.frz od (.dK ts))) S' ρ' σ' H') : Fs S ρ σ H S' ρ' σ' (upd H' d (.dK ts)) := by
  have non : ∀ a, (upd H d (.frz od (.dK ts))) a = none → H a = none := fun a e => by
    by_cases z : a = d
    · rw [z, upd_same] at e; cases e
    · rw [upd_ne z] at e; exact e
  refine ⟨fun a h => ?_, fun a o e nm => ?_, f.sh, fun a h => ?_, fun i x a h1 h2 => (f.own i x a h1 h2).imp_left (non a), f.lent, f.len⟩
  · by_cases z : a = d
    · rw [z, upd_same]; simp
    · rw [upd_ne z]; exact f.dom a (by rw [upd_ne z]; exact h)
  · by_cases z : a = d
    · subst z
      rw [h0] at e; cases e
      exact upd_same
    · rw [upd_ne z]; exact f.keep a o (by rw [upd_ne z]; exact e) nm
  · rcases f.new a h with z | z | z
    · exact .inl z
    · exact .inr (.inl z)
    · exact .inr (.inr (non a z))
theorem Fm.unlock {od : Obj} (h0 : H d = some (.dK ts)) (f : Fm S ρ σ (upd H d (.frz od (.dK ts))) S' ρ' H') : Fm S ρ σ H S' ρ' (upd H' d (.dK ts)) := by
  have q := f.fs.unlock h0
  exact ⟨q.dom, q.keep, q.sh, q.new, f.len, f.non, f.sts⟩
theorem tw_lock {od : Obj} (h0 : H d = some (.dK ts)) : Tw d ts H (upd H d (.frz od (.dK ts))) := ⟨fun a h => upd_ne h, .inl h0, .inr ⟨od, upd_same⟩⟩
theorem tw_unlock {od : Obj} (h0 : H d = some (.frz od (.dK ts))) : Tw d ts H (upd H d (.dK ts)) := ⟨fun a h => upd_ne h, .inr ⟨od, h0⟩, .inl upd_same⟩
end

/-! ### what is walked -/
inductive Wm | keys | vals | itms
def selD : Wm → List (PyData × PyData) → List PyData
  | .keys, kvs => kvs.map (·.1)
  | .vals, kvs => kvs.map (·.2)
  | .itms, kvs => kvs.map fun p => .tuple [p.1, p.2]
def iDict (m : Wm) (i : Nat) : Mo (List PyData) := fun ρ => match ρ[i]? with
  | some (some (.shr, .dict kvs)) => some (selD m kvs, ρ)
  | some (some (.bor, .dict kvs)) => some (selD m kvs, ρ)
  | some (some (.own, .dict kvs)) => some (selD m kvs, ρ.set i (some (.shr, .dict kvs)))
  | _ => none
def wiD (m : Wm) (i : Nat) : TI := match m with
  | .keys => iKeys (tVar i)
  | .vals => iVals (tVar i)
  | .itms => iItems (tVar i)
section
variable {K : PySem.W.Frag} {S S' : Addr → Prop} {ρ ρ' ρ1 : Rho} {σ σ' : L2.St} {H H' : Hp} {d a : Addr} {ts : List (Key × V)} {v : V} {m : Wm} {i : Nat} {ds : List PyData}
theorem KvR.get : ∀ {ts : List (Key × V)} {kvs : List (PyData × PyData)} {n : Nat} {k : Key} {v : V}, KvR K S H ts kvs → ts[n]? = some (k, v) → ∃ x, kvs[n]? = some (keyD k, x) ∧ Rp K S H v x
  | [], _, n, k, v, _, e => by simp at e
  | _ :: _, [], _, _, _, h, _ => by have := h.len; simp at this
  | p :: ts, q :: kvs, 0, k, v, h, e => by
    obtain ⟨a, b, c⟩ := h.cons_inv
    simp at e
    subst e
    exact ⟨q.2, by rw [← a]; rfl, b⟩
  | p :: ts, q :: kvs, n + 1, k, v, h, e => by
    obtain ⟨a, b, c⟩ := h.cons_inv
    rw [List.getElem?_cons_succ] at e ⊢
    exact KvR.get c e
theorem iDict_some (e : iDict m i ρ = some (ds, ρ1)) : ∃ kvs, ds = selD m kvs ∧ iDict m i ρ1 = some (ds, ρ1) ∧ ((ρ1 = ρ ∧ (ρ[i]? = some (some (.shr, .dict kvs)) ∨ ρ[i]? = some (some (.bor, .dict kvs)))) ∨ (ρ[i]? = some (some (.own, .dict kvs)) ∧ ρ1 = ρ.set i (some (.shr, .dict kvs)))) := by
  have e0 := e
  unfold iDict at e
  split at e
  · cases e; exact ⟨_, rfl, e0, .inl ⟨rfl, .inl ‹_›⟩⟩
  · cases e; exact ⟨_, rfl, e0, .inl ⟨rfl, .inr ‹_›⟩⟩
  · rename_i kvs h
    cases e
    refine ⟨kvs, rfl, ?_, .inr ⟨h, rfl⟩⟩
    unfold iDict
    rw [List.getElem?_set_self (List.getElem?_eq_some_iff.mp h).1]
  · cases e
/-- the dict is there, shared or borrowed -/
theorem iDict_at (g : Gd K S ρ σ H) (e : iDict m i ρ = some (ds, ρ1)) : ∃ S1 a ts kvs, Gd K S1 ρ1 σ H ∧ Fm S ρ σ H S1 ρ1 H ∧ σ[i]? = some (some (V.ref a)) ∧ Rd H a (.dK ts) ∧ ¬ Mu ρ1 σ a ∧ KvR K S1 H ts kvs ∧ ds = selD m kvs ∧ (S1 a ∨ ρ1[i]? = some (some (.bor, .dict kvs))) := by
  obtain ⟨kvs, e1, e2, q⟩ := iDict_some e
  rcases q with ⟨rfl, h | h⟩ | ⟨h, rfl⟩
  · obtain ⟨v, hv, hr⟩ := g.sl i .shr _ h
    cases hr with
    | dct hs h1 k r => exact ⟨S, _, _, kvs, g, Fm.refl, hv, h1, g.notMu hs, ⟨k, r⟩, e1, .inl hs⟩
  · obtain ⟨v, hv, a, rfl, ns, ts, h1, k, r⟩ := g.sl i .bor _ h
    refine ⟨S, a, ts, kvs, g, Fm.refl, hv, h1, ?_, ⟨k, r⟩, e1, .inr h⟩
    rintro ⟨j, st, d2, z1, z2, z3⟩
    have hold : st.hold = true := by cases st <;> first | rfl | cases z2
    have := g.ne j i a st d2 .bor _ z1 h hold rfl z3 hv
    subst this
    rw [h] at z1
    cases z1
    cases z2
  · obtain ⟨v, hv, _⟩ := g.sl i .own _ h
    have rw0 : RRw K H S H ρ σ v (.slot i) := ⟨hv, _, h⟩
    have ek : keepR (.slot i) ρ = some (PyData.dict kvs, ρ.set i (some (.shr, .dict kvs))) := by
      unfold keepR
      simp only [h]
    obtain ⟨S1, n1, p1, _⟩ := rw0.keep (Now.start g) ek
    cases p1 with
    | dct hs h1 k r => exact ⟨S1, _, _, kvs, n1.g, n1.f, hv, h1, n1.g.notMu hs, ⟨k, r⟩, e1, .inl hs⟩
theorem selD_len {kvs : List (PyData × PyData)} : (selD m kvs).length = kvs.length := by
  cases m <;> simp [selD]
theorem walk_keys {T : Addr → Prop} {od : Obj} {kvs : List (PyData × PyData)} (h : H a = some (.frz od (.dK ts))) (kv : KvR K S H ts kvs) (ht : S a ∨ T a) : Walk K (Itk a od ts) (selD .keys kvs) T S H := by
  intro S2 H2 n u t al
  have hH : H2 a = some (.frz od (.dK ts)) := ht.elim (fun z => u.at' a _ z h) fun z => t a _ z h
  rw [selD_len, kv.len]
  refine ⟨fun hn => ⟨⟨hH, hn⟩, fun x H' y => ?_⟩, fun hn => ⟨hH, hn⟩⟩
  obtain ⟨rfl, k, w, e, rfl⟩ := y
  obtain ⟨xd, e1, e2⟩ := kv.get e
  exact ⟨S2, keyD k, Gw.refl al, by unfold selD; rw [List.getElem?_map, e1]; rfl, Rp.key k⟩
theorem walk_vals {T : Addr → Prop} {od : Obj} {kvs : List (PyData × PyData)} (h : H a = some (.frz od (.dK ts))) (kv : KvR K S H ts kvs) (ht : S a ∨ T a) : Walk K (Itd a od ts) (selD .vals kvs) T S H := by
  intro S2 H2 n u t al
  have hH : H2 a = some (.frz od (.dK ts)) := ht.elim (fun z => u.at' a _ z h) fun z => t a _ z h
  rw [selD_len, kv.len]
  refine ⟨fun hn => ⟨⟨hH, hn⟩, fun x H' y => ?_⟩, fun hn => ⟨hH, hn⟩⟩
  obtain ⟨rfl, k, e⟩ := y
  obtain ⟨xd, e1, e2⟩ := kv.get e
  exact ⟨S2, xd, Gw.refl al, by unfold selD; rw [List.getElem?_map, e1]; rfl, Rp.up u e2⟩
theorem walk_itms {T : Addr → Prop} {od : Obj} {kvs : List (PyData × PyData)} (h : H a = some (.frz od (.dK ts))) (kv : KvR K S H ts kvs) (ht : S a ∨ T a) : Walk K (Iti a od ts) (selD .itms kvs) T S H := by
  intro S2 H2 n u t al
  have hH : H2 a = some (.frz od (.dK ts)) := ht.elim (fun z => u.at' a _ z h) fun z => t a _ z h
  rw [selD_len, kv.len]
  refine ⟨fun hn => ⟨⟨hH, hn⟩, fun x H' y => ?_⟩, fun hn => ⟨hH, hn⟩⟩
  obtain ⟨T0, k, w, e, rfl, hn0, rfl⟩ := y
  obtain ⟨xd, e1, e2⟩ := kv.get e
  have r : RpL K S2 H2 [kV k, w] [keyD k, xd] := .cons (Rp.key k) (.cons (Rp.up u e2) .nil)
  exact ⟨_, _, Gw.layS al hn0, by unfold selD; rw [List.getElem?_map, e1]; rfl, lay_tup al r hn0 (by cases k <;> rfl)⟩
/-- the dict is locked: the walk -/
theorem wiD_of {R : It → Hp → Prop} (hl : ∃ a od ts, σ[i]? = some (some (V.ref a)) ∧ H a = some (.frz od (.dK ts))) (h : tI K (iDict m i) σ H R) : wiD m i σ H R := by
  obtain ⟨S, ρ, ds, ρ1, g, e, q⟩ := h
  obtain ⟨a, od, ts, hv, hf⟩ := hl
  obtain ⟨S1, b, us, kvs, g1, f1, hb, hr, nm, kv, rfl, hs⟩ := iDict_at g e
  rw [hv] at hb; cases hb
  obtain rfl : us = ts := rd_inj (.inr ⟨od, hf⟩) hr
  have hT : ∀ b, b = a → H b ≠ none ∧ ¬ Mu ρ1 σ b := fun b hb => by subst hb; exact ⟨by rw [hf]; simp, nm⟩
  cases m with
  | keys => exact ⟨_, hv, a, od, rfl, .inl ⟨us, hf, q _ S1 H (fun b => b = a) f1 g1 hT (walk_keys hf kv (.inr rfl))⟩⟩
  | vals => exact ⟨_, hv, a, od, us, rfl, hf, q _ S1 H (fun b => b = a) f1 g1 hT (walk_vals hf kv (.inr rfl))⟩
  | itms => exact ⟨_, hv, a, od, us, rfl, hf, q _ S1 H (fun b => b = a) f1 g1 hT (walk_itms hf kv (.inr rfl))⟩
end
section
variable {X : Cx} {e : Expr} {st : Stmt} {m : Wm} {i : Nat}
/-- an expression that walks a dict -/
theorem pd_lockD {C : TI → TE} {F : Mo Rs} (h : PE X e (C (wiD m i))) (mono : ∀ wi' σ H Q, (∀ R, wi' σ H R → wiD m i σ H R) → C wi' σ H Q → C (wiD m i) σ H Q) (ok : ∀ σ H Q, tD X.K F σ H Q → C (tI X.K (iDict m i)) σ H Q)
    (first : ∀ ρ r ρ', F ρ = some (r, ρ') → ∃ ds ρ1, iDict m i ρ = some (ds, ρ1) ∧ (iDict m i ρ1 = some (ds, ρ1) → F ρ1 = some (r, ρ'))) : PD X e F := by
  have both : PE X e fun σ H Q => C (wiD m i) σ H Q ∨ tLockE (C (wiD m i)) σ H Q := ⟨fun pins s σ H Q I q => q.elim (h.run pins s σ H Q I) ((pe_lock h).run pins s σ H Q I)⟩
  refine PE.to both fun σ H Q hD => ?_
  obtain ⟨S, ρ, r, ρ', G, e0, q⟩ := hD
  obtain ⟨ds, ρ1, e1, e2⟩ := first ρ r ρ' e0
  obtain ⟨_, _, e3, _⟩ := iDict_some e1
  obtain ⟨S1, a, ts, kvs, G1, F1, hv, hr, nm, kv, _, _⟩ := iDict_at G e1
  have e4 := e2 e3
  have n1 : Now X.K σ S ρ H S1 ρ1 H := ⟨G, F1, G1⟩
  rcases hr with hr | ⟨od, hr⟩
  · refine .inr ⟨a, .dK ts, hr, True.intro, fun od => ?_⟩
    refine mono _ σ _ _ (fun R => wiD_of ⟨a, od, ts, hv, upd_same⟩) (ok σ _ _ ⟨S1, ρ1, r, ρ', Gd.tw (tw_lock hr) nm G1, e4, fun v S' H' f' g' r' => ?_⟩)
    have hk := f'.keep a _ upd_same nm
    refine ⟨hk, q v S' _ (F1.trans (f'.unlock hr)) (Gd.tw (tw_unlock hk) (fun z => nm (f'.mu z)) g') ?_⟩
    have r2 := RR.tw (tw_unlock hk) (H0 := upd H a (.frz od (.dK ts))) (by rw [upd_same]; simp) r'
    have dom : ∀ b, (upd H a (.frz od (.dK ts))) b = none → H b = none := fun b z => by
      by_cases y : b = a
      · rw [y, upd_same] at z; cases z
      · rw [upd_ne y] at z; exact z
    cases r with
    | kept x => exact r2
    | fresh x => obtain ⟨b, h1, h2, h3⟩ := r2; exact ⟨b, h1, dom b h2, h3⟩
    | slot j => exact r2
  · refine .inl (mono _ σ _ _ (fun R => wiD_of ⟨a, od, ts, hv, hr⟩) (ok σ _ _ ⟨S1, ρ1, r, ρ', G1, e4, fun v S' H' f' g' r' => q v S' H' (F1.trans f') g' (r'.pre n1)⟩))
/-- a statement that walks a dict -/
theorem sd_lockD {C : TI → TS} {F : Mo Fl} (h : PS X st (C (wiD m i))) (mono : ∀ wi' D σ H, (∀ R, wi' σ H R → wiD m i σ H R) → C wi' D σ H → C (wiD m i) D σ H) (ok : ∀ D σ H, tS X.K F D σ H → C (tI X.K (iDict m i)) D σ H)
    (first : ∀ ρ r ρ', F ρ = some (r, ρ') → ∃ ds ρ1, iDict m i ρ = some (ds, ρ1) ∧ (iDict m i ρ1 = some (ds, ρ1) → F ρ1 = some (r, ρ'))) : SD X st F := by
  have both : PS X st fun D σ H => C (wiD m i) D σ H ∨ tLock (C (wiD m i)) D σ H := ⟨fun pins s σ H D I q => q.elim (h.run pins s σ H D I) ((ps_lock h).run pins s σ H D I)⟩
  refine PS.to both fun D σ H hD => ?_
  obtain ⟨S, ρ, fl, ρ', G, e0, q⟩ := hD
  obtain ⟨ds, ρ1, e1, e2⟩ := first ρ fl ρ' e0
  obtain ⟨_, _, e3, _⟩ := iDict_some e1
  obtain ⟨S1, a, ts, kvs, G1, F1, hv, hr, nm, kv, _, _⟩ := iDict_at G e1
  have e4 := e2 e3
  rcases hr with hr | ⟨od, hr⟩
  · refine .inr ⟨a, .dK ts, hr, True.intro, fun od => ?_⟩
    refine mono _ _ σ _ (fun R => wiD_of ⟨a, od, ts, hv, upd_same⟩) (ok _ σ _ ⟨S1, ρ1, fl, ρ', Gd.tw (tw_lock hr) nm G1, e4, fun σ' S' H' f' g' => ?_⟩)
    have hk := f'.keep a _ upd_same nm
    have nm' : ¬ Mu ρ' σ' a := fun z => (f'.mu z).elim nm fun y => by rw [upd_same] at y; cases y
    have fin := q σ' S' _ (F1.fs.trans (f'.unlock hr)) (Gd.tw (tw_unlock hk) nm' g')
    cases fl with
    | nx => exact ⟨hk, fin⟩
    | bk => exact ⟨hk, fin⟩
    | ct => exact ⟨hk, fin⟩
    | ret r =>
      intro v r'
      refine ⟨hk, fin v ?_⟩
      have r2 := RR.tw (tw_unlock hk) (H0 := upd H a (.frz od (.dK ts))) (by rw [upd_same]; simp) r'
      have dom : ∀ b, (upd H a (.frz od (.dK ts))) b = none → H b = none := fun b z => by
        by_cases y : b = a
        · rw [y, upd_same] at z; cases z
        · rw [upd_ne y] at z; exact z
      cases r with
      | kept x => exact r2
      | fresh x => obtain ⟨b, h1, h2, h3⟩ := r2; exact ⟨b, h1, dom b h2, h3⟩
      | slot j => exact r2
  · refine .inl (mono _ _ σ _ (fun R => wiD_of ⟨a, od, ts, hv, hr⟩) (ok _ σ _ ⟨S1, ρ1, fl, ρ', G1, e4, fun σ' S' H' f' g' => (q σ' S' H' (F1.fs.trans f') g').pre fun b hb => hb⟩))
end
section
variable {X : Cx} {x : Str} {tg elt : Expr} {ifs : List Expr} {scope : Scope} {g : G1} {t : Mo Bool} {fe : Mo Rs} {b : Mo Fl} {body : List Stmt} {np apos cpos pos : Pos} {elts : List Expr} {kk : Nat} {tpos : Pos}
theorem PI.keysV (i : Nat) (hN : X.N[i]? = some x := by rfl) (hv : Vis X.env.scope x := by first | exact Or.inl rfl | exact Or.inr (Or.inl rfl) | exact Or.inr (Or.inr rfl)) (hd : (x == ("__debug__" : Str)) = false := by decide) (hcd : (x == ("__classdict__" : Str)) = false := by decide) :
    PI X tg (.Name x np) (wiD .keys i) := pi_keys (pe_var hN hv hd hcd)
theorem PI.valsV (i : Nat) (hN : X.N[i]? = some x := by rfl) (hv : Vis X.env.scope x := by first | exact Or.inl rfl | exact Or.inr (Or.inl rfl) | exact Or.inr (Or.inr rfl)) (hd : (x == ("__debug__" : Str)) = false := by decide) (hcd : (x == ("__classdict__" : Str)) = false := by decide)
    (hbase : attributeBase (.Name x np) "values" X.env (eval (.Name x np) X.env) = eval (.Name x np) X.env := by rfl) (hline : (apos.endLine == cpos.line) = true := by rfl) :
    PI X tg (.Call (.Attribute (.Name x np) "values" apos) [] [] cpos) (wiD .vals i) := pi_values (pe_var hN hv hd hcd) hbase hline
theorem PI.itmsV (i : Nat) (hN : X.N[i]? = some x := by rfl) (hv : Vis X.env.scope x := by first | exact Or.inl rfl | exact Or.inr (Or.inl rfl) | exact Or.inr (Or.inr rfl)) (hd : (x == ("__debug__" : Str)) = false := by decide) (hcd : (x == ("__classdict__" : Str)) = false := by decide)
    (hbase : attributeBase (.Name x np) "items" X.env (eval (.Name x np) X.env) = eval (.Name x np) X.env := by rfl) (hline : (apos.endLine == cpos.line) = true := by rfl) :
    PI X (.Tuple elts kk tpos) (.Call (.Attribute (.Name x np) "items" apos) [] [] cpos) (wiD .itms i) := pi_items (pe_var hN hv hd hcd) hbase hline
variable {iter : Expr} {m : Wm} {i : Nat}
theorem sd_forD (hc : X.calm = true) (hi : PI X tg iter (wiD m i)) (hg : GD X tg g) (hb : BD X body b) (hp : PassesOwn (model X.prog X.w) X.A X.env X.xe := by exact PassesOwn.never)
    (hs : ∀ x, foldedSetIterable iter X.env x = pure x := by intro _; rfl) : SD X (.For tg iter body [] pos) (sFor (iDict m i) g b) :=
  sd_lockD (C := fun wi => tFor wi (tG X.K g) (tS X.K b)) (ps_for hp hc hi hg hb hs) (fun wi' D σ H hm h => hm _ h) (fun D σ H h => for_ok h) fun ρ r ρ' h => by
    obtain ⟨ds, ρ1, e1, e2⟩ := bindM_some h
    refine ⟨ds, ρ1, e1, fun e3 => ?_⟩
    unfold sFor bindM
    rw [e3]
    exact e2
theorem pd_lcD (own : List (Str × Nat)) (hc : X.calm = true) (hN : X.N.Nodup) (hi : PI X tg iter (wiD m i)) (ok : BlkOk X.N X.env.scope scope own) (hv : g.vs = own.map (·.2))
    (hg : ∀ (s : Shared) (H : Hp) (C : Addr) (cl : List (Str × Addr)) (fp : List Addr), GD (X.blk s H scope (compEnvC scope cl C X.env) fp) tg g) (ht : ∀ (s : Shared) (H : Hp) (C : Addr) (cl : List (Str × Addr)) (fp : List Addr), TsD (X.blk s H scope (compEnvC scope cl C X.env) fp) ifs t)
    (he : ∀ (s : Shared) (H : Hp) (C : Addr) (cl : List (Str × Addr)) (fp : List Addr), PD (X.blk s H scope (compEnvC scope cl C X.env) fp) elt fe) (hs : ∀ x, foldedSetIterable iter X.env x = pure x := by intro _; rfl) :
    PD X (.ListComp elt [⟨tg, iter, ifs, 0⟩] scope pos) (xLc (own.map (·.2)) (iDict m i) g t fe) :=
  pd_lockD (C := fun wi => tLc wi (tG X.K g) (tT X.K t) (tD X.K fe) (own.map fun p : Str × Nat => p.2)) (pe_lc hc hN hi ok hg ht he hs) (fun wi' σ H Q hm h => hm _ h) (fun σ H Q h => lc_ok hv h) fun ρ r ρ' h => by
    unfold xLc at h
    cases e1 : iDict m i ρ with
    | none => rw [e1] at h; cases h
    | some p =>
      obtain ⟨ds, ρ1⟩ := p
      refine ⟨ds, ρ1, rfl, fun e3 => ?_⟩
      rw [e1] at h
      unfold xLc
      rw [e3]
      exact h
end
end PyI

set_option maxHeartbeats 3200000
/-! PyI, part L: set(texts), and sorted of it. -/
namespace PyI
namespace SetT
open PySem PySem.Spec PyProof.Rows L2

/-- the text of an entry -/
def txt (e : Int × Value) : Str := match e.2 with
  | .str k _ => k
  | _ => Str.empty
def Fine (w : World) (e : Int × Value) : Prop := ∃ k tk, e.2 = Value.str k tk ∧ e.1 = hashStr w k
/-- the set of the texts l at a -/
structure At (w : World) (h : Heap) (a : Addr) (l : List Str) (es : Array (Int × Value)) (ep : Nat) (t : SetTable) (o : Obj) : Prop where
  ob : h.get? a = some o
  ex : o.ExactSet
  dt : o.data = .set es ep t
  fine : ∀ e ∈ es.toList, Fine w e
  nd : l.Nodup
  pm : l.Perm (es.toList.map txt)
  sz : es.size < scanBound
  fit : t.fits es.size = true
  ris : Ris t.place.toList
  led : w.params.followText "set-order" = true ∨ t.led = true
def Is (w : World) (h : Heap) (a : Addr) (l : List Str) : Prop := ∃ es ep t o, At w h a l es ep t o
section
variable {P : Program} {w : World} {h h' : Heap} {a : Addr} {l : List Str} {es : Array (Int × Value)} {ep : Nat} {t : SetTable} {o : Obj}
theorem elems {L : List (Int × Value)} (g : ∀ e ∈ L, Fine w e) : ElemsOf (PySem.strKind P w) L := fun e he => by
  obtain ⟨k, tk, x, y⟩ := g e he
  exact ⟨⟨k, by rw [x]; exact strKind_is P w k tk, y⟩, by rw [x]; rfl⟩
theorem is_iff {e : Int × Value} (g : Fine w e) (k : Str) : (PySem.strKind P w).is k e.2 = true ↔ txt e = k := by
  obtain ⟨k0, tk, x, _⟩ := g
  unfold txt
  rw [x]
  exact ⟨fun q => (PySem.strKind P w).inj (.str k0 tk) k0 k (strKind_is P w k0 tk) q, fun q => by subst q; exact strKind_is P w k0 tk⟩
theorem find_none {L : List (Int × Value)} {k : Str} (g : ∀ e ∈ L, Fine w e) (q : List.findIdx? (fun e => (PySem.strKind P w).is k e.2) L = none) : k ∉ L.map txt := fun z => by
  obtain ⟨e, he, y⟩ := List.mem_map.mp z
  have c := List.findIdx?_eq_none_iff.mp q e he
  rw [(is_iff (P := P) (g e he) k).mpr y] at c
  cases c
theorem find_some {L : List (Int × Value)} {k : Str} {j : Nat} (g : ∀ e ∈ L, Fine w e) (q : List.findIdx? (fun e => (PySem.strKind P w).is k e.2) L = some j) : k ∈ L.map txt := by
  obtain ⟨hj, pj, _⟩ := List.findIdx?_eq_some_iff_getElem.mp q
  exact List.mem_map.mpr ⟨L[j], List.getElem_mem hj, (is_iff (P := P) (g _ (List.getElem_mem hj)) k).mp pj⟩
end
/-- one text more -/
def add1 (l : List Str) (k : Str) : List Str := if k ∈ l then l else l ++ [k]
section
variable {P : Program} {w : World} {A : Around} {E : Value → Shared → Prop} {s : Shared} {a : Addr} {l : List Str}
theorem lay_tail {gv : Bool → Sem Unit} (hg : ∀ (b : Bool) (s₁ : Shared) (Q' : Unit → Shared → Prop), Q' () s₁ → wpAny (model P w) A (gv b) Q' E s₁) {o : Obj} {es es1 : Array (Int × Value)} {ep : Nat} {t t2 : SetTable} (ob : s.heap.get? a = some o) (ex : o.ExactSet) (dt : o.data = .set es ep t)
    (fine : ∀ e ∈ es1.toList, Fine w e) (nd : l.Nodup) (pm : l.Perm (es1.toList.map txt)) (sz : es1.size < scanBound) (fit : t2.fits es1.size = true) (ris : Ris t2.place.toList) (led : w.params.followText "set-order" = true ∨ t2.led = true) {wd : Bool} {R : Option Bool → Shared → Prop}
    (hR : ∀ h', Heap.SameBut a s.heap h' → Is w h' a l → R (some true) { s with heap := h' }) :
    wpAny (model P w) A (do
        storeSet a es1 t2
        if (!wd && t2.tooFull) = true then do
            gv (relayAll t2 es1 (SetTable.grown es1.size)).2.2
            storeSet a (relayAll t2 es1 (SetTable.grown es1.size)).1 (relayAll t2 es1 (SetTable.grown es1.size)).2.1
            pure (some true)
          else pure (some true)) R E s := by
  have o1 := store_at (es' := es1) (t' := t2) ob dt
  have b1 := Heap.SameBut.update s.heap a (Obj.putSet es1 t2)
  refine wpAny_bind (wpAny_storeSet_of ob dt ?_ (fits_of_scanBound sz))
  split
  · have q1 := relayAll_perm t2 es1 (SetTable.grown es1.size)
    have q2 := relayAll_fits t2 es1 (SetTable.grown es1.size)
    have q3 := relayAll_ris t2 es1 (SetTable.grown es1.size)
    have q4 := relayAll_led t2 es1 (SetTable.grown es1.size)
    generalize relayAll t2 es1 (SetTable.grown es1.size) = Y at q1 q2 q3 q4 ⊢
    obtain ⟨es2, t3, gave⟩ := Y
    dsimp only at q1 q2 q3 q4 ⊢
    have z2 : es2.size = es1.size := by rw [← Array.length_toList, q1.length_eq, Array.length_toList]
    refine wpAny_bind (hg _ _ _ (wpAny_bind (wpAny_storeSet_of o1 rfl ?_ (fits_of_scanBound (by rw [z2]; exact sz)))))
    exact wpAny_pure (hR _ (b1.trans (Heap.SameBut.update _ a _)) ⟨es2, _, t3, _, store_at (es' := es2) (t' := t3) o1 rfl, ex, rfl, fun e he => fine e (q1.mem_iff.mp he), nd, pm.trans (q1.map txt).symm, by rw [z2]; exact sz, by rw [z2] at q2 ⊢; exact q2, q3, led.imp id fun y => by rw [q4]; exact y⟩)
  · exact wpAny_pure (hR _ b1 ⟨es1, _, t2, _, o1, ex, rfl, fine, nd, pm, sz, fit, ris, led⟩)
theorem add_hashed {k : Str} {tk : Tok} {Q : Bool → Shared → Prop} (R : Is w s.heap a l) (room : l.length + 1 < scanBound) (hQ : ∀ (b : Bool) h', Heap.SameBut a s.heap h' → Is w h' a (add1 l k) → Q b { s with heap := h' }) :
    wpAny (model P w) A (setAddHashed a (.str k tk) ((PySem.strKind P w).hash k)) Q E s := by
  obtain ⟨es, ep, t, o, ob, ex, dt, fine, nd, pm, sz, fit, ris, led⟩ := R
  have key : (PySem.strKind P w).is k (.str k tk) = true := strKind_is P w k tk
  have sc : (Value.str k tk).scannable = true := rfl
  have el : ElemsOf (PySem.strKind P w) es.toList := elems fine
  have hn : es.size = l.length := by rw [pm.length_eq, List.length_map, Array.length_toList]
  unfold setAddHashed setAddHashedIn
  refine wpAny_holding (wpAny_bind (wpAny_setState_of ob dt fit ?_))
  dsimp only
  rw [byScan_of sc sz el]
  simp only [↓reduceIte]
  unfold setAddByScan
  refine wpAny_bind (wpAny_bind (wpAny_rule (wpAny_bind (wpAny_setScan_of key ob dt fit el ?_))))
  cases q : List.findIdx? (fun e => (PySem.strKind P w).is k e.2) es.toList with
  | some j =>
    dsimp only
    have m : k ∈ l := pm.mem_iff.mpr (find_some (P := P) fine q)
    have e1 : add1 l k = l := if_pos m
    exact wpAny_pure (wpAny_pure (hQ _ s.heap (Heap.SameBut.refl a s.heap) (by rw [e1]; exact ⟨es, ep, t, o, ob, ex, dt, fine, nd, pm, sz, fit, ris, led⟩)))
  | none =>
    dsimp only
    have m : k ∉ l := fun z => find_none (P := P) fine q (pm.mem_iff.mp z)
    have e1 : add1 l k = l ++ [k] := if_neg m
    have nd1 : (l ++ [k]).Nodup := List.nodup_append.mpr ⟨nd, by simp, fun x hx y hy z => by rw [List.mem_singleton] at hy; subst hy; subst z; exact m hx⟩
    have q1 := layNew_perm t es ((PySem.strKind P w).hash k) (.str k tk)
    have q2 := layNew_fits t es ((PySem.strKind P w).hash k) (.str k tk)
    have q3 := layNew_ris t es ((PySem.strKind P w).hash k) (.str k tk) ris
    have q4 := layNew_led t es ((PySem.strKind P w).hash k) (.str k tk)
    generalize layNew t es ((PySem.strKind P w).hash k) (.str k tk) = Y at q1 q2 q3 q4 ⊢
    obtain ⟨es1, t1, wd, gave⟩ := Y
    dsimp only at q1 q2 q3 q4 ⊢
    rw [Array.toList_push] at q1
    have f1 : ∀ e ∈ es1.toList, Fine w e := fun e he => by
      rcases List.mem_append.mp (q1.mem_iff.mp he) with y | y
      · exact fine e y
      · rw [List.mem_singleton.mp y]; exact ⟨k, tk, rfl, rfl⟩
    have p1 : (l ++ [k]).Perm (es1.toList.map txt) := by
      refine List.Perm.trans ?_ (q1.map txt).symm
      rw [List.map_append]
      exact pm.append_right _
    have z1 : es1.size = l.length + 1 := by rw [← Array.length_toList, q1.length_eq, List.length_append, Array.length_toList, hn]; rfl
    have s1 : es1.size < scanBound := by rw [z1]; exact room
    have l1 : w.params.followText "set-order" = true ∨ t1.led = true := led.imp id fun y => by rw [q4]; exact y
    have gw : ∀ (b : Bool) {s₁ : Shared} {Q' : Unit → Shared → Prop}, Q' () s₁ → wpAny (model P w) A (match b with | true => rule "set.scan.the-table-gave-way" | false => pure ()) Q' E s₁ := fun b _ _ y => by
      cases b
      · exact wpAny_pure y
      · exact wpAny_rule y
    refine wpAny_bind (gw _ ?_)
    split
    · refine wpAny_bind ?_
      rw [hashByValue_scannable 8 sc]
      refine wpAny_pure (lay_tail (l := l ++ [k]) ?_ ob ex dt f1 nd1 p1 s1 ?_ ?_ ?_ fun h' sb r => ?_)
      · intro b _ _ y
        cases b
        · first | exact wpAny_pure y | exact wpAny_rule y
        · first | exact wpAny_rule y | exact wpAny_pure y
      · first | exact SetTable.fits_plain_off q2 | exact q2
      · exact q3
      · exact l1
      · dsimp only
        exact wpAny_pure (hQ _ h' sb (by rw [e1]; exact r))
    · refine wpAny_bind (wpAny_pure ?_)
      simp only [↓reduceIte]
      refine lay_tail (l := l ++ [k]) ?_ ob ex dt f1 nd1 p1 s1 q2 q3 l1 fun h' sb r => ?_
      · intro b _ _ y
        cases b
        · first | exact wpAny_pure y | exact wpAny_rule y
        · first | exact wpAny_rule y | exact wpAny_pure y
      · dsimp only
        exact wpAny_pure (hQ _ h' sb (by rw [e1]; exact r))
end

/-! ### set(xs) -/
/-- the texts of the first i items, each once -/
def upTo (xs : List Str) (i : Nat) : List Str := (xs.take i).foldl add1 []
theorem upTo_zero (xs : List Str) : upTo xs 0 = [] := by simp [upTo]
theorem upTo_succ {xs : List Str} {i : Nat} {k : Str} (h : xs[i]? = some k) : upTo xs (i + 1) = add1 (upTo xs i) k := by
  unfold upTo
  rw [List.take_add_one, h, Option.toList_some, List.foldl_append]
  rfl
theorem add1_len (l : List Str) (k : Str) : (add1 l k).length ≤ l.length + 1 := by
  unfold add1
  split
  · omega
  · simp
theorem upTo_len (xs : List Str) (i : Nat) : (upTo xs i).length ≤ i := by
  induction i with
  | zero => rw [upTo_zero]; exact Nat.le_refl _
  | succ i ih =>
    cases h : xs[i]? with
    | some k =>
      rw [upTo_succ h]
      have := add1_len (upTo xs i) k
      omega
    | none =>
      have e : upTo xs (i + 1) = upTo xs i := by
        unfold upTo
        rw [List.take_add_one, h]
        simp
      rw [e]
      omega
section
variable {prog : Program} {w : World} {A : Around} {R : Result → Shared → Prop} {I : Addr} {fp wr : List Addr} {G : Array GenState → Array GenState → Prop} {n : Nat} {P : Nat → Value → Prop} {St : Nat → Shared → Prop}
theorem Is.moved {h h' : Heap} {a : Addr} {l : List Str} (x : Is w h a l) (k : ∀ o, h.get? a = some o → h'.get? a = some o) : Is w h' a l := by
  obtain ⟨es, ep, t, o, y⟩ := x
  exact ⟨es, ep, t, o, k _ y.ob, y.ex, y.dt, y.fine, y.nd, y.pm, y.sz, y.fit, y.ris, y.led⟩
theorem turns (W : WalksS prog w A.in1 I fp wr G n P St) (S : Addr) (off : S ∉ fp) (xs : List Str) (val : ∀ i v, P i v → ∃ k t, xs[i]? = some k ∧ v = .str k t) (few : n + 1 < scanBound) :
    ∀ (k i : Nat) (s : Shared), n - i = k → i ≤ n → St i s → Is w s.heap S (upTo xs i) → (∀ s', Moved (S :: wr) G s s' → Is w s'.heap S (upTo xs n) → R (.ok (.ret .none)) s') →
      codeAny (model prog w) A (.builtin "set.update.loop" ⟨[.ref S, .ref I], []⟩) R s := by
  have offw : S ∉ wr := fun h => off (W.sub _ h)
  have wide : ∀ b ∈ wr, b ∈ S :: wr := fun b hb => List.mem_cons_of_mem _ hb
  intro k
  induction k with
  | zero =>
    intro i s hk hi st is fin
    obtain rfl : i = n := by omega
    refine codeAny_builtin PyProof.Rows.F.entry_set_update_loop ?_
    rw [Around.under_plainId PyProof.Rows.F.plain_set_update_loop _]
    show wpAny _ A.in1 (pyNext (.ref I) >>= _) _ _ s
    refine wpAny_bind (W.done s _ _ st fun s' hm => ?_)
    show wpAny _ A.in1 (ret Value.none) _ _ s'
    exact wpAny_pure (fin s' (hm.mono wide) (is.moved fun o e => hm.heap S o offw e))
  | succ k ih =>
    intro i s hk hi st is fin
    have hlt : i < n := by omega
    refine codeAny_builtin PyProof.Rows.F.entry_set_update_loop ?_
    rw [Around.under_plainId PyProof.Rows.F.plain_set_update_loop _]
    show wpAny _ A.in1 (pyNext (.ref I) >>= _) _ _ s
    refine wpAny_bind (W.item i s _ _ hlt st fun v s' hP st' hm => ?_)
    obtain ⟨x, t, hx, rfl⟩ := val i v hP
    have is' : Is w s'.heap S (upTo xs i) := is.moved fun o e => hm.heap S o offw e
    show wpAny _ A.in1 (holding [Value.str x t] (setAdd S (.str x t)) >>= _) _ _ s'
    refine wpAny_bind (wpAny_holding ?_)
    unfold setAdd
    refine wpAny_holding (wpAny_bind ((PySem.strKind prog w).pyHash (k := x) (strKind_is _ _ _ _) ?_))
    have room : (upTo xs i).length + 1 < scanBound := by have := upTo_len xs i; omega
    refine add_hashed (s := { s' with toks := s'.toks + 1 }) is' room fun b h' sb is2 => ?_
    rw [← upTo_succ hx] at is2
    refine wpAny_pure ⟨plainId_quiet PyProof.Rows.F.plain_set_update_loop _, ih (i + 1) _ (by omega) hlt (W.frame _ s' _ _ st' (Nat.le_succ _) fun b hb o e => ?_) is2 fun s'' hm2 is3 => ?_⟩
    · exact (sb.2 b fun z => off (z ▸ hb)).trans e
    · exact fin s'' (Moved.trans W.gtrans ((hm.mono wide).then_heap (Nat.le_succ _) fun b o hb e => (sb.2 b fun z => hb (by rw [z]; exact List.mem_cons_self)).trans e) hm2) is3
end
section
variable {prog : Program} {w : World} {A : Around} {E : Value → Shared → Prop} {s : Shared}
theorem fresh_is {h : Heap} {a : Addr} (ho : h.get? a = some { cls := .type "set", dict := none, data := .set #[] 0 (.fresh 0 0 (!w.params.followText "set-order")) }) : Is w h a [] :=
  ⟨#[], 0, _, _, ho, ⟨rfl, rfl, rfl⟩, rfl, (fun e he => by simp at he), List.nodup_nil, .refl _, (by decide), (by rfl), List.Pairwise.nil, by
    show _ ∨ (!w.params.followText "set-order") = true
    cases w.params.followText "set-order"
    · exact .inr rfl
    · exact .inl rfl⟩
theorem made {l : Addr} {items : Array Value} {xs : List Str} {Q : Value → Shared → Prop} (hh : A.handled = none) (hl : s.heap.IsList l items) (hi : StrsAre items.toList xs) (few : xs.length + 1 < scanBound)
    (fin : ∀ (h' : Heap) (tk : Nat), Is w h' s.heap.objs.size (upTo xs xs.length) → (∀ b o, b < s.heap.objs.size → s.heap.get? b = some o → h'.get? b = some o) → Q (.ref s.heap.objs.size) { s with heap := h', toks := tk }) :
    wpAny (model prog w) A (call (.type "set") [.ref l]) Q E s := by
  have hsz : items.size = xs.length := by rw [← StrsAre.len_eq hi, Array.length_toList]
  obtain ⟨c, tl, hmro⟩ := PySem.F.called_set.mro
  have r1 := PySem.F.called_set.made
  have r2 := PySem.F.called_set.sub
  refine wpAny_call (codeAny_of_tree ?_)
  show wpAny _ _ (callAny (.type "set") _) _ _ _
  refine wpAny_pure ⟨Code.quiet_builtin _ (by decide +kernel), codeAny_builtin PySem.F.entry_type_call ?_⟩
  rw [Around.under_plain (weight_type_call_type "set" [.ref l] []) rfl]
  have r3 := PySem.F.called_set.notType
  have r4 := PySem.F.called_set.canCreate
  have r5 := PySem.F.typeCall_set_1 (.ref l)
  repeat (any_goals (first | assumption | wp_step))
  obtain ⟨N, hN⟩ : ∃ N : Obj, N = { cls := .type "set", dict := none, data := .set #[] 0 (.fresh 0 0 (!w.params.followText "set-order")) } := ⟨_, rfl⟩
  have fr : N.isFreed = false := by rw [hN]; rfl
  refine codeAny_mono (code_set_led1 (.ref l) (E := E) (Q₁ := fun ob s₁ => ob = .ref s.heap.objs.size ∧ s₁ = { s with heap := s.heap.push N }) ⟨rfl, by rw [hN]⟩) fun r s₁ hr => ?_
  cases r with
  | error e => exact hr
  | ok fl =>
    cases fl with
    | ret ob =>
      obtain ⟨rfl, rfl⟩ := hr
      have g0 : (s.heap.push N).get? s.heap.objs.size = some N := Heap.get?_push_size _ fr
      have hT : Shared.TypeIs { s with heap := s.heap.push N } (.ref s.heap.objs.size) "set" := ⟨_, g0, by rw [hN]⟩
      have r6 := PySem.F.called_set.init.lookup
      have r7 := PySem.F.called_set.init.bind (.ref s.heap.objs.size)
      repeat (any_goals (first | assumption | wp_step))
      refine codeAny_mono (codeAny_call_builtin (R := wants (fun r s₂ => r = .none ∧ ∃ h' tk, s₂ = { s with heap := h', toks := tk } ∧ Is w h' s.heap.objs.size (upTo xs xs.length) ∧ (∀ b o, b < s.heap.objs.size → s.heap.get? b = some o → h'.get? b = some o)) E)
        PySem.F.called_set.init.plain PySem.F.entry_set_init (check_set_init_1 hT ?_)) fun r₂ s₂ hr₂ => ?_
      · obtain ⟨ol, hol, hcl, nl, hdl⟩ := hl
        obtain ⟨ocls, odict, odata, oslots⟩ := ol
        simp only at hcl hdl
        subst hcl; subst hdl
        have hol' : (s.heap.push N).get? l = some { cls := .type "list", dict := odict, data := .seq items nl, slots := oslots } := Heap.get?_push_of_some _ hol
        have r8 := PySem.F.sub_list_set
        have r9 := PySem.F.sub_list_frozenset
        have hne : (Value.type "list" == Value.type "dict") = false := by decide
        have hl1 : (s.heap.push N).IsList l items := ⟨_, hol', rfl, nl, rfl⟩
        have lt : l < s.heap.objs.size := Heap.lt_size hol
        have z1 : (s.heap.push N).objs.size = s.heap.objs.size + 1 := Heap.size_push ..
        subst hN
        unfold Builtin.«set.__init__» noKeywords Builtin.Frozenset.updateFrom
        generalize hPI : pyIter = PI
        wp_walk
        subst hPI
        refine wpAny_pyIter_list hl1 ?_
        refine wpAny_bind (wpAny_runValue ?_)
        have hh3 : A.in1.in1.in1.handled = none := by simp [hh]
        have ne := z1 ▸ (show l ≠ s.heap.objs.size + 1 from Nat.ne_of_lt (Nat.lt_succ_of_lt lt))
        have off : s.heap.objs.size ∉ [s.heap.objs.size + 1, l] := by
          simp only [List.mem_cons, List.not_mem_nil, or_false, not_or]
          exact ⟨Nat.ne_of_lt (Nat.lt_succ_self _), Nat.ne_of_gt lt⟩
        have val : ∀ (i : Nat) (v : Value), items[i]? = some v → ∃ k t, xs[i]? = some k ∧ v = .str k t := fun i v hv => by
          obtain ⟨t, e⟩ := SS.strs_at hi i v (by rw [Array.getElem?_toList]; exact hv)
          have hi' : i < xs.length := by rw [← hsz]; exact (Array.getElem?_eq_some_iff.mp hv).1
          refine ⟨xs[i], t, List.getElem?_eq_getElem hi', ?_⟩
          rw [e, List.getD_eq_getElem?_getD, List.getElem?_eq_getElem hi']; rfl
        refine turns ((Walks.list hh3 _ l ne items).toS) s.heap.objs.size (by rw [z1]; exact off) xs val (by rw [hsz]; exact few) (items.size - 0) 0 _ (by omega) (Nat.zero_le _) ⟨⟨_, Heap.get?_push_size _ rfl, rfl, rfl⟩, (hl1.push _)⟩ ?_ fun s' hm is => ?_
        · rw [upTo_zero]
          exact fresh_is (Heap.get?_push_of_some _ g0)
        · obtain ⟨h', g', d', tk', os'⟩ := s'
          have e1 : g' = s.gens := hm.gens
          have e2 : d' = s.drawn := hm.drawn
          have e3 : os' = s.os := hm.os
          subst e1; subst e2; subst e3
          rw [hsz] at is
          show wpAny _ _ _ _ _ _
          refine wpAny_pure ?_
          show wpAny _ _ (ret Value.none) _ _ _
          refine wpAny_pure ⟨rfl, h', tk', rfl, is, fun b o hb e => hm.heap b o ?_ (Heap.get?_push_of_some _ (Heap.get?_push_of_some _ e))⟩
          simp only [List.mem_cons, List.not_mem_nil, or_false, not_or]
          exact ⟨Nat.ne_of_lt hb, by rw [z1]; exact Nat.ne_of_lt (Nat.lt_succ_of_lt hb)⟩
      · cases r₂ with
        | error e => exact hr₂
        | ok fl₂ =>
          cases fl₂ with
          | ret r =>
            obtain ⟨rfl, h', tk, rfl, is, kp⟩ := hr₂
            repeat (any_goals (first | assumption | wp_step))
            exact fin _ _ is kp
          | _ => exact hr₂.elim
    | _ => exact hr.elim
end

/-! ### sorted of it -/
section
variable {P : Program} {w : World} {A : Around} {E : Value → Shared → Prop} {s : Shared} {a : Addr} {l : List Str}
theorem strs_of_fine : ∀ {L : List (Int × Value)}, (∀ e ∈ L, Fine w e) → StrsAre (L.map (·.2)) (L.map txt)
  | [], _ => .nil
  | e :: L, g => by
    obtain ⟨k, tk, x, _⟩ := g e List.mem_cons_self
    rw [List.map_cons, List.map_cons]
    have e1 : txt e = k := by unfold txt; rw [x]
    rw [e1, x]
    exact .cons k tk (strs_of_fine fun e he => g e (List.mem_cons_of_mem _ he))
theorem strs_any : ∀ (vs : List Value), (∀ v ∈ vs, ∃ k tk, v = Value.str k tk) → StrsAre vs (vs.map fun v => txt (0, v))
  | [], _ => .nil
  | v :: vs, g => by
    obtain ⟨k, tk, rfl⟩ := g v List.mem_cons_self
    exact .cons k tk (strs_any vs fun v hv => g v (List.mem_cons_of_mem _ hv))
theorem sorted_is {Q : Value → Shared → Prop} (R : Is w s.heap a l) (hh : A.handled = none) (h64 : l.length < 64)
    (fin : ∀ s' p (out : Array Value) (c : Nat) (ys : List Str), (∀ b o, s.heap.get? b = some o → s'.heap.get? b = some o) → s'.gens = s.gens → s'.os = s.os → s.heap.objs.size ≤ p → s'.heap.get? p = some (seqObj "list" out c) → StrsAre out.toList ys → ys.Perm l → sortedS ys = true → Q (.ref p) s') :
    wpAny (model P w) A (call (.builtin "sorted") [.ref a]) Q E s := by
  obtain ⟨es, ep, t, o, ob, ex, dt, fine, nd, pm, sz, fit, ris, led⟩ := R
  refine Calls.call_function_entry kind_sorted plain_sorted entry_sorted (args_sorted1 _) ?_
  unfold Builtin.«sorted»
  refine wpAny_bind (m := checkCount "sorted" 1 1 _) (wpAny_pure ?_)
  refine wpAny_bind (collect_set (A := A.in1) hh ⟨o, ob, ex.1, dt⟩ fit sz ris led fun s1 vs k1 hz g1 o1 pv => ?_)
  have hvl : vs.length = l.length := by rw [pv.length_eq, List.length_map, pm.length_eq, List.length_map]
  have hS : StrsAre vs (vs.map fun v => txt (0, v)) := strs_any vs fun v hv => by
    obtain ⟨e, he, q⟩ := List.mem_map.mp (pv.mem_iff.mp hv)
    obtain ⟨k, tk, x, _⟩ := fine e he
    exact ⟨k, tk, by rw [← q]; exact x⟩
  have pk : (vs.map fun v => txt (0, v)).Perm l := by
    have q := pv.map fun v => txt (0, v)
    rw [List.map_map] at q
    exact q.trans pm.symm
  refine wpAny_bind (wpAny_newList ?_ (by rw [hvl, sizeLine_eq]; omega))
  have ho : (s1.heap.push (seqObj "list" vs.toArray 0)).get? s1.heap.objs.size = some (seqObj "list" vs.toArray 0) := Heap.get?_push_size _ rfl
  show wpAny _ _ _ _ _ { s1 with heap := s1.heap.push (seqObj "list" vs.toArray 0) }
  refine wpAny_bind (wpAny_holding (wpAny_call_entry slot_list_sort ⟨_, ho, rfl⟩ entry_list_sort
    (list_sort_treeK strKind_oneLt (s := { s1 with heap := s1.heap.push (seqObj "list" vs.toArray 0) }) ho hS.keysOf (fun v₁ v₂ rest e => keyKind_strs (by rw [← e]; exact hS)) (by rw [hvl]; exact h64) fun st' hp hs => ⟨_, rfl, ?_⟩) (args_list_sort _)))
  obtain ⟨ys, y1, y2, y3⟩ := sorted_out_str hS hp hs
  obtain ⟨c, hc⟩ := sortedHeap_at (vs := vs) (out := (arrOf st').map (·.2)) ho
  refine wpAny_pure ⟨_, rfl, fin _ s1.heap.objs.size ((arrOf st').map (·.2)) c ys (fun b u e => ?_) g1 o1 hz hc y1 (y2.trans pk) y3⟩
  have q := k1 b u e
  have lt := Heap.lt_size q
  show (sortedHeap (s1.heap.push (seqObj "list" vs.toArray 0)) s1.heap.objs.size vs ((arrOf st').map (·.2))).get? b = some u
  rw [sortedHeap_old (Nat.ne_of_lt lt) (by rw [size_push']; exact Nat.lt_succ_of_lt lt)]
  exact Heap.get?_push_of_some _ q
end
end SetT
end PyI

/-! PyI, part M: sorted(set(..)), list(script). -/
namespace PyI
open PySem PySem.Spec L2

def dedupS (xs : List Str) : List Str := xs.foldl SetT.add1 []
theorem upTo_all (xs : List Str) : SetT.upTo xs xs.length = dedupS xs := by
  unfold SetT.upTo dedupS
  rw [List.take_length]
def soSet : PyData → Option PyData
  | .list ds => (strsD ds).bind fun xs => if (dedupS xs).length < 64 ∧ xs.length < 1000 then some (.list ((sortS (dedupS xs)).map .str)) else none
  | _ => none
def tSoSet (K : PySem.W.Frag) (ta : TE) : TE := fun σ H Q => ta σ H fun x H1 => ∃ a, ∃ xs : List Str, x = .ref a ∧ SqL K H1 a (xs.map V.str) ∧ (dedupS xs).length < 64 ∧ xs.length < 1000 ∧ ∀ p, H1 p = none → Q (.ref p) (upd H1 p (.lst ((sortS (dedupS xs)).map V.str)))
theorem scan1000 {n : Nat} (h : n < 1000) : n + 1 < scanBound := by
  have : (1001 : Nat) ≤ scanBound := by decide
  omega
theorem vals_strs : ∀ {us : List Value} {ys : List Str}, PyProof.Rows.StrsAre us ys → Vals (ys.map V.str) us
  | _, _, .nil => .nil
  | _, _, .cons k t h => .cons ⟨t, rfl⟩ (vals_strs h)
section
variable {X : Cx} {a : Expr} {ta : TE} {f : Mo Rs} {p p2 q pos : Pos}
theorem pe_soSet (hc : X.calm = true) (hg : Gl X "sorted") (hm : X.mg "sorted" = none) (hv : bootBuiltins "sorted" = some (.builtin "sorted")) (hg2 : Gl X "set") (hm2 : X.mg "set" = none) (hv2 : bootBuiltins "set" = some (.type "set")) (ha : PE X a ta)
    (na : starEach [a] X.env = (false, eval a X.env) :: starEach [] X.env := by rfl) : PE X (.Call (.Name "sorted" p) [.Call (.Name "set" p2) [a] [] q] [] pos) (tSoSet X.K ta) := by
  refine ⟨fun pins s σ H Q I h => ?_⟩
  refine PyProof.Rows.Call_ (ld_blt I hg hm hv ?_)
  refine PyProof.Rows.callWith_builtin1 (PyProof.Rows.args_cons ?_ rfl) rfl rfl
  refine PyProof.Rows.Call_ (ld_blt I hg2 hm2 hv2 ?_)
  refine PyProof.Rows.callWith_type1 (PyProof.Rows.args_cons (thn (ha.run pins s σ H _ I h) fun v s1 ⟨x, H1, I1, r1, b, xs, ex, hx, h64, hk, q1⟩ => PyProof.Rows.args_nil ?_) na) na rfl
  subst ex
  cases r1
  obtain ⟨its, r, pl, hz⟩ := I1.list hx
  refine SetT.made (I1.ok.hd hc) pl.isList (by simpa using strsAre_of r) (scan1000 hk) fun h' tk is kp => PyProof.Rows.args_nil ?_
  rw [upTo_all] at is
  have I2 : Inv X pins σ H1 { s1 with heap := h', toks := tk } := I1.kept fun b o e => kp b o (Heap.lt_size e) e
  refine SetT.sorted_is (s := { s1 with heap := h', toks := tk }) is (I1.ok.hd hc) h64 fun s3 pp out c ys k3 g3 o3 hp ho hy py sy => ?_
  have hlen : ((sortS (dedupS xs)).map V.str).length ≤ sizeLine := by
    rw [List.length_map, (sortS_perm _).length_eq, sizeLine_eq]; omega
  have hn : H1 pp = none := I2.hok.fresh hp
  rw [sortS_of py sy] at hy
  have ok := I2.hok.laid k3 hp (o := .lst ((sortS (dedupS xs)).map V.str)) ⟨hlen, out.toList, c, vals_strs hy, ho⟩
  have J : Inv X pins σ (upd H1 pp (.lst ((sortS (dedupS xs)).map V.str))) { ({ s1 with heap := h', toks := tk } : Shared) with heap := s3.heap, gens := s3.gens, drawn := s3.drawn, toks := s3.toks } :=
    I2.call (ch := []) (Un.laid k3 hp hn) ok (by rw [g3]; exact I2.bare) (fun _ z => nomatch z)
  have e : s3 = { s1 with heap := s3.heap, gens := s3.gens, drawn := s3.drawn, toks := s3.toks } := by
    cases s3
    cases o3
    rfl
  rw [e]
  exact ⟨.ref pp, _, J, rfl, q1 pp hn⟩
def xSoSet (f : Mo Rs) : Mo Rs := x1 soSet f
theorem pd_soSet (hc : X.calm = true) (hg : Gl X "sorted") (hm : X.mg "sorted" = none) (hv : bootBuiltins "sorted" = some (.builtin "sorted")) (hg2 : Gl X "set") (hm2 : X.mg "set" = none) (hv2 : bootBuiltins "set" = some (.type "set")) (ha : PD X a f)
    (na : starEach [a] X.env = (false, eval a X.env) :: starEach [] X.env := by rfl) : PD X (.Call (.Name "sorted" p) [.Call (.Name "set" p2) [a] [] q] [] pos) (xSoSet f) := PE.to (pe_soSet hc hg hm hv hg2 hm2 hv2 ha na) fun σ H Q h => by
  obtain ⟨S, ρ, r, ρ', G, e, q⟩ := h
  obtain ⟨r1, ρ1, e1, e2⟩ := bindM_some e
  obtain ⟨d, ρ2, e3, e4⟩ := bindM_some e2
  obtain ⟨d', ρ3, e5, e6⟩ := bindM_some e4
  obtain ⟨b1, b2⟩ := optM_some e5
  simp only at b1 b2
  cases retM_some e6
  refine ⟨S, ρ, r1, ρ1, G, e1, fun v S1 H1 F1 G1 R1 => ?_⟩
  obtain ⟨rd, rfl⟩ := R1.rd G1 e3
  subst b2
  have n1 : Now X.K σ S ρ H S1 _ H1 := ⟨G, F1, G1⟩
  unfold soSet at b1
  split at b1
  · obtain ⟨xs, hx, b1⟩ := Option.bind_eq_some_iff.mp b1
    split at b1
    · rename_i hl
      cases b1
      obtain rfl := strsD_eq hx
      obtain ⟨a, vs, rfl, h1, p1⟩ := rd.lst
      obtain rfl := p1.strs_eq
      exact ⟨a, xs, rfl, SqL.of h1, hl.1, hl.2, fun p hp => q _ S1 _ (n1.grow (Gw.lay G1.al hp)).f (n1.grow (Gw.lay G1.al hp)).g (lay_lst G1.al (RpL.strs _) hp (n1.none0 hp))⟩
    · cases b1
  · cases b1
end

/-! ### list(script) -/
/-- the script, copied -/
def xScr (i : Nat) : Mo Rs := fun ρ => match ρ[i]? with
  | some (some (.scr, d)) => some (.fresh d, ρ)
  | _ => none
section
variable {X : Cx} {x : Str} {p np pos : Pos}
theorem pd_scr (i : Nat) (hg : Gl X "list") (hm : X.mg "list" = none) (hv : bootBuiltins "list" = some (.type "list")) (hN : X.N[i]? = some x := by rfl) (hvis : Vis X.env.scope x := by first | exact Or.inl rfl | exact Or.inr (Or.inl rfl) | exact Or.inr (Or.inr rfl)) (hd : (x == ("__debug__" : Str)) = false := by decide)
    (hcd : (x == ("__classdict__" : Str)) = false := by decide) (he : starEach [.Name x np] X.env = (false, eval (.Name x np) X.env) :: starEach [] X.env := by rfl) (hpl : (backTo pos (starEach [] X.env)).any (·.1) = false := by rfl) :
    PD X (.Call (.Name "list" p) [.Name x np] [] pos) (xScr i) := PE.to (pe_callTy call_list_of hg hm hv (pa_cons (pe_var hN hvis hd hcd) pa_nil he) (he := he) (hpl := hpl)) fun σ H Q h => by
  obtain ⟨S, ρ, r, ρ', G, e, q⟩ := h
  unfold xScr at e
  split at e
  · rename_i d hs
    cases e
    obtain ⟨v, hv, a, ns, rfl, rfl, k, _⟩ := G.sl i .scr _ hs
    exact ⟨_, hv, a, _, rfl, .inl k, fun p hp => q _ S _ (Gw.lay G.al hp).fr (G.ext (Gw.lay G.al hp)) (lay_lst G.al (RpL.ints ns) hp hp)⟩
  · cases e
end

/-! ### is True, is not True; constants of the module -/
def opIsB : PyData → PyData → Option PyData
  | .bool a, .bool b => some (.bool (decide (a = b)))
  | _, _ => none
def opNotB : PyData → PyData → Option PyData
  | .bool a, .bool b => some (.bool (!decide (a = b)))
  | _, _ => none
section
variable {X : Cx}
theorem o_isB : OpR X (compareOp .Is) (rD X.K opIsB) := by
  intro pins s σ H x y v u Q I rx ry q
  obtain ⟨S, d1, d2, d, al, r1, r2, e, q⟩ := q
  unfold opIsB at e
  split at e
  · cases e
    exact op_isBl pins s σ H x y v u Q I rx ry ⟨_, _, r1.bl, r2.bl, q _ S H (Gw.refl al) (.bl _)⟩
  · cases e
theorem o_notB : OpR X (compareOp .IsNot) (rD X.K opNotB) := by
  intro pins s σ H x y v u Q I rx ry q
  obtain ⟨S, d1, d2, d, al, r1, r2, e, q⟩ := q
  unfold opNotB at e
  split at e
  · cases e
    exact op_notBl pins s σ H x y v u Q I rx ry ⟨_, _, r1.bl, r2.bl, q _ S H (Gw.refl al) (.bl _)⟩
  · cases e
/-- a tuple of texts that the module holds -/
def ConstT (K : PySem.W.Frag) (mg : Str → Option Value) (x : Str) (xs : List Str) : Prop := ∃ a, mg x = some (.ref a) ∧ KTup K a (xs.map V.str)
theorem pd_gc {x : Str} {xs : List Str} {pos : Pos} (c : ConstT X.K X.mg x xs) (hg : Gl X x) (hd : (x == ("__debug__" : Str)) = false := by decide) (hn : pairsB (xs.map .str) = false := by rfl) : PD X (.Name x pos) (xC (.tuple (xs.map .str))) := by
  obtain ⟨a, hm, k⟩ := c
  exact pd_of_tC (pe_glob hg hm (v := .ref a) rfl hd) fun S H => .tup (.inr k) (RpL.strs xs) fun e => by rw [hn] at e; cases e
end
section
variable {P : Program} {w : World} {K : PySem.W.Frag} {mg : Str → Option Value} {base : Heap} {f : Addr} {fd : FuncData} {ps : List Str} {x : Str} {fn : Fn} {k : Nat}
theorem Cl.of (F : FnOk P w K mg base CX0 k f fd ps (spI K fn)) (hm : mg x = some (.ref f)) (hk : PySem.W.keepIn K (.ref f) = true) (hb : Binds K fd ps []) : Cl P w K mg base k x fn := ⟨f, fd, ps, F, hm, hk, hb⟩
theorem fn_none : FnOk P w K mg base CX0 k f fd ps (spI K fun _ => none) := by
  refine ⟨fun vs H Q E h => ?_, fun A outer s H args us vs Q E hr he hb hv hs => ?_⟩
  · obtain ⟨_, _, _, _, _, e, _⟩ := h; cases e
  · obtain ⟨_, _, _, _, _, e, _⟩ := hs; cases e
end
/-- what a comprehension's block asks of its scope, counted -/
def blkB (N : List Str) (sc scope : Scope) (own : List (Str × Nat)) : Bool :=
  decide (scope.kind = .function) && scope.names.all (fun y => decide (scope.names.lookup y.1 = some y.2)) && own.all (fun p => decide (N[p.2]? = some p.1)) &&
    scope.names.all (fun y => !decide (y.2 = .free) || (decide (sc.names.lookup y.1 = some .cell) || decide (sc.names.lookup y.1 = some .free))) &&
    scope.names.all (fun y => !(decide (y.2 = .local) || decide (y.2 = .cell)) || (decide (y.1 ∈ own.map (·.1)) || !decide (y.1 ∈ N)))
theorem blk_ok (N : List Str) (sc : Scope) {scope : Scope} {own : List (Str × Nat)} (h : blkB N sc scope own = true) : BlkOk N sc scope own := by
  unfold blkB at h
  simp only [Bool.and_eq_true, List.all_eq_true, decide_eq_true_eq, Bool.or_eq_true, Bool.not_eq_true', decide_eq_false_iff_not, Bool.or_eq_false_iff] at h
  obtain ⟨⟨⟨⟨h1, h2⟩, h3⟩, h4⟩, h5⟩ := h
  refine ⟨h1, fun y hy => h2 y hy, fun p hp => h3 p hp, fun y hy hf => ?_, fun y hy hl => ?_⟩
  · rcases h4 y hy with z | z
    · exact absurd hf z
    · exact z
  · rcases h5 y hy with ⟨z1, z2⟩ | z
    · rcases hl with z | z
      · exact absurd z z1
      · exact absurd z z2
    · exact z
end PyI

/-! PyI, part N: the evaluator by small equations (for simp). -/
namespace PyI
open PySem PySem.Spec L2

/-! ### stages -/
def rdD (r : Rs) (ρ : Rho) : Option PyData := match r with
  | .kept d => some d
  | .fresh d => some d
  | .slot i => match ρ[i]? with
    | some (some (.scr, _)) => none
    | some (some (_, d)) => some d
    | _ => none
theorem rdR_rd (r : Rs) (ρ : Rho) : rdR r ρ = (rdD r ρ).map fun d => (d, ρ) := by
  unfold rdR rdD
  cases r with
  | kept d => rfl
  | fresh d => rfl
  | slot i =>
    dsimp only
    cases ρ[i]? with
    | none => rfl
    | some x =>
      cases x with
      | none => rfl
      | some p => obtain ⟨st, d⟩ := p; cases st <;> rfl
def rda : Option (Option (Stt × PyData)) → Option PyData
  | some (some (.scr, _)) => none
  | some (some (_, d)) => some d
  | _ => none
@[simp] theorem e_rk (d : PyData) (ρ : Rho) : rdD (.kept d) ρ = some d := (rfl)
@[simp] theorem e_rf (d : PyData) (ρ : Rho) : rdD (.fresh d) ρ = some d := (rfl)
theorem e_rs (i : Nat) (ρ : Rho) : rdD (.slot i) ρ = rda ρ[i]? := by
  unfold rdD rda
  dsimp only
@[simp] theorem e_rs0 (x : Option (Stt × PyData)) (ρ : Rho) : rdD (.slot 0) (x :: ρ) = rda (some x) := e_rs 0 _
@[simp] theorem e_rsS (i : Nat) (x : Option (Stt × PyData)) (ρ : Rho) : rdD (.slot (i + 1)) (x :: ρ) = rdD (.slot i) ρ := by rw [e_rs, e_rs]; rfl
@[simp] theorem e_ra1 (d : PyData) : rda (some (some (.shr, d))) = some d := (rfl)
@[simp] theorem e_ra2 (d : PyData) : rda (some (some (.own, d))) = some d := (rfl)
@[simp] theorem e_ra3 (d : PyData) : rda (some (some (.lent, d))) = some d := (rfl)
@[simp] theorem e_ra4 (d : PyData) : rda (some (some (.bor, d))) = some d := (rfl)
def xVa : Option (Option (Stt × PyData)) → Nat → Rho → Option (Rs × Rho)
  | some (some _), i, ρ => some (.slot i, ρ)
  | _, _, _ => none
def gi (ρ : Rho) (i : Nat) : Option (Option (Stt × PyData)) := ρ[i]?
@[simp] theorem e_g0 (x : Option (Stt × PyData)) (ρ : Rho) : gi (x :: ρ) 0 = some x := (rfl)
@[simp] theorem e_gS (i : Nat) (x : Option (Stt × PyData)) (ρ : Rho) : gi (x :: ρ) (i + 1) = gi ρ i := (rfl)
@[simp] theorem e_xV (i : Nat) (ρ : Rho) : xV i ρ = xVa (gi ρ i) i ρ := by
  unfold xV xVa gi
  cases ρ[i]? with
  | none => rfl
  | some x => cases x <;> rfl
@[simp] theorem e_xVa (p : Stt × PyData) (i : Nat) (ρ : Rho) : xVa (some (some p)) i ρ = some (.slot i, ρ) := (rfl)
@[simp] theorem e_xC (d : PyData) (ρ : Rho) : xC d ρ = some (.kept d, ρ) := (rfl)
def x2a (k : Bool) (x : Option (Rs × Rho)) (g : Mo Rs) (op : PyData → PyData → Option PyData) : Option (Rs × Rho) := match x with
  | some (r1, ρ) => (bindM g fun r2 => bindM (rdR r1) fun d1 => bindM (rdR r2) fun d2 => bindM (optM (op d1 d2)) fun d => retM (if k = true then resN d else .kept d)) ρ
  | none => none
def x2b (k : Bool) (r1 : Rs) (x : Option (Rs × Rho)) (op : PyData → PyData → Option PyData) : Option (Rs × Rho) := match x with
  | some (r2, ρ) => (bindM (rdR r1) fun d1 => bindM (rdR r2) fun d2 => bindM (optM (op d1 d2)) fun d => retM (if k = true then resN d else .kept d)) ρ
  | none => none
def x2c (k : Bool) (d1 d2 : Option PyData) (op : PyData → PyData → Option PyData) (ρ : Rho) : Option (Rs × Rho) := match d1, d2 with
  | some d1, some d2 => match op d1 d2 with
    | some d => some ((if k = true then resN d else .kept d), ρ)
    | none => none
  | _, _ => none
def x2d (k : Bool) (d : Option PyData) (ρ : Rho) : Option (Rs × Rho) := match d with
  | some d => some ((if k = true then resN d else .kept d), ρ)
  | none => none
@[simp] theorem e_x2 (f g : Mo Rs) (op : PyData → PyData → Option PyData) (ρ : Rho) : x2 f g op ρ = x2a true (f ρ) g op := by
  unfold x2 x2a
  conv => lhs; unfold bindM
  cases f ρ <;> rfl
@[simp] theorem e_x2i (f g : Mo Rs) (op : PyData → PyData → Option PyData) (ρ : Rho) : x2i f g op ρ = x2a false (f ρ) g op := by
  unfold x2i x2a
  conv => lhs; unfold bindM
  cases f ρ <;> rfl
@[simp] theorem e_x2a (k : Bool) (r : Rs) (ρ : Rho) (g : Mo Rs) (op : PyData → PyData → Option PyData) : x2a k (some (r, ρ)) g op = x2b k r (g ρ) op := by
  unfold x2a x2b
  dsimp only
  conv => lhs; unfold bindM
  cases g ρ <;> rfl
@[simp] theorem e_x2b (k : Bool) (r r2 : Rs) (ρ : Rho) (op : PyData → PyData → Option PyData) : x2b k r (some (r2, ρ)) op = x2c k (rdD r ρ) (rdD r2 ρ) op ρ := by
  unfold x2b x2c
  dsimp only
  unfold bindM
  rw [rdR_rd]
  cases rdD r ρ with
  | none => rfl
  | some d1 =>
    dsimp only [Option.map]
    rw [rdR_rd]
    cases rdD r2 ρ with
    | none => rfl
    | some d2 =>
      dsimp only [Option.map]
      unfold optM
      cases op d1 d2 <;> rfl
@[simp] theorem e_x2c (k : Bool) (d1 d2 : PyData) (op : PyData → PyData → Option PyData) (ρ : Rho) : x2c k (some d1) (some d2) op ρ = x2d k (op d1 d2) ρ := (rfl)
@[simp] theorem e_x2dt (d : PyData) (ρ : Rho) : x2d true (some d) ρ = some (resN d, ρ) := (rfl)
@[simp] theorem e_x2df (d : PyData) (ρ : Rho) : x2d false (some d) ρ = some (.kept d, ρ) := (rfl)
@[simp] theorem e_rn1 (i : Int) : resN (.int i) = .kept (.int i) := (rfl)
@[simp] theorem e_rn2 (b : Bool) : resN (.bool b) = .kept (.bool b) := (rfl)
@[simp] theorem e_rn3 (x : Str) : resN (.str x) = .kept (.str x) := (rfl)
@[simp] theorem e_rn4 : resN .none = .kept .none := (rfl)
@[simp] theorem e_rn5 (l : List PyData) : resN (.list l) = .fresh (.list l) := (rfl)
@[simp] theorem e_rn6 (l : List PyData) : resN (.tuple l) = .kept (.tuple l) := (rfl)
@[simp] theorem e_rn7 (l : List (PyData × PyData)) : resN (.dict l) = .fresh (.dict l) := (rfl)
/-! tests -/
def tVa (x : Option (Rs × Rho)) : Option (Bool × Rho) := match x with
  | some (r, ρ) => match rdD r ρ with
    | some (.bool b) => some (b, ρ)
    | _ => none
  | none => none
def tVb (d : Option PyData) (ρ : Rho) : Option (Bool × Rho) := match d with
  | some (.bool b) => some (b, ρ)
  | _ => none
@[simp] theorem e_tV (f : Mo Rs) (ρ : Rho) : tV f ρ = tVa (f ρ) := by
  unfold tV tVa bindM
  cases f ρ with
  | none => rfl
  | some p =>
    dsimp only
    rw [rdR_rd]
    cases rdD p.1 p.2 with
    | none => rfl
    | some d =>
      dsimp only [Option.map]
      unfold optM boolD
      cases d <;> rfl
@[simp] theorem e_tVa (r : Rs) (ρ : Rho) : tVa (some (r, ρ)) = tVb (rdD r ρ) ρ := (rfl)
@[simp] theorem e_tVb (b : Bool) (ρ : Rho) : tVb (some (.bool b)) ρ = some (b, ρ) := (rfl)
def tNa : Option (Bool × Rho) → Option (Bool × Rho)
  | some (b, ρ) => some (!b, ρ)
  | none => none
@[simp] theorem e_tN (f : Mo Bool) (ρ : Rho) : tNotM f ρ = tNa (f ρ) := by
  unfold tNotM tNa bindM
  cases f ρ <;> rfl
@[simp] theorem e_tNa (b : Bool) (ρ : Rho) : tNa (some (b, ρ)) = some (!b, ρ) := (rfl)
def tAa (x : Option (Bool × Rho)) (g : Mo Bool) : Option (Bool × Rho) := match x with
  | some (b, ρ) => if b = true then g ρ else some (false, ρ)
  | none => none
def tOa (x : Option (Bool × Rho)) (g : Mo Bool) : Option (Bool × Rho) := match x with
  | some (b, ρ) => if b = true then some (true, ρ) else g ρ
  | none => none
@[simp] theorem e_tA (f g : Mo Bool) (ρ : Rho) : tAndM f g ρ = tAa (f ρ) g := by
  unfold tAndM tAa bindM
  cases f ρ with
  | none => rfl
  | some p => dsimp only; split <;> rfl
@[simp] theorem e_tO (f g : Mo Bool) (ρ : Rho) : tOrM f g ρ = tOa (f ρ) g := by
  unfold tOrM tOa bindM
  cases f ρ with
  | none => rfl
  | some p => dsimp only; split <;> rfl
@[simp] theorem e_tAt (ρ : Rho) (g : Mo Bool) : tAa (some (true, ρ)) g = g ρ := (rfl)
@[simp] theorem e_tAf (ρ : Rho) (g : Mo Bool) : tAa (some (false, ρ)) g = some (false, ρ) := (rfl)
@[simp] theorem e_tOt (ρ : Rho) (g : Mo Bool) : tOa (some (true, ρ)) g = some (true, ρ) := (rfl)
@[simp] theorem e_tOf (ρ : Rho) (g : Mo Bool) : tOa (some (false, ρ)) g = g ρ := (rfl)
@[simp] theorem e_tY (ρ : Rho) : tYesM ρ = some (true, ρ) := (rfl)
/-! and, or, not, if -/
def xAa (x : Option (Bool × Rho)) (g : Mo Rs) : Option (Rs × Rho) := match x with
  | some (b, ρ) => if b = true then g ρ else some (.kept (.bool false), ρ)
  | none => none
def xOa (x : Option (Bool × Rho)) (g : Mo Rs) : Option (Rs × Rho) := match x with
  | some (b, ρ) => if b = true then some (.kept (.bool true), ρ) else g ρ
  | none => none
def xNa : Option (Bool × Rho) → Option (Rs × Rho)
  | some (b, ρ) => some (.kept (.bool (!b)), ρ)
  | none => none
def xIa (x : Option (Bool × Rho)) (f g : Mo Rs) : Option (Rs × Rho) := match x with
  | some (b, ρ) => if b = true then f ρ else g ρ
  | none => none
@[simp] theorem e_xA (f g : Mo Rs) (ρ : Rho) : xAnd f g ρ = xAa (tV f ρ) g := by
  unfold xAnd xAa bindM
  cases tV f ρ with
  | none => rfl
  | some p => dsimp only; split <;> rfl
@[simp] theorem e_xO (f g : Mo Rs) (ρ : Rho) : xOr f g ρ = xOa (tV f ρ) g := by
  unfold xOr xOa bindM
  cases tV f ρ with
  | none => rfl
  | some p => dsimp only; split <;> rfl
@[simp] theorem e_xN (f : Mo Rs) (ρ : Rho) : xNot f ρ = xNa (tV f ρ) := by
  unfold xNot xNa bindM
  cases tV f ρ <;> rfl
@[simp] theorem e_xI (t : Mo Bool) (f g : Mo Rs) (ρ : Rho) : xIf t f g ρ = xIa (t ρ) f g := by
  unfold xIf xIa bindM
  cases t ρ with
  | none => rfl
  | some p => dsimp only; split <;> rfl
@[simp] theorem e_xAt (ρ : Rho) (g : Mo Rs) : xAa (some (true, ρ)) g = g ρ := (rfl)
@[simp] theorem e_xAf (ρ : Rho) (g : Mo Rs) : xAa (some (false, ρ)) g = some (.kept (.bool false), ρ) := (rfl)
@[simp] theorem e_xOt (ρ : Rho) (g : Mo Rs) : xOa (some (true, ρ)) g = some (.kept (.bool true), ρ) := (rfl)
@[simp] theorem e_xOf (ρ : Rho) (g : Mo Rs) : xOa (some (false, ρ)) g = g ρ := (rfl)
@[simp] theorem e_xNa (b : Bool) (ρ : Rho) : xNa (some (b, ρ)) = some (.kept (.bool (!b)), ρ) := (rfl)
@[simp] theorem e_xIt (ρ : Rho) (f g : Mo Rs) : xIa (some (true, ρ)) f g = f ρ := (rfl)
@[simp] theorem e_xIf (ρ : Rho) (f g : Mo Rs) : xIa (some (false, ρ)) f g = g ρ := (rfl)
/-! arguments, displays, built-ins -/
def aCa (x : Option (Rs × Rho)) (g : Mo (List Rs)) : Option (List Rs × Rho) := match x with
  | some (r, ρ) => match g ρ with
    | some (rs, ρ') => some (r :: rs, ρ')
    | none => none
  | none => none
def aCb (r : Rs) (x : Option (List Rs × Rho)) : Option (List Rs × Rho) := match x with
  | some (rs, ρ') => some (r :: rs, ρ')
  | none => none
@[simp] theorem e_aN (ρ : Rho) : aN ρ = some ([], ρ) := (rfl)
@[simp] theorem e_aC (f : Mo Rs) (g : Mo (List Rs)) (ρ : Rho) : aC f g ρ = aCa (f ρ) g := by
  unfold aC aCa bindM
  cases f ρ with
  | none => rfl
  | some p => dsimp only; cases g p.2 <;> rfl
@[simp] theorem e_aCa (r : Rs) (ρ : Rho) (g : Mo (List Rs)) : aCa (some (r, ρ)) g = aCb r (g ρ) := (rfl)
@[simp] theorem e_aCb (r : Rs) (rs : List Rs) (ρ : Rho) : aCb r (some (rs, ρ)) = some (r :: rs, ρ) := (rfl)
def rdDs (ρ : Rho) : List Rs → Option (List PyData)
  | [] => some []
  | r :: rs => match rdD r ρ, rdDs ρ rs with
    | some d, some ds => some (d :: ds)
    | _, _ => none
@[simp] theorem e_rds0 (ρ : Rho) : rdDs ρ [] = some [] := (rfl)
def cns : Option PyData → Option (List PyData) → Option (List PyData)
  | some d, some ds => some (d :: ds)
  | _, _ => none
@[simp] theorem e_rdsS (r : Rs) (rs : List Rs) (ρ : Rho) : rdDs ρ (r :: rs) = cns (rdD r ρ) (rdDs ρ rs) := (rfl)
@[simp] theorem e_cns (d : PyData) (ds : List PyData) : cns (some d) (some ds) = some (d :: ds) := (rfl)
theorem rdL_rd (rs : List Rs) (ρ : Rho) : rdL rs ρ = (rdDs ρ rs).map fun d => (d, ρ) := by
  induction rs with
  | nil => rfl
  | cons r rs ih =>
    unfold rdL rdDs bindM
    rw [rdR_rd]
    cases rdD r ρ with
    | none => rfl
    | some d =>
      dsimp only [Option.map]
      rw [ih]
      cases rdDs ρ rs <;> rfl
def xBa (op : List PyData → Option PyData) (x : Option (List Rs × Rho)) : Option (Rs × Rho) := match x with
  | some (rs, ρ) => match rdDs ρ rs with
    | some ds => x2d true (op ds) ρ
    | none => none
  | none => none
def xBb (op : List PyData → Option PyData) (x : Option (List PyData)) (ρ : Rho) : Option (Rs × Rho) := match x with
  | some ds => x2d true (op ds) ρ
  | none => none
@[simp] theorem e_xB (op : List PyData → Option PyData) (g : Mo (List Rs)) (ρ : Rho) : xB op g ρ = xBa op (g ρ) := by
  unfold xB xBa bindM
  cases g ρ with
  | none => rfl
  | some p =>
    dsimp only
    rw [rdL_rd]
    cases rdDs p.2 p.1 with
    | none => rfl
    | some ds =>
      dsimp only [Option.map]
      unfold optM x2d
      cases op ds <;> rfl
@[simp] theorem e_xBa (op : List PyData → Option PyData) (rs : List Rs) (ρ : Rho) : xBa op (some (rs, ρ)) = xBb op (rdDs ρ rs) ρ := (rfl)
@[simp] theorem e_xBb (op : List PyData → Option PyData) (ds : List PyData) (ρ : Rho) : xBb op (some ds) ρ = x2d true (op ds) ρ := (rfl)
def x1a (op : PyData → Option PyData) (x : Option (Rs × Rho)) : Option (Rs × Rho) := match x with
  | some (r, ρ) => match rdD r ρ with
    | some d => x2d true (op d) ρ
    | none => none
  | none => none
def x1b (op : PyData → Option PyData) (x : Option PyData) (ρ : Rho) : Option (Rs × Rho) := match x with
  | some d => x2d true (op d) ρ
  | none => none
@[simp] theorem e_x1 (op : PyData → Option PyData) (f : Mo Rs) (ρ : Rho) : x1 op f ρ = x1a op (f ρ) := by
  unfold x1 x1a bindM
  cases f ρ with
  | none => rfl
  | some p =>
    dsimp only
    rw [rdR_rd]
    cases rdD p.1 p.2 with
    | none => rfl
    | some d =>
      dsimp only [Option.map]
      unfold optM x2d
      cases op d <;> rfl
@[simp] theorem e_x1a (op : PyData → Option PyData) (r : Rs) (ρ : Rho) : x1a op (some (r, ρ)) = x1b op (rdD r ρ) ρ := (rfl)
@[simp] theorem e_x1b (op : PyData → Option PyData) (d : PyData) (ρ : Rho) : x1b op (some d) ρ = x2d true (op d) ρ := (rfl)
@[simp] theorem e_so (f : Mo Rs) (ρ : Rho) : xSoSet f ρ = x1a soSet (f ρ) := e_x1 _ _ _
def xIsa (T : String) (x : Option (Rs × Rho)) : Option (Rs × Rho) := match x with
  | some (r, ρ) => match rdD r ρ with
    | some d => some (.kept (.bool (isSub (tyD d) T)), ρ)
    | none => none
  | none => none
def xIsb (T : String) (x : Option PyData) (ρ : Rho) : Option (Rs × Rho) := match x with
  | some d => some (.kept (.bool (isSub (tyD d) T)), ρ)
  | none => none
@[simp] theorem e_is (T : String) (f : Mo Rs) (ρ : Rho) : xIsi T f ρ = xIsa T (f ρ) := by
  unfold xIsi xIsa bindM
  cases f ρ with
  | none => rfl
  | some p =>
    dsimp only
    rw [rdR_rd]
    cases rdD p.1 p.2 <;> rfl
@[simp] theorem e_isa (T : String) (r : Rs) (ρ : Rho) : xIsa T (some (r, ρ)) = xIsb T (rdD r ρ) ρ := (rfl)
@[simp] theorem e_isb (T : String) (d : PyData) (ρ : Rho) : xIsb T (some d) ρ = some (.kept (.bool (isSub (tyD d) T)), ρ) := (rfl)
/-! handed on -/
def kpa : Option (Option (Stt × PyData)) → Nat → Rho → Option (PyData × Rho)
  | some (some (.shr, d)), _, ρ => some (d, ρ)
  | some (some (.own, d)), i, ρ => some (d, ρ.set i (some (.shr, d)))
  | _, _, _ => none
@[simp] theorem e_kk (d : PyData) (ρ : Rho) : keepR (.kept d) ρ = some (d, ρ) := (rfl)
@[simp] theorem e_kf (d : PyData) (ρ : Rho) : keepR (.fresh d) ρ = some (d, ρ) := (rfl)
@[simp] theorem e_ks (i : Nat) (ρ : Rho) : keepR (.slot i) ρ = kpa (gi ρ i) i ρ := by
  unfold keepR kpa gi
  dsimp only
  cases ρ[i]? with
  | none => rfl
  | some x =>
    cases x with
    | none => rfl
    | some p => obtain ⟨st, d⟩ := p; cases st <;> rfl
@[simp] theorem e_kp1 (d : PyData) (i : Nat) (ρ : Rho) : kpa (some (some (.shr, d))) i ρ = some (d, ρ) := (rfl)
@[simp] theorem e_kp2 (d : PyData) (i : Nat) (ρ : Rho) : kpa (some (some (.own, d))) i ρ = some (d, ρ.set i (some (.shr, d))) := (rfl)
def kLa (x : Option (PyData × Rho)) (rs : List Rs) : Option (List PyData × Rho) := match x with
  | some (d, ρ) => match keepL rs ρ with
    | some (ds, ρ') => some (d :: ds, ρ')
    | none => none
  | none => none
def kLb (d : PyData) (x : Option (List PyData × Rho)) : Option (List PyData × Rho) := match x with
  | some (ds, ρ') => some (d :: ds, ρ')
  | none => none
@[simp] theorem e_kL0 (ρ : Rho) : keepL [] ρ = some ([], ρ) := (rfl)
@[simp] theorem e_kLS (r : Rs) (rs : List Rs) (ρ : Rho) : keepL (r :: rs) ρ = kLa (keepR r ρ) rs := by
  show bindM (keepR r) _ ρ = _
  unfold kLa bindM
  cases keepR r ρ with
  | none => rfl
  | some p => dsimp only; cases keepL rs p.2 <;> rfl
@[simp] theorem e_kLa (d : PyData) (ρ : Rho) (rs : List Rs) : kLa (some (d, ρ)) rs = kLb d (keepL rs ρ) := (rfl)
@[simp] theorem e_kLb (d : PyData) (ds : List PyData) (ρ : Rho) : kLb d (some (ds, ρ)) = some (d :: ds, ρ) := (rfl)
/-! displays -/
def dsa (lst : Bool) (x : Option (List Rs × Rho)) : Option (Rs × Rho) := match x with
  | some (rs, ρ) => match keepL rs ρ with
    | some (ds, ρ') => if lenOk ds = true then some ((if lst = true then .fresh (.list ds) else .kept (.tuple ds)), ρ') else none
    | none => none
  | none => none
def dsb (lst : Bool) (x : Option (List PyData × Rho)) : Option (Rs × Rho) := match x with
  | some (ds, ρ') => if lenOk ds = true then some ((if lst = true then .fresh (.list ds) else .kept (.tuple ds)), ρ') else none
  | none => none
theorem few_ok {α : Type} {l : List α} (h : l.length ≤ 1000) : lenOk l = true := decide_eq_true (Nat.le_trans h (by rw [sizeLine_eq]; decide))
@[simp] theorem e_tup (g : Mo (List Rs)) (ρ : Rho) : xTup g ρ = dsa false (g ρ) := by
  unfold xTup dsa bindM
  cases g ρ with
  | none => rfl
  | some p =>
    dsimp only
    cases keepL p.1 p.2 with
    | none => rfl
    | some q => dsimp only; split <;> rfl
@[simp] theorem e_lst (g : Mo (List Rs)) (ρ : Rho) : xLst g ρ = dsa true (g ρ) := by
  unfold xLst dsa bindM
  cases g ρ with
  | none => rfl
  | some p =>
    dsimp only
    cases keepL p.1 p.2 with
    | none => rfl
    | some q => dsimp only; split <;> rfl
@[simp] theorem e_dsa (l : Bool) (rs : List Rs) (ρ : Rho) : dsa l (some (rs, ρ)) = dsb l (keepL rs ρ) := (rfl)
theorem e_dsbt (ds : List PyData) (ρ : Rho) (h : ds.length ≤ 1000) : dsb true (some (ds, ρ)) = some (.fresh (.list ds), ρ) := by
  unfold dsb
  dsimp only
  rw [if_pos (few_ok h)]; rfl
theorem e_dsbf (ds : List PyData) (ρ : Rho) (h : ds.length ≤ 1000) : dsb false (some (ds, ρ)) = some (.kept (.tuple ds), ρ) := by
  unfold dsb
  dsimp only
  rw [if_pos (few_ok h)]; rfl
@[simp] theorem e_l0 (ρ : Rho) : dsb true (some ([], ρ)) = some (.fresh (.list []), ρ) := e_dsbt _ _ (by decide)
@[simp] theorem e_l1 (a : PyData) (ρ : Rho) : dsb true (some ([a], ρ)) = some (.fresh (.list [a]), ρ) := e_dsbt _ _ (by simp)
@[simp] theorem e_l2 (a b : PyData) (ρ : Rho) : dsb true (some ([a, b], ρ)) = some (.fresh (.list [a, b]), ρ) := e_dsbt _ _ (by simp)
@[simp] theorem e_l3 (a b c : PyData) (ρ : Rho) : dsb true (some ([a, b, c], ρ)) = some (.fresh (.list [a, b, c]), ρ) := e_dsbt _ _ (by simp)
@[simp] theorem e_l4 (a b c d : PyData) (ρ : Rho) : dsb true (some ([a, b, c, d], ρ)) = some (.fresh (.list [a, b, c, d]), ρ) := e_dsbt _ _ (by simp)
@[simp] theorem e_t0 (ρ : Rho) : dsb false (some ([], ρ)) = some (.kept (.tuple []), ρ) := e_dsbf _ _ (by decide)
@[simp] theorem e_t1 (a : PyData) (ρ : Rho) : dsb false (some ([a], ρ)) = some (.kept (.tuple [a]), ρ) := e_dsbf _ _ (by simp)
@[simp] theorem e_t2 (a b : PyData) (ρ : Rho) : dsb false (some ([a, b], ρ)) = some (.kept (.tuple [a, b]), ρ) := e_dsbf _ _ (by simp)
@[simp] theorem e_t3 (a b c : PyData) (ρ : Rho) : dsb false (some ([a, b, c], ρ)) = some (.kept (.tuple [a, b, c]), ρ) := e_dsbf _ _ (by simp)
@[simp] theorem e_t4 (a b c d : PyData) (ρ : Rho) : dsb false (some ([a, b, c, d], ρ)) = some (.kept (.tuple [a, b, c, d]), ρ) := e_dsbf _ _ (by simp)
@[simp] theorem e_d0 (ρ : Rho) : xDict0 ρ = some (.fresh (.dict []), ρ) := (rfl)
/-! statements -/
def sqa (x : Option (Fl × Rho)) (g : Mo Fl) : Option (Fl × Rho) := match x with
  | some (.nx, ρ) => g ρ
  | x => x
@[simp] theorem e_sq (f g : Mo Fl) (ρ : Rho) : sSeq f g ρ = sqa (f ρ) g := (rfl)
@[simp] theorem e_sqn (ρ : Rho) (g : Mo Fl) : sqa (some (.nx, ρ)) g = g ρ := (rfl)
@[simp] theorem e_sqr (r : Rs) (ρ : Rho) (g : Mo Fl) : sqa (some (.ret r, ρ)) g = some (.ret r, ρ) := (rfl)
@[simp] theorem e_sqb (ρ : Rho) (g : Mo Fl) : sqa (some (.bk, ρ)) g = some (.bk, ρ) := (rfl)
@[simp] theorem e_sqc (ρ : Rho) (g : Mo Fl) : sqa (some (.ct, ρ)) g = some (.ct, ρ) := (rfl)
def sIa (x : Option (Bool × Rho)) (f g : Mo Fl) : Option (Fl × Rho) := match x with
  | some (b, ρ) => if b = true then f ρ else g ρ
  | none => none
@[simp] theorem e_sI (t : Mo Bool) (f g : Mo Fl) (ρ : Rho) : sIf t f g ρ = sIa (t ρ) f g := by
  unfold sIf sIa bindM
  cases t ρ with
  | none => rfl
  | some p => dsimp only; split <;> rfl
@[simp] theorem e_sIt (ρ : Rho) (f g : Mo Fl) : sIa (some (true, ρ)) f g = f ρ := (rfl)
@[simp] theorem e_sIf (ρ : Rho) (f g : Mo Fl) : sIa (some (false, ρ)) f g = g ρ := (rfl)
@[simp] theorem e_sP (ρ : Rho) : sPass ρ = some (.nx, ρ) := (rfl)
@[simp] theorem e_sB (ρ : Rho) : sBreak ρ = some (.bk, ρ) := (rfl)
@[simp] theorem e_sC (ρ : Rho) : sCont ρ = some (.ct, ρ) := (rfl)
def sRa : Option (Rs × Rho) → Option (Fl × Rho)
  | some (r, ρ) => some (.ret r, ρ)
  | none => none
@[simp] theorem e_sR (f : Mo Rs) (ρ : Rho) : sRet f ρ = sRa (f ρ) := by
  unfold sRet sRa bindM
  cases f ρ <;> rfl
@[simp] theorem e_sRa (r : Rs) (ρ : Rho) : sRa (some (r, ρ)) = some (.ret r, ρ) := (rfl)
def sDa : Option (Rs × Rho) → Option (Fl × Rho)
  | some (_, ρ) => some (.nx, ρ)
  | none => none
@[simp] theorem e_sD (f : Mo Rs) (ρ : Rho) : sDrop f ρ = sDa (f ρ) := by
  unfold sDrop sDa bindM
  cases f ρ <;> rfl
@[simp] theorem e_sDa (r : Rs) (ρ : Rho) : sDa (some (r, ρ)) = some (.nx, ρ) := (rfl)
/-- a store at a name -/
def sto (i : Nat) (x : Option (Rs × Rho)) : Option (Fl × Rho) := match x with
  | some (.kept d, ρ) => if i < ρ.length then some (.nx, ρ.set i (some (.shr, d))) else none
  | some (.fresh d, ρ) => if i < ρ.length then some (.nx, ρ.set i (some (.own, d))) else none
  | some (.slot j, ρ) => match keepR (.slot j) ρ with
    | some (d, ρ') => if i < ρ'.length then some (.nx, ρ'.set i (some (.shr, d))) else none
    | none => none
  | none => none
def stk (i : Nat) (x : Option (PyData × Rho)) : Option (Fl × Rho) := match x with
  | some (d, ρ') => if i < ρ'.length then some (.nx, ρ'.set i (some (.shr, d))) else none
  | none => none
@[simp] theorem e_st (i : Nat) (f : Mo Rs) (ρ : Rho) : sSet i f ρ = sto i (f ρ) := by
  unfold sSet sto bindM
  cases f ρ with
  | none => rfl
  | some p =>
    obtain ⟨r, ρ1⟩ := p
    dsimp only
    unfold storeR
    cases r with
    | kept d =>
      dsimp only
      by_cases hc : i < ρ1.length
      · simp only [if_pos hc]; rfl
      · simp only [if_neg hc]
    | fresh d =>
      dsimp only
      by_cases hc : i < ρ1.length
      · simp only [if_pos hc]; rfl
      · simp only [if_neg hc]
    | slot j =>
      dsimp only
      cases keepR (.slot j) ρ1 with
      | none => rfl
      | some q =>
        dsimp only
        by_cases hc : i < q.2.length
        · simp only [if_pos hc]; rfl
        · simp only [if_neg hc]
@[simp] theorem e_stk (i : Nat) (d : PyData) (ρ : Rho) : sto i (some (.kept d, ρ)) = if i < ρ.length then some (.nx, ρ.set i (some (.shr, d))) else none := (rfl)
@[simp] theorem e_stf (i : Nat) (d : PyData) (ρ : Rho) : sto i (some (.fresh d, ρ)) = if i < ρ.length then some (.nx, ρ.set i (some (.own, d))) else none := (rfl)
@[simp] theorem e_sts (i j : Nat) (ρ : Rho) : sto i (some (.slot j, ρ)) = stk i (keepR (.slot j) ρ) := (rfl)
@[simp] theorem e_stks (i : Nat) (d : PyData) (ρ : Rho) : stk i (some (d, ρ)) = if i < ρ.length then some (.nx, ρ.set i (some (.shr, d))) else none := (rfl)
/-! stores in a list or dict -/
def mua (x : Option (Option (Stt × PyData))) (j : Nat) (op : PyData → Option PyData) (ρ : Rho) : Option (Fl × Rho) := match x with
  | some (some (st, d)) => if st.mut = true then match op d with
      | some d' => some (.nx, ρ.set j (some (st, d')))
      | none => none
    else none
  | _ => none
def mub (j : Nat) (st : Stt) (x : Option PyData) (ρ : Rho) : Option (Fl × Rho) := match x with
  | some d' => some (.nx, ρ.set j (some (st, d')))
  | none => none
theorem e_mu (j : Nat) (op : PyData → Option PyData) (ρ : Rho) : bindM (mutM j op) (fun _ => retM Fl.nx) ρ = mua (gi ρ j) j op ρ := by
  unfold bindM mutM mua gi
  cases ρ[j]? with
  | none => rfl
  | some x =>
    cases x with
    | none => rfl
    | some p =>
      obtain ⟨st, d⟩ := p
      dsimp only
      by_cases hc : st.mut = true
      · simp only [if_pos hc]
        cases op d <;> rfl
      · simp only [if_neg hc]
@[simp] theorem e_muo (j : Nat) (op : PyData → Option PyData) (d : PyData) (ρ : Rho) : mua (some (some (.own, d))) j op ρ = mub j .own (op d) ρ := (rfl)
@[simp] theorem e_mul (j : Nat) (op : PyData → Option PyData) (d : PyData) (ρ : Rho) : mua (some (some (.lent, d))) j op ρ = mub j .lent (op d) ρ := (rfl)
@[simp] theorem e_mub (j : Nat) (st : Stt) (d : PyData) (ρ : Rho) : mub j st (some d) ρ = some (.nx, ρ.set j (some (st, d))) := (rfl)
def spa (j : Nat) (fi : Mo Rs) (x : Option (Rs × Rho)) : Option (Fl × Rho) := match x with
  | some (rv, ρ) => match keepR rv ρ with
    | some (v, ρ1) => (bindM (xV j) fun _ => bindM fi fun ri => bindM (rdR ri) fun i => bindM (mutM j fun d => setD d i v) fun _ => retM .nx) ρ1
    | none => none
  | none => none
def spb (j : Nat) (fi : Mo Rs) (x : Option (PyData × Rho)) : Option (Fl × Rho) := match x with
  | some (v, ρ1) => (bindM (xV j) fun _ => bindM fi fun ri => bindM (rdR ri) fun i => bindM (mutM j fun d => setD d i v) fun _ => retM .nx) ρ1
  | none => none
def spc (j : Nat) (v : PyData) (fi : Mo Rs) (x : Option (Rs × Rho)) : Option (Fl × Rho) := match x with
  | some (_, ρ) => (bindM fi fun ri => bindM (rdR ri) fun i => bindM (mutM j fun d => setD d i v) fun _ => retM .nx) ρ
  | none => none
def spd (j : Nat) (v : PyData) (x : Option (Rs × Rho)) : Option (Fl × Rho) := match x with
  | some (ri, ρ) => (bindM (rdR ri) fun i => bindM (mutM j fun d => setD d i v) fun _ => retM .nx) ρ
  | none => none
def spe (j : Nat) (v : PyData) (x : Option PyData) (ρ : Rho) : Option (Fl × Rho) := match x with
  | some i => mua (gi ρ j) j (fun d => setD d i v) ρ
  | none => none
@[simp] theorem e_sp (j : Nat) (fi fv : Mo Rs) (ρ : Rho) : sPut j fi fv ρ = spa j fi (fv ρ) := by
  unfold sPut spa
  show bindM fv _ ρ = _
  unfold bindM
  cases fv ρ with
  | none => rfl
  | some p => dsimp only; cases keepR p.1 p.2 <;> rfl
@[simp] theorem e_spa (j : Nat) (fi : Mo Rs) (rv : Rs) (ρ : Rho) : spa j fi (some (rv, ρ)) = spb j fi (keepR rv ρ) := (rfl)
@[simp] theorem e_spb (j : Nat) (fi : Mo Rs) (v : PyData) (ρ : Rho) : spb j fi (some (v, ρ)) = spc j v fi (xV j ρ) := by
  unfold spb spc
  dsimp only
  show bindM (xV j) _ ρ = _
  unfold bindM
  cases xV j ρ <;> rfl
@[simp] theorem e_spc (j : Nat) (v : PyData) (fi : Mo Rs) (r : Rs) (ρ : Rho) : spc j v fi (some (r, ρ)) = spd j v (fi ρ) := by
  unfold spc spd
  dsimp only
  show bindM fi _ ρ = _
  unfold bindM
  cases fi ρ <;> rfl
@[simp] theorem e_spd (j : Nat) (v : PyData) (r : Rs) (ρ : Rho) : spd j v (some (r, ρ)) = spe j v (rdD r ρ) ρ := by
  unfold spd spe
  dsimp only
  show bindM (rdR r) _ ρ = _
  conv => lhs; unfold bindM
  rw [rdR_rd]
  cases rdD r ρ with
  | none => rfl
  | some i => exact e_mu j _ ρ
@[simp] theorem e_spe (j : Nat) (v i : PyData) (ρ : Rho) : spe j v (some i) ρ = mua (gi ρ j) j (fun d => setD d i v) ρ := (rfl)
/-! op= -/
def aua (j : Nat) (g : Int → Int → Int) (f : Mo Rs) (x : Option PyData) (ρ : Rho) : Option (Fl × Rho) := match x with
  | some a => match f ρ with
    | some (r, ρ1) => match rdD r ρ1 with
      | some b => sto j (x2d true (augI g a b) ρ1)
      | none => none
    | none => none
  | none => none
def aub (j : Nat) (g : Int → Int → Int) (a : PyData) (x : Option (Rs × Rho)) : Option (Fl × Rho) := match x with
  | some (r, ρ1) => match rdD r ρ1 with
      | some b => sto j (x2d true (augI g a b) ρ1)
      | none => none
  | none => none
def auc (j : Nat) (g : Int → Int → Int) (a : PyData) (x : Option PyData) (ρ : Rho) : Option (Fl × Rho) := match x with
  | some b => sto j (x2d true (augI g a b) ρ)
  | none => none
theorem augI_sto (j : Nat) (g : Int → Int → Int) (a b : PyData) (ρ : Rho) : (bindM (optM (augI g a b)) fun d => bindM (storeR j (.kept d)) fun _ => retM Fl.nx) ρ = sto j (x2d true (augI g a b) ρ) := by
  cases h : augI g a b with
  | none => unfold bindM optM x2d sto; rfl
  | some d =>
    obtain ⟨i, k, rfl, rfl, rfl⟩ := augI_some h
    show bindM (storeR j (.kept _)) _ ρ = _
    unfold bindM storeR
    dsimp only
    show _ = sto j (some (.kept _, ρ))
    unfold sto
    dsimp only
    by_cases hc : j < ρ.length
    · simp only [if_pos hc]; rfl
    · simp only [if_neg hc]
@[simp] theorem e_au (j : Nat) (g : Int → Int → Int) (f : Mo Rs) (ρ : Rho) : sAug j g f ρ = aua j g f (rda (gi ρ j)) ρ := by
  unfold sAug aua
  show bindM (xV j) _ ρ = _
  conv => lhs; unfold bindM
  rw [e_xV]
  have e0 : rda (gi ρ j) = rdD (.slot j) ρ := (e_rs j ρ).symm
  cases hg : gi ρ j with
  | none => rfl
  | some x =>
    cases x with
    | none => rfl
    | some p =>
      show bindM (rdR (.slot j)) _ ρ = _
      conv => lhs; unfold bindM
      rw [rdR_rd, ← hg, e0]
      cases rdD (.slot j) ρ with
      | none => rfl
      | some a =>
        show bindM f _ ρ = _
        conv => lhs; unfold bindM
        dsimp only
        cases f ρ with
        | none => rfl
        | some q =>
          obtain ⟨r, ρ1⟩ := q
          show bindM (rdR r) _ ρ1 = auc j g a (rdD r ρ1) ρ1
          unfold auc
          conv => lhs; unfold bindM
          rw [rdR_rd]
          cases rdD r ρ1 with
          | none => rfl
          | some b => exact augI_sto j g a b ρ1
@[simp] theorem e_aua (j : Nat) (g : Int → Int → Int) (f : Mo Rs) (a : PyData) (ρ : Rho) : aua j g f (some a) ρ = aub j g a (f ρ) := (rfl)
@[simp] theorem e_aub (j : Nat) (g : Int → Int → Int) (a : PyData) (r : Rs) (ρ : Rho) : aub j g a (some (r, ρ)) = auc j g a (rdD r ρ) ρ := (rfl)
@[simp] theorem e_auc (j : Nat) (g : Int → Int → Int) (a b : PyData) (ρ : Rho) : auc j g a (some b) ρ = sto j (x2d true (augI g a b) ρ) := (rfl)
@[simp] theorem e_augI (g : Int → Int → Int) (i j : Int) : augI g (.int i) (.int j) = some (.int (g i j)) := (rfl)
end PyI

/-! PyI, part O: more equations; calls; loops by invariants. -/
namespace PyI
open PySem PySem.Spec L2

/-! ### ints -/
@[simp] theorem o_lt1 (i j : Int) : opLt (.int i) (.int j) = some (.bool (decide (i < j))) := (rfl)
@[simp] theorem o_le1 (i j : Int) : opLe (.int i) (.int j) = some (.bool (decide (i ≤ j))) := (rfl)
@[simp] theorem o_gt1 (i j : Int) : opGt (.int i) (.int j) = some (.bool (decide (j < i))) := (rfl)
@[simp] theorem o_ge1 (i j : Int) : opGe (.int i) (.int j) = some (.bool (decide (j ≤ i))) := (rfl)
@[simp] theorem o_add1 (i j : Int) : opAdd (.int i) (.int j) = some (.int (i + j)) := (rfl)
@[simp] theorem o_sub1 (i j : Int) : opSub (.int i) (.int j) = some (.int (i - j)) := (rfl)
@[simp] theorem o_neg1 (i : Int) : opNeg (.int i) = some (.int (-i)) := (rfl)
@[simp] theorem o_int1 (i : Int) : oInt [.int i] = some (.int i) := (rfl)
@[simp] theorem o_len1 (l : List PyData) : oLen [.list l] = some (.int l.length) := (rfl)
@[simp] theorem o_len2 (l : List PyData) : oLen [.tuple l] = some (.int l.length) := (rfl)
@[simp] theorem o_len3 (l : List (PyData × PyData)) : oLen [.dict l] = some (.int l.length) := (rfl)
@[simp] theorem o_lst1 (l : List PyData) : oList [.list l] = some (.list l) := (rfl)
@[simp] theorem o_lst2 (l : List PyData) : oList [.tuple l] = some (.list l) := (rfl)
@[simp] theorem o_tup1 (l : List PyData) : oTuple [.list l] = some (.tuple l) := (rfl)
@[simp] theorem o_tup2 (l : List PyData) : oTuple [.tuple l] = some (.tuple l) := (rfl)
theorem o_mod1 {i j : Int} (h : 0 < j) : opMod (.int i) (.int j) = some (.int (i % j)) := if_pos h
theorem o_fdiv1 {i j : Int} (h : 0 < j) (h2 : j < 1073741824) : opFdiv (.int i) (.int j) = some (.int (i / j)) := if_pos ⟨h, h2⟩
theorem o_mul1 {i j : Int} (h : (-(2 ^ 64) < i ∧ i < 2 ^ 64) ∨ (-(2 ^ 64) < j ∧ j < 2 ^ 64)) : opMul (.int i) (.int j) = some (.int (i * j)) := if_pos h
@[simp] theorem o_eqI (i j : Int) : opEq (.int i) (.int j) = some (.bool (i == j)) := by unfold opEq; rw [eqD_int]; rfl
@[simp] theorem o_neI (i j : Int) : opNe (.int i) (.int j) = some (.bool (!(i == j))) := by unfold opNe; rw [eqD_int]; rfl
theorem eqD_str (x y : Str) : eqD (.str x) (.str y) = some (x == y) := by simp [eqD, PyData.plain, PyData.depth, PyData.eqv]
@[simp] theorem o_eqS (x y : Str) : opEq (.str x) (.str y) = some (.bool (x == y)) := by unfold opEq; rw [eqD_str]; rfl
@[simp] theorem o_neS (x y : Str) : opNe (.str x) (.str y) = some (.bool (!(x == y))) := by unfold opNe; rw [eqD_str]; rfl
@[simp] theorem o_isN1 (d : PyData) : opIsN d .none = some (.bool (isNone d)) := (rfl)
@[simp] theorem o_notN1 (d : PyData) : opNotN d .none = some (.bool (!isNone d)) := (rfl)
@[simp] theorem o_isB1 (a b : Bool) : opIsB (.bool a) (.bool b) = some (.bool (decide (a = b))) := (rfl)
@[simp] theorem o_notB1 (a b : Bool) : opNotB (.bool a) (.bool b) = some (.bool (!decide (a = b))) := (rfl)
theorem atI_nat' {α : Type} (l : List α) (i : Nat) : atI l (i : Int) = l[i]? := by
  unfold atI ixN
  rw [if_pos (by omega)]
  by_cases h : i < l.length
  · rw [if_pos (by omega)]; simp
  · rw [if_neg (by omega), List.getElem?_eq_none (by omega)]; rfl
@[simp] theorem o_ixL (l : List PyData) (i : Nat) : opIx (.list l) (.int (i : Int)) = l[i]? := atI_nat' l i
@[simp] theorem o_ixT (l : List PyData) (i : Nat) : opIx (.tuple l) (.int (i : Int)) = l[i]? := atI_nat' l i
@[simp] theorem o_ixL0 (l : List PyData) : opIx (.list l) (.int 0) = l[0]? := atI_nat' l 0
@[simp] theorem o_ixT0 (l : List PyData) : opIx (.tuple l) (.int 0) = l[0]? := atI_nat' l 0
@[simp] theorem o_ixL2 (l : List PyData) : opIx (.list l) (.int 2) = l[2]? := atI_nat' l 2
@[simp] theorem o_ixT2 (l : List PyData) : opIx (.tuple l) (.int 2) = l[2]? := atI_nat' l 2
@[simp] theorem o_ixL3 (l : List PyData) : opIx (.list l) (.int 3) = l[3]? := atI_nat' l 3
@[simp] theorem o_ixT3 (l : List PyData) : opIx (.tuple l) (.int 3) = l[3]? := atI_nat' l 3
@[simp] theorem o_ixL1 (l : List PyData) : opIx (.list l) (.int 1) = l[1]? := atI_nat' l 1
@[simp] theorem o_ixT1 (l : List PyData) : opIx (.tuple l) (.int 1) = l[1]? := atI_nat' l 1
/-! ### x[i] op= -/
def aS2 (j : Nat) (g : Int → Int → Int) (f : Mo Rs) (rj : Rs) (x : Option (Rs × Rho)) : Option (Fl × Rho) := match x with
  | some (ri, ρ) => match rdD rj ρ, rdD ri ρ with
    | some o, some i => match getD o i with
      | some a => match f ρ with
        | some (r, ρ1) => match rdD r ρ1 with
          | some b => match augI g a b with
            | some d => mua (gi ρ1 j) j (fun o' => setD o' i d) ρ1
            | none => none
          | none => none
        | none => none
      | none => none
    | _, _ => none
  | none => none
def aS3 (j : Nat) (g : Int → Int → Int) (f : Mo Rs) (o i : Option PyData) (ρ : Rho) : Option (Fl × Rho) := match o, i with
  | some o, some i => match getD o i with
      | some a => match f ρ with
        | some (r, ρ1) => match rdD r ρ1 with
          | some b => match augI g a b with
            | some d => mua (gi ρ1 j) j (fun o' => setD o' i d) ρ1
            | none => none
          | none => none
        | none => none
      | none => none
  | _, _ => none
def aS4 (j : Nat) (g : Int → Int → Int) (f : Mo Rs) (i : PyData) (a : Option PyData) (ρ : Rho) : Option (Fl × Rho) := match a with
      | some a => match f ρ with
        | some (r, ρ1) => match rdD r ρ1 with
          | some b => match augI g a b with
            | some d => mua (gi ρ1 j) j (fun o' => setD o' i d) ρ1
            | none => none
          | none => none
        | none => none
      | none => none
def aS5 (j : Nat) (g : Int → Int → Int) (i a : PyData) (x : Option (Rs × Rho)) : Option (Fl × Rho) := match x with
        | some (r, ρ1) => match rdD r ρ1 with
          | some b => match augI g a b with
            | some d => mua (gi ρ1 j) j (fun o' => setD o' i d) ρ1
            | none => none
          | none => none
        | none => none
def aS6 (j : Nat) (g : Int → Int → Int) (i a : PyData) (b : Option PyData) (ρ1 : Rho) : Option (Fl × Rho) := match b with
          | some b => match augI g a b with
            | some d => mua (gi ρ1 j) j (fun o' => setD o' i d) ρ1
            | none => none
          | none => none
def aS7 (j : Nat) (i : PyData) (d : Option PyData) (ρ1 : Rho) : Option (Fl × Rho) := match d with
            | some d => mua (gi ρ1 j) j (fun o' => setD o' i d) ρ1
            | none => none
def aS1 (j : Nat) (g : Int → Int → Int) (fi f : Mo Rs) (x : Option (Rs × Rho)) : Option (Fl × Rho) := match x with
  | some (rj, ρ) => aS2 j g f rj (fi ρ)
  | none => none
@[simp] theorem e_aS (j : Nat) (g : Int → Int → Int) (fi f : Mo Rs) (ρ : Rho) : sAugS j g fi f ρ = aS1 j g fi f (xV j ρ) := by
  unfold sAugS aS1
  show bindM (xV j) _ ρ = _
  conv => lhs; unfold bindM
  cases xV j ρ with
  | none => rfl
  | some p =>
    obtain ⟨rj, ρ0⟩ := p
    show bindM fi _ ρ0 = aS2 j g f rj (fi ρ0)
    unfold aS2
    conv => lhs; unfold bindM
    cases fi ρ0 with
    | none => rfl
    | some p =>
      obtain ⟨ri, ρ2⟩ := p
      show bindM (rdR rj) _ ρ2 = aS3 j g f (rdD rj ρ2) (rdD ri ρ2) ρ2
      unfold aS3
      conv => lhs; unfold bindM
      rw [rdR_rd]
      cases rdD rj ρ2 with
      | none => rfl
      | some o =>
        show bindM (rdR ri) _ ρ2 = _
        conv => lhs; unfold bindM
        rw [rdR_rd]
        cases rdD ri ρ2 with
        | none => rfl
        | some i =>
          show bindM (optM (getD o i)) _ ρ2 = aS4 j g f i (getD o i) ρ2
          unfold aS4
          conv => lhs; unfold bindM
          cases getD o i with
          | none => rfl
          | some a =>
            show bindM f _ ρ2 = aS5 j g i a (f ρ2)
            unfold aS5
            conv => lhs; unfold bindM
            cases f ρ2 with
            | none => rfl
            | some p =>
              obtain ⟨r, ρ3⟩ := p
              show bindM (rdR r) _ ρ3 = aS6 j g i a (rdD r ρ3) ρ3
              unfold aS6
              conv => lhs; unfold bindM
              rw [rdR_rd]
              cases rdD r ρ3 with
              | none => rfl
              | some b =>
                show bindM (optM (augI g a b)) _ ρ3 = aS7 j i (augI g a b) ρ3
                unfold aS7
                conv => lhs; unfold bindM
                cases augI g a b with
                | none => rfl
                | some d => exact e_mu j _ ρ3
@[simp] theorem e_aS1 (j : Nat) (g : Int → Int → Int) (fi f : Mo Rs) (rj : Rs) (ρ : Rho) : aS1 j g fi f (some (rj, ρ)) = aS2 j g f rj (fi ρ) := (rfl)
@[simp] theorem e_aS2 (j : Nat) (g : Int → Int → Int) (f : Mo Rs) (rj ri : Rs) (ρ : Rho) : aS2 j g f rj (some (ri, ρ)) = aS3 j g f (rdD rj ρ) (rdD ri ρ) ρ := (rfl)
@[simp] theorem e_aS3 (j : Nat) (g : Int → Int → Int) (f : Mo Rs) (o i : PyData) (ρ : Rho) : aS3 j g f (some o) (some i) ρ = aS4 j g f i (getD o i) ρ := (rfl)
@[simp] theorem e_aS4 (j : Nat) (g : Int → Int → Int) (f : Mo Rs) (i a : PyData) (ρ : Rho) : aS4 j g f i (some a) ρ = aS5 j g i a (f ρ) := (rfl)
@[simp] theorem e_aS5 (j : Nat) (g : Int → Int → Int) (i a : PyData) (r : Rs) (ρ : Rho) : aS5 j g i a (some (r, ρ)) = aS6 j g i a (rdD r ρ) ρ := (rfl)
@[simp] theorem e_aS6 (j : Nat) (g : Int → Int → Int) (i a b : PyData) (ρ : Rho) : aS6 j g i a (some b) ρ = aS7 j i (augI g a b) ρ := (rfl)
@[simp] theorem e_aS7 (j : Nat) (i d : PyData) (ρ : Rho) : aS7 j i (some d) ρ = mua (gi ρ j) j (fun o' => setD o' i d) ρ := (rfl)
/-! ### places of lists -/
theorem getD_nat (l : List PyData) (i : Nat) : getD (.list l) (.int (i : Int)) = l[i]? := atI_nat' l i
@[simp] theorem o_gd0 (l : List PyData) : getD (.list l) (.int 0) = l[0]? := getD_nat l 0
@[simp] theorem o_gd1 (l : List PyData) : getD (.list l) (.int 1) = l[1]? := getD_nat l 1
@[simp] theorem o_gd2 (l : List PyData) : getD (.list l) (.int 2) = l[2]? := getD_nat l 2
@[simp] theorem o_gd3 (l : List PyData) : getD (.list l) (.int 3) = l[3]? := getD_nat l 3
theorem setD_nat {l : List PyData} {i : Nat} (h : i < l.length) (v : PyData) : setD (.list l) (.int (i : Int)) v = some (.list (l.set i v)) := by
  show Option.map _ (ixN l.length (i : Int)) = _
  unfold ixN
  rw [if_pos (by omega), if_pos (by omega)]
  simp
theorem setD_0 {l : List PyData} (v : PyData) (h : 0 < l.length) : setD (.list l) (.int 0) v = some (.list (l.set 0 v)) := setD_nat h v
theorem setD_1 {l : List PyData} (v : PyData) (h : 1 < l.length) : setD (.list l) (.int 1) v = some (.list (l.set 1 v)) := setD_nat h v
theorem setD_2 {l : List PyData} (v : PyData) (h : 2 < l.length) : setD (.list l) (.int 2) v = some (.list (l.set 2 v)) := setD_nat h v
theorem setD_3 {l : List PyData} (v : PyData) (h : 3 < l.length) : setD (.list l) (.int 3) v = some (.list (l.set 3 v)) := setD_nat h v
/-! ### targets -/
def gca (x : Option (Unit × Rho)) (gs : G2) (ds : List PyData) : Option (Unit × Rho) := match x with
  | some (_, ρ) => gs.run ds ρ
  | none => none
@[simp] theorem e_gN (i : Nat) (d : PyData) (ρ : Rho) : (gN i).run d ρ = if i < ρ.length then some ((), ρ.set i (some (.shr, d))) else none := (rfl)
@[simp] theorem e_gT (gs : G2) (ds : List PyData) (ρ : Rho) : (gT gs).run (.tuple ds) ρ = gs.run ds ρ := (rfl)
@[simp] theorem e_gC (g : G1) (gs : G2) (d : PyData) (ds : List PyData) (ρ : Rho) : (gsC g gs).run (d :: ds) ρ = gca (g.run d ρ) gs ds := by
  show bindM (g.run d) _ ρ = _
  unfold bindM gca
  cases g.run d ρ <;> rfl
@[simp] theorem e_gca (ρ : Rho) (gs : G2) (ds : List PyData) : gca (some ((), ρ)) gs ds = gs.run ds ρ := (rfl)
@[simp] theorem e_gs0 (ρ : Rho) : gsN.run [] ρ = some ((), ρ) := (rfl)
def upa (g : G1) (x : Option (Rs × Rho)) : Option (Fl × Rho) := match x with
  | some (r, ρ) => match keepR r ρ with
    | some (d, ρ1) => match g.run d ρ1 with
      | some (_, ρ2) => some (.nx, ρ2)
      | none => none
    | none => none
  | none => none
def upb (g : G1) (x : Option (PyData × Rho)) : Option (Fl × Rho) := match x with
    | some (d, ρ1) => match g.run d ρ1 with
      | some (_, ρ2) => some (.nx, ρ2)
      | none => none
    | none => none
def upc (x : Option (Unit × Rho)) : Option (Fl × Rho) := match x with
      | some (_, ρ2) => some (.nx, ρ2)
      | none => none
@[simp] theorem e_up (f : Mo Rs) (g : G1) (ρ : Rho) : sUnp f g ρ = upa g (f ρ) := by
  unfold sUnp upa
  show bindM f _ ρ = _
  conv => lhs; unfold bindM
  cases f ρ with
  | none => rfl
  | some p =>
    obtain ⟨r, ρ0⟩ := p
    show bindM (keepR r) _ ρ0 = upb g (keepR r ρ0)
    unfold upb
    conv => lhs; unfold bindM
    cases keepR r ρ0 with
    | none => rfl
    | some q =>
      obtain ⟨d, ρ1⟩ := q
      show bindM (g.run d) _ ρ1 = upc (g.run d ρ1)
      unfold upc bindM
      cases g.run d ρ1 <;> rfl
@[simp] theorem e_upa (g : G1) (r : Rs) (ρ : Rho) : upa g (some (r, ρ)) = upb g (keepR r ρ) := (rfl)
@[simp] theorem e_upb (g : G1) (d : PyData) (ρ : Rho) : upb g (some (d, ρ)) = upc (g.run d ρ) := (rfl)
@[simp] theorem e_upc (ρ : Rho) : upc (some ((), ρ)) = some (.nx, ρ) := (rfl)
/-! ### d.get(k, x) -/
def gta (fk fx : Mo Rs) (x : Option (Rs × Rho)) : Option (Rs × Rho) := match x with
  | some (r, ρ) => xGet2 (fun _ => some (r, ρ)) fk fx ρ
  | none => none
def gtb (r : Rs) (o : Option PyData) (fk fx : Mo Rs) (ρ : Rho) : Option (Rs × Rho) := match o with
  | some (.dict _) => (bindM fk fun rk => bindM fx fun rx => bindM (rdR rk) fun k => bindM (rdR r) fun o => bindM (keepR rx) fun x => bindM (optM (getK o k)) fun y => retM (.kept (y.getD x))) ρ
  | _ => none
def gtc (r : Rs) (fx : Mo Rs) (x : Option (Rs × Rho)) : Option (Rs × Rho) := match x with
  | some (rk, ρ) => (bindM fx fun rx => bindM (rdR rk) fun k => bindM (rdR r) fun o => bindM (keepR rx) fun x => bindM (optM (getK o k)) fun y => retM (.kept (y.getD x))) ρ
  | none => none
def gtd (r rk : Rs) (x : Option (Rs × Rho)) : Option (Rs × Rho) := match x with
  | some (rx, ρ) => match rdD rk ρ, rdD r ρ with
    | some k, some o => match keepR rx ρ with
      | some (x, ρ1) => match getK o k with
        | some y => some (.kept (y.getD x), ρ1)
        | none => none
      | none => none
    | _, _ => none
  | none => none
def gte (k o : Option PyData) (rx : Rs) (ρ : Rho) : Option (Rs × Rho) := match k, o with
    | some k, some o => match keepR rx ρ with
      | some (x, ρ1) => match getK o k with
        | some y => some (.kept (y.getD x), ρ1)
        | none => none
      | none => none
    | _, _ => none
def gtf (k o : PyData) (x : Option (PyData × Rho)) : Option (Rs × Rho) := match x with
      | some (x, ρ1) => match getK o k with
        | some y => some (.kept (y.getD x), ρ1)
        | none => none
      | none => none
@[simp] theorem e_gt (f fk fx : Mo Rs) (ρ : Rho) : xGet2 f fk fx ρ = gta fk fx (f ρ) := by
  unfold gta xGet2
  conv => lhs; unfold bindM
  cases f ρ <;> rfl
theorem e_gta0 (fk fx : Mo Rs) (r : Rs) (ρ : Rho) : gta fk fx (some (r, ρ)) = gtb r (rdD r ρ) fk fx ρ := by
  unfold gta xGet2
  dsimp only
  show bindM (rdR r) _ ρ = _
  conv => lhs; unfold bindM
  rw [rdR_rd]
  unfold gtb
  cases rdD r ρ with
  | none => rfl
  | some o => cases o <;> rfl
@[simp] theorem e_gta (fk fx : Mo Rs) (r : Rs) (ρ : Rho) : gta fk fx (some (r, ρ)) = gtb r (rdD r ρ) fk fx ρ := e_gta0 _ _ _ _
@[simp] theorem e_gtb (r : Rs) (kvs : List (PyData × PyData)) (fk fx : Mo Rs) (ρ : Rho) : gtb r (some (.dict kvs)) fk fx ρ = gtc r fx (fk ρ) := by
  unfold gtb gtc
  dsimp only
  conv => lhs; unfold bindM
  cases fk ρ <;> rfl
@[simp] theorem e_gtc (r rk : Rs) (fx : Mo Rs) (ρ : Rho) : gtc r fx (some (rk, ρ)) = gtd r rk (fx ρ) := by
  unfold gtc
  dsimp only
  conv => lhs; unfold bindM
  cases fx ρ with
  | none => rfl
  | some p =>
    obtain ⟨rx, ρ0⟩ := p
    show bindM (rdR rk) _ ρ0 = gte (rdD rk ρ0) (rdD r ρ0) rx ρ0
    unfold gte
    conv => lhs; unfold bindM
    rw [rdR_rd]
    cases rdD rk ρ0 with
    | none => rfl
    | some k =>
      show bindM (rdR r) _ ρ0 = _
      conv => lhs; unfold bindM
      rw [rdR_rd]
      cases rdD r ρ0 with
      | none => rfl
      | some o =>
        show bindM (keepR rx) _ ρ0 = gtf k o (keepR rx ρ0)
        unfold gtf
        conv => lhs; unfold bindM
        cases keepR rx ρ0 with
        | none => rfl
        | some q =>
          obtain ⟨x, ρ1⟩ := q
          show bindM (optM (getK o k)) _ ρ1 = _
          unfold bindM
          cases getK o k <;> rfl
@[simp] theorem e_gtd (r rk rx : Rs) (ρ : Rho) : gtd r rk (some (rx, ρ)) = gte (rdD rk ρ) (rdD r ρ) rx ρ := (rfl)
@[simp] theorem e_gte (k o : PyData) (rx : Rs) (ρ : Rho) : gte (some k) (some o) rx ρ = gtf k o (keepR rx ρ) := (rfl)
def gtg (y : Option (Option PyData)) (x : PyData) (ρ : Rho) : Option (Rs × Rho) := match y with
        | some y => some (.kept (y.getD x), ρ)
        | none => none
@[simp] theorem e_gtf (k o x : PyData) (ρ : Rho) : gtf k o (some (x, ρ)) = gtg (getK o k) x ρ := (rfl)
@[simp] theorem e_gtg (y : Option PyData) (x : PyData) (ρ : Rho) : gtg (some y) x ρ = some (.kept (y.getD x), ρ) := (rfl)
@[simp] theorem e_gK (kvs : List (PyData × PyData)) (x : Str) : getK (.dict kvs) (.str x) = some (lookD (.str x) kvs) := (rfl)
@[simp] theorem o_ixD (kvs : List (PyData × PyData)) (x : Str) : opIx (.dict kvs) (.str x) = lookD (.str x) kvs := (rfl)
@[simp] theorem o_inD (kvs : List (PyData × PyData)) (x : Str) : opInA (.str x) (.dict kvs) = some (.bool (lookD (.str x) kvs).isSome) := (rfl)
@[simp] theorem o_ninD (kvs : List (PyData × PyData)) (x : Str) : opNotInA (.str x) (.dict kvs) = some (.bool (!(lookD (.str x) kvs).isSome)) := (rfl)
/-! ### the methods that change -/
def mta (T : String) (j : Nat) (op : PyData → List PyData → Option (PyData × PyData)) (g : Mo (List Rs)) (x : Option (Option (Stt × PyData))) (ρ : Rho) : Option (Rs × Rho) := match x with
  | some (some (st, d)) => if st.mut = true ∧ tyD d = T then match g ρ with
      | some (rs, ρ1) => match keepL rs ρ1 with
        | some (ds, ρ2) => mutR j (fun d => op d ds) ρ2
        | none => none
      | none => none
    else none
  | _ => none
def mtb (j : Nat) (op : PyData → List PyData → Option (PyData × PyData)) (x : Option (List Rs × Rho)) : Option (Rs × Rho) := match x with
      | some (rs, ρ1) => match keepL rs ρ1 with
        | some (ds, ρ2) => mutR j (fun d => op d ds) ρ2
        | none => none
      | none => none
def mtc (j : Nat) (op : PyData → List PyData → Option (PyData × PyData)) (x : Option (List PyData × Rho)) : Option (Rs × Rho) := match x with
        | some (ds, ρ2) => mutR j (fun d => op d ds) ρ2
        | none => none
def mtd (j : Nat) (op : PyData → List PyData → Option (PyData × PyData)) (ds : List PyData) (x : Option (Option (Stt × PyData))) (ρ : Rho) : Option (Rs × Rho) := match x with
  | some (some (st, d)) => if st.mut = true then match op d ds with
      | some (d', rt) => some (.kept rt, ρ.set j (some (st, d')))
      | none => none
    else none
  | _ => none
def mte (j : Nat) (st : Stt) (x : Option (PyData × PyData)) (ρ : Rho) : Option (Rs × Rho) := match x with
      | some (d', rt) => some (.kept rt, ρ.set j (some (st, d')))
      | none => none
@[simp] theorem e_mt (T : String) (j : Nat) (op : PyData → List PyData → Option (PyData × PyData)) (g : Mo (List Rs)) (ρ : Rho) : xMut T j op g ρ = mta T j op g (gi ρ j) ρ := by
  unfold xMut mta gi
  show bindM (chkT T j) _ ρ = _
  conv => lhs; unfold bindM chkT
  cases ρ[j]? with
  | none => rfl
  | some x =>
    cases x with
    | none => rfl
    | some p =>
      obtain ⟨st, d⟩ := p
      dsimp only
      by_cases hc : st.mut = true ∧ tyD d = T
      · simp only [if_pos hc]
        cases g ρ with
        | none => rfl
        | some q =>
          obtain ⟨rs, ρ1⟩ := q
          dsimp only
          cases keepL rs ρ1 with
          | none => rfl
          | some z => rfl
      · simp only [if_neg hc]
theorem e_mta0 (T : String) (j : Nat) (op : PyData → List PyData → Option (PyData × PyData)) (g : Mo (List Rs)) (st : Stt) (d : PyData) (ρ : Rho) (h1 : st.mut = true) (h2 : tyD d = T) : mta T j op g (some (some (st, d))) ρ = mtb j op (g ρ) := if_pos ⟨h1, h2⟩
@[simp] theorem e_mtal (j : Nat) (op : PyData → List PyData → Option (PyData × PyData)) (g : Mo (List Rs)) (l : List PyData) (ρ : Rho) : mta "list" j op g (some (some (.own, .list l))) ρ = mtb j op (g ρ) := e_mta0 _ _ _ _ _ _ _ rfl rfl
@[simp] theorem e_mtal2 (j : Nat) (op : PyData → List PyData → Option (PyData × PyData)) (g : Mo (List Rs)) (l : List PyData) (ρ : Rho) : mta "list" j op g (some (some (.lent, .list l))) ρ = mtb j op (g ρ) := e_mta0 _ _ _ _ _ _ _ rfl rfl
@[simp] theorem e_mtad (j : Nat) (op : PyData → List PyData → Option (PyData × PyData)) (g : Mo (List Rs)) (l : List (PyData × PyData)) (ρ : Rho) : mta "dict" j op g (some (some (.own, .dict l))) ρ = mtb j op (g ρ) := e_mta0 _ _ _ _ _ _ _ rfl rfl
@[simp] theorem e_mtb (j : Nat) (op : PyData → List PyData → Option (PyData × PyData)) (rs : List Rs) (ρ : Rho) : mtb j op (some (rs, ρ)) = mtc j op (keepL rs ρ) := (rfl)
@[simp] theorem e_mtc (j : Nat) (op : PyData → List PyData → Option (PyData × PyData)) (ds : List PyData) (ρ : Rho) : mtc j op (some (ds, ρ)) = mtd j op ds (gi ρ j) ρ := by
  unfold mtc mtd mutR gi
  dsimp only
  all_goals
    cases ρ[j]? with
    | none => rfl
    | some x =>
      cases x with
      | none => rfl
      | some p => rfl
@[simp] theorem e_mtd (j : Nat) (op : PyData → List PyData → Option (PyData × PyData)) (ds : List PyData) (d : PyData) (ρ : Rho) : mtd j op ds (some (some (.own, d))) ρ = mte j .own (op d ds) ρ := (rfl)
@[simp] theorem e_mtd2 (j : Nat) (op : PyData → List PyData → Option (PyData × PyData)) (ds : List PyData) (d : PyData) (ρ : Rho) : mtd j op ds (some (some (.lent, d))) ρ = mte j .lent (op d ds) ρ := (rfl)
@[simp] theorem e_mte (j : Nat) (st : Stt) (d rt : PyData) (ρ : Rho) : mte j st (some (d, rt)) ρ = some (.kept rt, ρ.set j (some (st, d))) := (rfl)
/-! ### calls of defs -/
def ava : Option (Option (Stt × PyData)) → Option (Stt × PyData)
  | some (some (.shr, d)) => some (.shr, d)
  | some (some (.own, d)) => some (.bor, d)
  | some (some (.lent, d)) => some (.bor, d)
  | some (some (.bor, d)) => some (.bor, d)
  | some (some (.scr, d)) => some (.scr, d)
  | _ => none
def ala : Option (Option (Stt × PyData)) → Option (Stt × PyData)
  | some (some (.own, d)) => some (.lent, d)
  | some (some (.lent, d)) => some (.lent, d)
  | _ => none
@[simp] theorem e_avk (d : PyData) (ρ : Rho) : argV (.kept d) ρ = some (.shr, d) := (rfl)
@[simp] theorem e_avf (d : PyData) (ρ : Rho) : argV (.fresh d) ρ = some (.shr, d) := (rfl)
@[simp] theorem e_avs (i : Nat) (ρ : Rho) : argV (.slot i) ρ = ava (gi ρ i) := by
  unfold argV ava gi
  dsimp only
  all_goals
    cases ρ[i]? with
    | none => rfl
    | some x =>
      cases x with
      | none => rfl
      | some p => obtain ⟨st, d⟩ := p; cases st <;> rfl
@[simp] theorem e_als (i : Nat) (ρ : Rho) : argL (.slot i) ρ = ala (gi ρ i) := by
  unfold argL ala gi
  dsimp only
  all_goals
    cases ρ[i]? with
    | none => rfl
    | some x =>
      cases x with
      | none => rfl
      | some p => obtain ⟨st, d⟩ := p; cases st <;> rfl
@[simp] theorem e_av1 (d : PyData) : ava (some (some (.shr, d))) = some (.shr, d) := (rfl)
@[simp] theorem e_av2 (d : PyData) : ava (some (some (.own, d))) = some (.bor, d) := (rfl)
@[simp] theorem e_av3 (d : PyData) : ava (some (some (.bor, d))) = some (.bor, d) := (rfl)
@[simp] theorem e_av4 (d : PyData) : ava (some (some (.lent, d))) = some (.bor, d) := (rfl)
@[simp] theorem e_al1 (d : PyData) : ala (some (some (.own, d))) = some (.lent, d) := (rfl)
@[simp] theorem e_al2 (d : PyData) : ala (some (some (.lent, d))) = some (.lent, d) := (rfl)
def acn : Option (Stt × PyData) → Option (List (Stt × PyData)) → Option (List (Stt × PyData))
  | some a, some l => some (a :: l)
  | _, _ => none
@[simp] theorem e_avs0 (ρ : Rho) (b : Bool) : argVs ρ b [] = some [] := (rfl)
@[simp] theorem e_avsS (ρ : Rho) (r : Rs) (rs : List Rs) : argVs ρ false (r :: rs) = acn (argV r ρ) (argVs ρ false rs) := (rfl)
@[simp] theorem e_avsL (ρ : Rho) (r : Rs) (rs : List Rs) : argVs ρ true (r :: rs) = acn (argL r ρ) (argVs ρ false rs) := (rfl)
@[simp] theorem e_acn (a : Stt × PyData) (l : List (Stt × PyData)) : acn (some a) (some l) = some (a :: l) := (rfl)
def hda : Option (Option (Stt × PyData)) → Bool
  | some (some (st, _)) => st.hold
  | _ => false
@[simp] theorem e_nc0 (ρ : Rho) : noClash ρ [] = true := (rfl)
@[simp] theorem e_ncS (ρ : Rho) (r : Rs) (rs : List Rs) : noClash ρ (r :: rs) = (rs.all (fun r' => !clash ρ r r') && noClash ρ rs) := (rfl)
@[simp] theorem e_clk (ρ : Rho) (d : PyData) (r : Rs) : clash ρ (.kept d) r = false := (rfl)
@[simp] theorem e_clf (ρ : Rho) (d : PyData) (r : Rs) : clash ρ (.fresh d) r = false := (rfl)
@[simp] theorem e_clsk (ρ : Rho) (d : PyData) (i : Nat) : clash ρ (.slot i) (.kept d) = false := (rfl)
@[simp] theorem e_clsf (ρ : Rho) (d : PyData) (i : Nat) : clash ρ (.slot i) (.fresh d) = false := (rfl)
@[simp] theorem e_cls (ρ : Rho) (i j : Nat) : clash ρ (.slot i) (.slot j) = (i == j && hda (gi ρ i)) := by
  unfold clash hda gi
  dsimp only
  all_goals
    cases ρ[i]? with
    | none => rfl
    | some x => cases x <;> rfl
@[simp] theorem e_hd1 (d : PyData) : hda (some (some (.shr, d))) = false := (rfl)
def cla (fn : Fn) (x : Option (List Rs × Rho)) : Option (Rs × Rho) := match x with
  | some (rs, ρ) => match argVs ρ false rs with
    | some args => if noClash ρ rs = true then match fn args with
        | some (.kept d, _) => some (.kept d, ρ)
        | some (.fresh d, _) => some (.fresh d, ρ)
        | _ => none
      else none
    | none => none
  | none => none
def clb (fn : Fn) (a : Option (List (Stt × PyData))) (nc : Bool) (ρ : Rho) : Option (Rs × Rho) := match a with
    | some args => if nc = true then match fn args with
        | some (.kept d, _) => some (.kept d, ρ)
        | some (.fresh d, _) => some (.fresh d, ρ)
        | _ => none
      else none
    | none => none
def clc (x : Option (Rs × Option PyData)) (ρ : Rho) : Option (Rs × Rho) := match x with
        | some (.kept d, _) => some (.kept d, ρ)
        | some (.fresh d, _) => some (.fresh d, ρ)
        | _ => none
@[simp] theorem e_cl (fn : Fn) (g : Mo (List Rs)) (ρ : Rho) : xCall fn g ρ = cla fn (g ρ) := by
  unfold xCall cla bindM
  cases g ρ with
  | none => rfl
  | some p =>
    obtain ⟨rs, ρ1⟩ := p
    dsimp only
    cases argVs ρ1 false rs with
    | none => rfl
    | some args =>
      dsimp only
      split
      · cases fn args with
        | none => rfl
        | some q => obtain ⟨r, l⟩ := q; cases r <;> rfl
      · rfl
@[simp] theorem e_cla (fn : Fn) (rs : List Rs) (ρ : Rho) : cla fn (some (rs, ρ)) = clb fn (argVs ρ false rs) (noClash ρ rs) ρ := (rfl)
@[simp] theorem e_clb (fn : Fn) (args : List (Stt × PyData)) (ρ : Rho) : clb fn (some args) true ρ = clc (fn args) ρ := (rfl)
@[simp] theorem e_clck (d : PyData) (l : Option PyData) (ρ : Rho) : clc (some (.kept d, l)) ρ = some (.kept d, ρ) := (rfl)
@[simp] theorem e_clcf (d : PyData) (l : Option PyData) (ρ : Rho) : clc (some (.fresh d, l)) ρ = some (.fresh d, ρ) := (rfl)
def dla (fn : Fn) (x : Option (List Rs × Rho)) : Option (Rs × Rho) := match x with
  | some (rs, ρ) => xCallL fn (fun _ => some (rs, ρ)) ρ
  | none => none
def stOf : Option (Option (Stt × PyData)) → Stt
  | some (some (st, _)) => st
  | _ => .shr
def dlb (fn : Fn) (i : Nat) (a : Option (List (Stt × PyData))) (nc : Bool) (ρ : Rho) : Option (Rs × Rho) := match a with
    | some args => if nc = true then match fn args, gi ρ i with
        | some (.kept d, some d'), some (some (st, _)) => some (.kept d, ρ.set i (some (st, d')))
        | some (.fresh d, some d'), some (some (st, _)) => some (.fresh d, ρ.set i (some (st, d')))
        | _, _ => none
      else none
    | none => none
def dlc (i : Nat) (x : Option (Rs × Option PyData)) (y : Option (Option (Stt × PyData))) (ρ : Rho) : Option (Rs × Rho) := match x, y with
        | some (.kept d, some d'), some (some (st, _)) => some (.kept d, ρ.set i (some (st, d')))
        | some (.fresh d, some d'), some (some (st, _)) => some (.fresh d, ρ.set i (some (st, d')))
        | _, _ => none
@[simp] theorem e_dl (fn : Fn) (g : Mo (List Rs)) (ρ : Rho) : xCallL fn g ρ = dla fn (g ρ) := by
  unfold dla xCallL
  conv => lhs; unfold bindM
  cases g ρ <;> rfl
@[simp] theorem e_dla (fn : Fn) (i : Nat) (rs : List Rs) (ρ : Rho) : dla fn (some (.slot i :: rs, ρ)) = dlb fn i (argVs ρ true (.slot i :: rs)) (noClash ρ (.slot i :: rs)) ρ := by
  unfold dla xCallL dlb gi
  dsimp only
  unfold bindM
  dsimp only
  cases argVs ρ true (.slot i :: rs) with
  | none => rfl
  | some args =>
    dsimp only
    split
    · cases fn args with
      | none => rfl
      | some q =>
        obtain ⟨r, l⟩ := q
        cases l with
        | none => cases r <;> rfl
        | some d' =>
          cases r with
          | slot k => rfl
          | kept d =>
            dsimp only
            cases ρ[i]? with
            | none => rfl
            | some x => cases x <;> rfl
          | fresh d =>
            dsimp only
            cases ρ[i]? with
            | none => rfl
            | some x => cases x <;> rfl
    · rfl
@[simp] theorem e_dlb (fn : Fn) (i : Nat) (args : List (Stt × PyData)) (ρ : Rho) : dlb fn i (some args) true ρ = dlc i (fn args) (gi ρ i) ρ := (rfl)
@[simp] theorem e_dlck (i : Nat) (d d' : PyData) (st : Stt) (z : PyData) (ρ : Rho) : dlc i (some (.kept d, some d')) (some (some (st, z))) ρ = some (.kept d, ρ.set i (some (st, d'))) := (rfl)
@[simp] theorem e_dlcf (i : Nat) (d d' : PyData) (st : Stt) (z : PyData) (ρ : Rho) : dlc i (some (.fresh d, some d')) (some (some (st, z))) ρ = some (.fresh d, ρ.set i (some (st, d'))) := (rfl)
/-! ### slices -/
def sla (f : Mo Rs) (x : Option (Rs × Rho)) (lo hi : Mo (Option Int)) : Option (Rs × Rho) := match x with
  | some (r, ρ) => (bindM lo fun l => bindM hi fun h => bindM (rdR r) fun d => bindM (optM (opSl d l h)) fun d' => retM (resN d')) ρ
  | none => none
def slb (r : Rs) (x : Option (Option Int × Rho)) (hi : Mo (Option Int)) : Option (Rs × Rho) := match x with
  | some (l, ρ) => (bindM hi fun h => bindM (rdR r) fun d => bindM (optM (opSl d l h)) fun d' => retM (resN d')) ρ
  | none => none
def slc (r : Rs) (l : Option Int) (x : Option (Option Int × Rho)) : Option (Rs × Rho) := match x with
  | some (h, ρ) => match rdD r ρ with
    | some d => x2d true (opSl d l h) ρ
    | none => none
  | none => none
def sld (l h : Option Int) (d : Option PyData) (ρ : Rho) : Option (Rs × Rho) := match d with
    | some d => x2d true (opSl d l h) ρ
    | none => none
@[simp] theorem e_sl (f : Mo Rs) (lo hi : Mo (Option Int)) (ρ : Rho) : xSl f lo hi ρ = sla f (f ρ) lo hi := by
  unfold xSl sla
  conv => lhs; unfold bindM
  cases f ρ <;> rfl
@[simp] theorem e_sla (f : Mo Rs) (r : Rs) (ρ : Rho) (lo hi : Mo (Option Int)) : sla f (some (r, ρ)) lo hi = slb r (lo ρ) hi := by
  unfold sla slb
  dsimp only
  conv => lhs; unfold bindM
  cases lo ρ <;> rfl
@[simp] theorem e_slb (r : Rs) (l : Option Int) (ρ : Rho) (hi : Mo (Option Int)) : slb r (some (l, ρ)) hi = slc r l (hi ρ) := by
  unfold slb
  dsimp only
  conv => lhs; unfold bindM
  cases hi ρ with
  | none => rfl
  | some p =>
    obtain ⟨h, ρ1⟩ := p
    show bindM (rdR r) _ ρ1 = sld l h (rdD r ρ1) ρ1
    unfold sld
    conv => lhs; unfold bindM
    rw [rdR_rd]
    cases rdD r ρ1 with
    | none => rfl
    | some d =>
      show bindM (optM (opSl d l h)) _ ρ1 = x2d true (opSl d l h) ρ1
      unfold bindM x2d
      cases opSl d l h <;> rfl
@[simp] theorem e_slc (r : Rs) (l h : Option Int) (ρ : Rho) : slc r l (some (h, ρ)) = sld l h (rdD r ρ) ρ := (rfl)
@[simp] theorem e_sld (l h : Option Int) (d : PyData) (ρ : Rho) : sld l h (some d) ρ = x2d true (opSl d l h) ρ := (rfl)
@[simp] theorem e_oN (ρ : Rho) : oN ρ = some (none, ρ) := (rfl)
def oSa (x : Option (Rs × Rho)) : Option (Option Int × Rho) := match x with
  | some (r, ρ) => match rdD r ρ with
    | some (.int i) => some (some i, ρ)
    | _ => none
  | none => none
def oSb (d : Option PyData) (ρ : Rho) : Option (Option Int × Rho) := match d with
    | some (.int i) => some (some i, ρ)
    | _ => none
@[simp] theorem e_oS (f : Mo Rs) (ρ : Rho) : oS f ρ = oSa (f ρ) := by
  unfold oS oSa
  conv => lhs; unfold bindM
  cases f ρ with
  | none => rfl
  | some p =>
    obtain ⟨r, ρ1⟩ := p
    show bindM (rdR r) _ ρ1 = oSb (rdD r ρ1) ρ1
    unfold oSb
    conv => lhs; unfold bindM
    rw [rdR_rd]
    cases rdD r ρ1 with
    | none => rfl
    | some d => cases d <;> rfl
@[simp] theorem e_oSa (r : Rs) (ρ : Rho) : oSa (some (r, ρ)) = oSb (rdD r ρ) ρ := (rfl)
@[simp] theorem e_oSb (i : Int) (ρ : Rho) : oSb (some (.int i)) ρ = some (some i, ρ) := (rfl)
/-! ### loops -/
theorem for_inv {ds : List PyData} {g : G1} {b : Mo Fl} (I : Nat → Rho → Prop) (P : Rs → Prop)
    (step : ∀ i d ρ, ds[i]? = some d → I i ρ → ∃ ρ1 fl ρ2, g.run d ρ = some ((), ρ1) ∧ b ρ1 = some (fl, ρ2) ∧ (((fl = .nx ∨ fl = .ct) ∧ I (i + 1) ρ2) ∨ ∃ r, fl = .ret r ∧ P r)) :
    ∀ ρ, I 0 ρ → (∃ ρ', forM ds g b ρ = some (.nx, ρ') ∧ I ds.length ρ') ∨ ∃ r ρ', forM ds g b ρ = some (.ret r, ρ') ∧ P r := by
  have go : ∀ (n i : Nat) (ρ : Rho), i + n = ds.length → I i ρ → (∃ ρ', forM (ds.drop i) g b ρ = some (.nx, ρ') ∧ I ds.length ρ') ∨ ∃ r ρ', forM (ds.drop i) g b ρ = some (.ret r, ρ') ∧ P r := by
    intro n
    induction n with
    | zero =>
      intro i ρ h hi
      obtain rfl : i = ds.length := by omega
      rw [List.drop_length]
      exact .inl ⟨ρ, rfl, hi⟩
    | succ n ih =>
      intro i ρ h hi
      have hlt : i < ds.length := by omega
      rw [List.drop_eq_getElem_cons hlt]
      obtain ⟨ρ1, fl, ρ2, e1, e2, q⟩ := step i _ ρ (List.getElem?_eq_getElem hlt) hi
      unfold forM
      rw [e1]
      dsimp only
      rw [e2]
      rcases q with ⟨rfl | rfl, q⟩ | ⟨r, rfl, q⟩
      · exact ih (i + 1) ρ2 (by omega) q
      · exact ih (i + 1) ρ2 (by omega) q
      · exact .inr ⟨r, ρ2, rfl, q⟩
  intro ρ hi
  have := go ds.length 0 ρ (by omega) hi
  rwa [List.drop_zero] at this
theorem for_all {ds : List PyData} {g : G1} {b : Mo Fl} (I : Nat → Rho → Prop)
    (step : ∀ i d ρ, ds[i]? = some d → I i ρ → ∃ ρ1 ρ2, g.run d ρ = some ((), ρ1) ∧ b ρ1 = some (.nx, ρ2) ∧ I (i + 1) ρ2) {ρ : Rho} (h : I 0 ρ) : ∃ ρ', forM ds g b ρ = some (.nx, ρ') ∧ I ds.length ρ' := by
  rcases for_inv I (fun _ => False) (fun i d ρ hd hi => by obtain ⟨ρ1, ρ2, e1, e2, q⟩ := step i d ρ hd hi; exact ⟨ρ1, .nx, ρ2, e1, e2, .inl ⟨.inl rfl, q⟩⟩) ρ h with z | ⟨r, ρ', _, z⟩
  · exact z
  · exact z.elim
/-- a comprehension whose parts change nothing -/
theorem lc_map {vs : List Nat} {g : G1} {t : Mo Bool} {fe : Mo Rs} {ρ0 : Rho} {p : PyData → Bool} {f : PyData → PyData} : ∀ (ds acc : List PyData), acc.length + ds.length ≤ LIM →
    (∀ d ∈ ds, ∃ ρ1, g.run d ρ0 = some ((), ρ1) ∧ ∃ ρ2, t ρ1 = some (p d, ρ2) ∧ (p d = false → wipeE ρ2 vs = ρ0) ∧ (p d = true → ∃ r ρ3 ρ4, fe ρ2 = some (r, ρ3) ∧ keepR r ρ3 = some (f d, ρ4) ∧ wipeE ρ4 vs = ρ0)) →
    lcM vs g t fe ds acc ρ0 = some (acc ++ (ds.filter p).map f, ρ0)
  | [], acc, _, _ => by simp [lcM, retM]
  | d :: ds, acc, hl, h => by
    obtain ⟨ρ1, e1, ρ2, e2, h1, h2⟩ := h d List.mem_cons_self
    have hl' : acc.length + ds.length + 1 ≤ LIM := by rw [List.length_cons] at hl; omega
    unfold lcM
    rw [e1]
    dsimp only
    rw [e2]
    cases hp : p d with
    | false =>
      dsimp only
      rw [h1 hp, lc_map ds acc (by omega) fun x hx => h x (List.mem_cons_of_mem _ hx), List.filter_cons_of_neg (by simp [hp])]
    | true =>
      obtain ⟨r, ρ3, ρ4, e3, e4, e5⟩ := h2 hp
      dsimp only
      have eb : bindM fe keepR ρ2 = some (f d, ρ4) := by unfold bindM; rw [e3]; exact e4
      rw [eb]
      dsimp only
      rw [if_pos (by omega), e5, lc_map ds (acc ++ [f d]) (by rw [List.length_append, List.length_singleton]; omega) fun x hx => h x (List.mem_cons_of_mem _ hx), List.filter_cons_of_pos hp]
      simp
theorem lc_eval {vs : List Nat} {fi : Mo (List PyData)} {g : G1} {t : Mo Bool} {fe : Mo Rs} {ρ ρ1 : Rho} {ds : List PyData} (p : PyData → Bool) (f : PyData → PyData) (hi : fi ρ = some (ds, ρ1)) (hl : ds.length ≤ LIM)
    (h : ∀ d ∈ ds, ∃ ρ2, g.run d (wipeE ρ1 vs) = some ((), ρ2) ∧ ∃ ρ3, t ρ2 = some (p d, ρ3) ∧ (p d = false → wipeE ρ3 vs = wipeE ρ1 vs) ∧ (p d = true → ∃ r ρ4 ρ5, fe ρ3 = some (r, ρ4) ∧ keepR r ρ4 = some (f d, ρ5) ∧ wipeE ρ5 vs = wipeE ρ1 vs)) :
    xLc vs fi g t fe ρ = some (.fresh (.list ((ds.filter p).map f)), restE ρ1 (wipeE ρ1 vs) vs) := by
  unfold xLc
  rw [hi]
  dsimp only
  rw [lc_map ds [] (by simpa using hl) h]
  rfl
end PyI

/-! PyI, part P: what is walked. -/
namespace PyI
open PySem PySem.Spec L2
def fora (x : Option (List PyData × Rho)) (g : G1) (b : Mo Fl) : Option (Fl × Rho) := match x with
  | some (ds, ρ) => forM ds g b ρ
  | none => none
@[simp] theorem e_for (f : Mo (List PyData)) (g : G1) (b : Mo Fl) (ρ : Rho) : sFor f g b ρ = fora (f ρ) g b := by
  unfold sFor fora bindM
  cases f ρ <;> rfl
@[simp] theorem e_fora (ds : List PyData) (ρ : Rho) (g : G1) (b : Mo Fl) : fora (some (ds, ρ)) g b = forM ds g b ρ := (rfl)
def ira (x : Option (Rs × Rho)) : Option (List PyData × Rho) := match x with
  | some (r, ρ) => match rdD r ρ with
    | some (.int j) => if smallI j = true then some (rngD 0 j.toNat, ρ) else none
    | _ => none
  | none => none
def irb (x : Option PyData) (ρ : Rho) : Option (List PyData × Rho) := match x with
    | some (.int j) => if smallI j = true then some (rngD 0 j.toNat, ρ) else none
    | _ => none
@[simp] theorem e_ir (f : Mo Rs) (ρ : Rho) : iR1 f ρ = ira (f ρ) := by
  unfold iR1 ira
  show bindM f _ ρ = _
  conv => lhs; unfold bindM
  cases f ρ with
  | none => rfl
  | some p =>
    obtain ⟨r, ρ1⟩ := p
    show bindM (rdR r) _ ρ1 = irb (rdD r ρ1) ρ1
    unfold irb
    conv => lhs; unfold bindM
    rw [rdR_rd]
    cases rdD r ρ1 with
    | none => rfl
    | some d =>
      cases d with
      | int j =>
        show (if smallI j = true then retM (rngD 0 j.toNat) else fun _ => none) ρ1 = _
        by_cases h : smallI j = true
        · rw [if_pos h]; simp only [if_pos h]; rfl
        · rw [if_neg h]; simp only [if_neg h]
      | _ => rfl
@[simp] theorem e_ira (r : Rs) (ρ : Rho) : ira (some (r, ρ)) = irb (rdD r ρ) ρ := (rfl)
theorem e_irb (n : Nat) (ρ : Rho) (h : n < 1000000) : irb (some (.int (n : Int))) ρ = some (rngD 0 n, ρ) := by
  show (if smallI (n : Int) = true then some (rngD 0 ((n : Int).toNat), ρ) else none) = _
  have hs : smallI (n : Int) = true := decide_eq_true (by omega)
  rw [if_pos hs]
  simp
def ita : Option (Option (Stt × PyData)) → Nat → Rho → Option (PyData × Rho)
  | some (some (.bor, d)), _, ρ => some (d, ρ)
  | x, i, ρ => kpa x i ρ
@[simp] theorem e_itk (d : PyData) (ρ : Rho) : iterR (.kept d) ρ = some (d, ρ) := (rfl)
@[simp] theorem e_itf (d : PyData) (ρ : Rho) : iterR (.fresh d) ρ = some (d, ρ) := (rfl)
@[simp] theorem e_its (i : Nat) (ρ : Rho) : iterR (.slot i) ρ = ita (gi ρ i) i ρ := by
  unfold iterR ita
  rw [e_ks]
  unfold gi
  dsimp only
  cases ρ[i]? with
  | none => rfl
  | some x =>
    cases x with
    | none => rfl
    | some p => obtain ⟨st, d⟩ := p; cases st <;> rfl
@[simp] theorem e_it1 (d : PyData) (i : Nat) (ρ : Rho) : ita (some (some (.shr, d))) i ρ = some (d, ρ) := (rfl)
@[simp] theorem e_it2 (d : PyData) (i : Nat) (ρ : Rho) : ita (some (some (.bor, d))) i ρ = some (d, ρ) := (rfl)
@[simp] theorem e_it3 (d : PyData) (i : Nat) (ρ : Rho) : ita (some (some (.own, d))) i ρ = some (d, ρ.set i (some (.shr, d))) := (rfl)
def isa (x : Option (Rs × Rho)) : Option (List PyData × Rho) := match x with
  | some (r, ρ) => match iterR r ρ with
    | some (d, ρ1) => match seqOf d with
      | some ds => some (ds, ρ1)
      | none => none
    | none => none
  | none => none
def isb (x : Option (PyData × Rho)) : Option (List PyData × Rho) := match x with
    | some (d, ρ1) => match seqOf d with
      | some ds => some (ds, ρ1)
      | none => none
    | none => none
@[simp] theorem e_iS (f : Mo Rs) (ρ : Rho) : iS f ρ = isa (f ρ) := by
  unfold iS isa
  show bindM f _ ρ = _
  conv => lhs; unfold bindM
  cases f ρ with
  | none => rfl
  | some p =>
    obtain ⟨r, ρ1⟩ := p
    show bindM (iterR r) _ ρ1 = isb (iterR r ρ1)
    unfold isb
    conv => lhs; unfold bindM
    cases iterR r ρ1 with
    | none => rfl
    | some q =>
      obtain ⟨d, ρ2⟩ := q
      show optM (seqOf d) ρ2 = _
      unfold optM
      cases h : seqOf d <;> simp only [h]
@[simp] theorem e_isa' (r : Rs) (ρ : Rho) : isa (some (r, ρ)) = isb (iterR r ρ) := (rfl)
@[simp] theorem e_isbL (l : List PyData) (ρ : Rho) : isb (some (.list l, ρ)) = some (l, ρ) := (rfl)
@[simp] theorem e_isbT (l : List PyData) (ρ : Rho) : isb (some (.tuple l, ρ)) = some (l, ρ) := (rfl)
/-! a walked dict -/
def ida (m : Wm) (x : Option (Option (Stt × PyData))) (i : Nat) (ρ : Rho) : Option (List PyData × Rho) := match x with
  | some (some (.shr, .dict kvs)) => some (selD m kvs, ρ)
  | some (some (.bor, .dict kvs)) => some (selD m kvs, ρ)
  | some (some (.own, .dict kvs)) => some (selD m kvs, ρ.set i (some (.shr, .dict kvs)))
  | _ => none
@[simp] theorem e_id (m : Wm) (i : Nat) (ρ : Rho) : iDict m i ρ = ida m (gi ρ i) i ρ := by
  unfold iDict ida gi
  cases ρ[i]? with
  | none => rfl
  | some x =>
    cases x with
    | none => rfl
    | some p => obtain ⟨st, d⟩ := p; cases st <;> cases d <;> rfl
@[simp] theorem e_id1 (m : Wm) (kvs : List (PyData × PyData)) (i : Nat) (ρ : Rho) : ida m (some (some (.shr, .dict kvs))) i ρ = some (selD m kvs, ρ) := (rfl)
@[simp] theorem e_id2 (m : Wm) (kvs : List (PyData × PyData)) (i : Nat) (ρ : Rho) : ida m (some (some (.bor, .dict kvs))) i ρ = some (selD m kvs, ρ) := (rfl)
@[simp] theorem e_id3 (m : Wm) (kvs : List (PyData × PyData)) (i : Nat) (ρ : Rho) : ida m (some (some (.own, .dict kvs))) i ρ = some (selD m kvs, ρ.set i (some (.shr, .dict kvs))) := (rfl)
/-! a list's place -/
theorem rngD_at {n i : Nat} {d : PyData} (h : (rngD 0 n)[i]? = some d) : d = .int (i : Int) ∧ i < n := by
  have hl : i < n := by
    have := (List.getElem?_eq_some_iff.mp h).1
    rwa [rngD_len] at this
  rw [rngD_get n 0 i hl] at h
  cases h
  exact ⟨by simp, hl⟩
theorem eqD_bool (a b : Bool) : eqD (.bool a) (.bool b) = some (a == b) := by simp [eqD, PyData.plain, PyData.depth, PyData.eqv]
@[simp] theorem o_eqB (x y : Bool) : opEq (.bool x) (.bool y) = some (.bool (x == y)) := by unfold opEq; rw [eqD_bool]; rfl
theorem runF_def {np n : Nat} {body : Mo Fl} {args : List (Stt × PyData)} (h : argsFit np args = true) : runF np n body args = match body (args.map some ++ List.replicate (n - args.length) none) with
    | some (fl, ρ') => match retOf ρ' fl with
      | some r => match lentOf ρ' args with
        | some l => some (r, l)
        | none => none
      | none => none
    | none => none := by unfold runF; rw [if_pos h] <;> rfl
/-- a status under which a value is handed over to be read -/
def Rdg (s : Stt) : Prop := s = .shr ∨ s = .bor
theorem run_ret {np n : Nat} {body : Mo Fl} {args : List (Stt × PyData)} {ρ' : Rho} {fl : Fl} {d : PyData} (hf : argsFit np args = true) (hl : lentOf ρ' args = some none) (e : body (args.map some ++ List.replicate (n - args.length) none) = some (fl, ρ')) (hr : retOf ρ' fl = some (.kept d)) : runF np n body args = some (.kept d, none) := by
  rw [runF_def hf, e]
  dsimp only
  rw [hr]
  dsimp only
  rw [hl]
theorem run_fresh {np n : Nat} {body : Mo Fl} {args : List (Stt × PyData)} {ρ' : Rho} {fl : Fl} {d : PyData} (hf : argsFit np args = true) (hl : lentOf ρ' args = some none) (e : body (args.map some ++ List.replicate (n - args.length) none) = some (fl, ρ')) (hr : retOf ρ' fl = some (.fresh d)) : runF np n body args = some (.fresh d, none) := by
  rw [runF_def hf, e]
  dsimp only
  rw [hr]
  dsimp only
  rw [hl]
end PyI

/-! PyI, part Q: {k: v for target in iter if ..}. -/
namespace PyI
open PySem PySem.Spec L2
theorem KvR.up {K : PySem.W.Frag} {S S' : Addr → Prop} {H H' : Hp} {ts : List (Key × V)} {kvs : List (PyData × PyData)} (u : Uph S H S' H') (h : KvR K S H ts kvs) : KvR K S' H' ts kvs := ⟨h.1, RpL.up u h.2⟩
def kvM (fk fv : Mo Rs) : Mo (PyData × PyData) := bindM fk fun rk => bindM fv fun rv => bindM (rdR rk) fun k => bindM (keepR rv) fun v => retM (k, v)
def dcM (vs : List Nat) (g : G1) (t : Mo Bool) (fk fv : Mo Rs) : List PyData → List (PyData × PyData) → Mo (List (PyData × PyData))
  | [], acc => retM acc
  | d :: ds, acc => fun ρ => match g.run d ρ with
    | none => none
    | some (_, ρ1) => match t ρ1 with
      | none => none
      | some (false, ρ2) => dcM vs g t fk fv ds acc (wipeE ρ2 vs)
      | some (true, ρ2) => match kvM fk fv ρ2 with
        | none => none
        | some ((k, y), ρ3) => match keyOf? k with
          | none => none
          | some _ => if acc.length < LIM then dcM vs g t fk fv ds (putD acc k y) (wipeE ρ3 vs) else none
def xDc (vs : List Nat) (fi : Mo (List PyData)) (g : G1) (t : Mo Bool) (fk fv : Mo Rs) : Mo Rs := fun ρ => match fi ρ with
  | none => none
  | some (ds, ρ1) => match dcM vs g t fk fv ds [] (wipeE ρ1 vs) with
    | none => none
    | some (acc, ρ2) => some (.fresh (.dict acc), restE ρ1 ρ2 vs)
/-- an iterator that walks ds goes on doing so behind growth that leaves T alone -/
theorem dc_ok {K : PySem.W.Frag} {vs : List Nat} {fi : Mo (List PyData)} {g : G1} {t : Mo Bool} {fk fv : Mo Rs} {σ : L2.St} {H : Hp} {Q : VK} (hv : g.vs = vs) (h : tD K (xDc vs fi g t fk fv) σ H Q) : tDc (tI K fi) (tG K g) (tT K t) (tD K fk) (tD K fv) vs σ H Q := by
  obtain ⟨S, ρ, r, ρ', G, e, q⟩ := h
  unfold xDc at e
  cases ei : fi ρ with
  | none => rw [ei] at e; cases e
  | some p =>
    obtain ⟨ds, ρ1⟩ := p
    rw [ei] at e
    dsimp only at e
    cases el : dcM vs g t fk fv ds [] (wipeE ρ1 vs) with
    | none => rw [el] at e; cases e
    | some p =>
      obtain ⟨accE, ρ2⟩ := p
      rw [el] at e
      cases e
      refine ⟨S, ρ, ds, ρ1, G, ei, fun J S1 H1 T F1 G1 hT W D hD => ?_⟩
      have E0 : Gw S1 H1 S1 (upd H1 D (.dK [])) := Gw.lay G1.al hD
      have nSD : ¬ S1 D := fun z => G1.al D z hD
      have Gw0 : Gd K S1 (wipeE ρ1 vs) (wipe σ vs) (upd H1 D (.dK [])) := (G1.wiped (vs := vs)).ext E0
      -- the state of a turn
      refine ⟨fun i m H2 => ∃ S2 ρc acc, Gd K S2 ρc (wipe σ vs) H2 ∧ (∀ (j : Nat) (x : Option (Stt × PyData)), j ∈ vs → ρc[j]? = some x → x = none) ∧ Fm S1 (wipeE ρ1 vs) (wipe σ vs) H1 S2 ρc H2 ∧ ¬ S2 D ∧ (∃ ws, H2 D = some (.dK ws) ∧ KvR K S2 H2 ws acc) ∧ i ≤ ds.length ∧ m = ds.length - i ∧
        dcM vs g t fk fv (ds.drop i) acc ρc = some (accE, ρ2), ⟨ds.length, S1, wipeE ρ1 vs, [], Gw0, fun j x hj hx => wipeE_on hj hx, E0.fr, nSD, ⟨[], upd_same, KvR.nil⟩, Nat.zero_le _, rfl, el⟩, ?_⟩
      rintro i m H2 ⟨S2, ρc, acc, G2, hc, F2, nD2, ⟨ws, hws, rws⟩, hi, rfl, e3⟩
      have u : Uph S1 H1 S2 H2 := ⟨F2.sh, fun a o hs ha => F2.keep a o ha fun z => (G1.wiped (vs := vs)).notMu hs z⟩
      have tt : ∀ a o, T a → H1 a = some o → H2 a = some o := fun a o ha h => F2.keep a o h fun z => (hT a ha).2 z.wiped
      obtain ⟨w1, w2⟩ := W S2 H2 i u tt G2.al
      have nMD : ¬ Mu ρc (wipe σ vs) D := fun z => Mu.there (G1.wiped (vs := vs)) (F2.mu z) hD
      by_cases hlt : i < ds.length
      · obtain ⟨go, yl⟩ := w1 hlt
        refine .inr ⟨go, fun H' => ∃ S' ρ2' acc', Gd K S' ρ2' (wipe σ vs) H' ∧ (∀ (j : Nat) (x : Option (Stt × PyData)), j ∈ vs → ρ2'[j]? = some x → x = none) ∧ Fm S1 (wipeE ρ1 vs) (wipe σ vs) H1 S' ρ2' H' ∧ ¬ S' D ∧ (∃ ws, H' D = some (.dK ws) ∧ KvR K S' H' ws acc') ∧
          dcM vs g t fk fv (ds.drop (i + 1)) acc' ρ2' = some (accE, ρ2), fun H' ⟨S', ρ2', acc', a1, a2, a3, a4, a5, a6⟩ => ⟨ds.length - (i + 1), by omega, S', ρ2', acc', a1, a2, a3, a4, a5, hlt, rfl, a6⟩, fun x H3 y => ?_⟩
        obtain ⟨S3, d, E3, hd, rp⟩ := yl x H3 y
        have hdrop : ds.drop i = d :: ds.drop (i + 1) := by
          rw [List.drop_eq_getElem_cons hlt]
          rw [List.getElem?_eq_getElem hlt] at hd
          cases hd
          rfl
        rw [hdrop] at e3
        unfold dcM at e3
        cases eg : g.run d ρc with
        | none => rw [eg] at e3; cases e3
        | some p =>
          obtain ⟨_, ρ3⟩ := p
          rw [eg] at e3
          dsimp only at e3
          have G3 := G2.ext E3
          have nD3 : ¬ S3 D := fun z => (E3.new D z).elim nD2 (by rw [hws]; simp)
          have hws3 : H3 D = some (.dK ws) := E3.keep D _ hws
          have rws3 := KvR.up E3.up rws
          refine ⟨S3, ρc, d, ρ3, G3, rp, eg, fun σ4 G4 F4 O4 => ?_⟩
          rw [hv] at O4
          have hwp : wipe σ4 vs = wipe σ vs := by
            have O4' : Sto vs (wipeE ρc vs) (wipe (wipe σ vs) vs) ρ3 σ4 := by
              have e1 : wipeE ρc vs = ρc := by
                apply List.ext_getElem?
                intro j
                by_cases hj : j ∈ vs
                · cases h1 : ρc[j]? with
                  | none => rw [List.getElem?_eq_none_iff] at h1 ⊢; rw [wipeE_len]; exact h1
                  | some x =>
                    have hx := hc j x hj h1
                    have hlt := (List.getElem?_eq_some_iff.mp h1).1
                    have hlt2 : j < (wipeE ρc vs).length := by rw [wipeE_len]; exact hlt
                    rw [List.getElem?_eq_getElem hlt2, wipeE_on hj (List.getElem?_eq_getElem hlt2), hx]
                · exact wipeE_off hj
              have e2 : wipe (wipe σ vs) vs = wipe σ vs := by
                have := wipe_sto (ρ := ρc) (σ := σ) (vs := vs) (ρ2 := wipeE ρc vs) (σ2 := wipe σ vs) Sto.refl
                exact this
              rw [e1, e2]; exact O4
            have := wipe_sto O4'
            have e2 : wipe (wipe σ vs) vs = wipe σ vs := wipe_sto (ρ := ρc) (σ := σ) (vs := vs) (ρ2 := wipeE ρc vs) (σ2 := wipe σ vs) Sto.refl
            rw [this, e2]
          refine ⟨hwp, ?_⟩
          have hl3 : ρ3.length = ρc.length := F4.len
          cases et : t ρ3 with
          | none => rw [et] at e3; cases e3
          | some p =>
            obtain ⟨b, ρ4⟩ := p
            rw [et] at e3
            refine ⟨S3, ρ3, b, ρ4, G4, et, fun S5 H5 F5 G5 => ?_⟩
            have nMD3 : ¬ Mu ρ3 σ4 D := fun z => (F4.mu z).elim nMD (by rw [hws3]; simp)
            have keepD : ∀ {Sx : Addr → Prop} {ρx : Rho} {Hx : Hp}, Fm S3 ρ3 σ4 H3 Sx ρx Hx → Hx D = some (.dK ws) ∧ ¬ Sx D := fun {Sx ρx Hx} f => ⟨f.keep D _ hws3 nMD3, fun z => (f.new D z).elim nD3 fun z => z.elim nMD3 (by rw [hws3]; simp)⟩
            have done : ∀ {Sx : Addr → Prop} {ρx : Rho} {Hx : Hp}, Fm S3 ρ3 σ4 H3 Sx ρx Hx → Gd K Sx ρx σ4 Hx → Gd K Sx (wipeE ρx vs) (wipe σ vs) Hx ∧ Fm S1 (wipeE ρ1 vs) (wipe σ vs) H1 Sx (wipeE ρx vs) Hx := fun {Sx ρx Hx} f gx => by
              obtain ⟨b1, b2⟩ := turn_back hc O4 (by rw [wipe_length]; exact (by have := G2.len; rw [wipe_length] at this; exact this.symm)) gx f G3 hl3 hwp
              exact ⟨b1, F2.trans (E3.fr.trans b2)⟩
            cases b with
            | false =>
              dsimp only at e3
              obtain ⟨b1, b2⟩ := done F5 G5
              obtain ⟨k1, k2⟩ := keepD F5
              exact iteF ⟨S5, wipeE ρ4 vs, acc, b1, fun j x hj hx => wipeE_on hj hx, b2, k2, ⟨ws, k1, KvR.up (F5.up G4) rws3⟩, e3⟩
            | true =>
              dsimp only at e3
              refine iteT ?_
              cases ee : kvM fk fv ρ4 with
              | none => rw [ee] at e3; cases e3
              | some p =>
                obtain ⟨⟨kd, yd⟩, ρ6⟩ := p
                rw [ee] at e3
                dsimp only at e3
                obtain ⟨rk, ρk, ek, a1⟩ := bindM_some ee
                obtain ⟨rv, ρ5, e6, a2⟩ := bindM_some a1
                obtain ⟨kd', ρ5', ek2, a3⟩ := bindM_some a2
                cases rdR_same ek2
                obtain ⟨yd', ρ6', e7, a4⟩ := bindM_some a3
                cases retM_some a4
                cases hk : keyOf? kd with
                | none => rw [hk] at e3; cases e3
                | some kk =>
                rw [hk] at e3
                dsimp only at e3
                split at e3
                · rename_i hlim
                  refine ⟨S5, ρ4, rk, ρk, G5, ek, fun y S6k H6k F6k G6k R6k => ⟨S6k, ρk, rv, ρ5, G6k, e6, fun v S6 H6 F6 G6 R6 => ?_⟩⟩
                  have n5 : Now K σ4 S3 ρ3 H3 S5 ρ4 H5 := ⟨G4, F5, G5⟩
                  have n6k := n5.step F6k G6k
                  have n6 : Now K σ4 S3 ρ3 H3 S6 ρ5 H6 := n6k.step F6 G6
                  have R6' : RR K H3 S6 H6 ρ5 σ4 v rv := R6.pre n6k
                  have Rk := ((R6k.pre n5).fm n6k F6).rd G6 ek2
                  obtain ⟨S7, n7, p7, sh7⟩ := R6'.w.keep n6 e7
                  obtain ⟨k1, k2⟩ := keepD n7.f
                  obtain ⟨b1, b2⟩ := done n7.f n7.g
                  have rws7 := KvR.up (n7.f.up G4) rws3
                  have al7 := n7.g.al
                  have u7 : Uph S7 H6 S7 (upd H6 D (.dK (putK ws kk v))) := ⟨fun _ h => h, fun b o hb hh => by rw [upd_ne (show b ≠ D from fun z => k2 (z ▸ hb))]; exact hh⟩
                  have nMw : ¬ Mu (wipeE ρ6 vs) (wipe σ vs) D := fun z => Mu.there (G1.wiped (vs := vs)) (b2.mu z) hD
                  refine ⟨ws, kk, Rk.1.key hk, k1, by rw [← rws7.len]; exact lim_lt hlim, S7, wipeE ρ6 vs, putD acc kd yd, ?_, fun j x hj hx => wipeE_on hj hx, ⟨fun b hb => ?_, fun b o hb nm => ?_, b2.sh, b2.new, b2.len, b2.non, b2.sts⟩, k2, ⟨putK ws kk v, upd_same, by have := keyOf_keyD hk; subst this; exact (KvR.up u7 rws7).put (Rp.up u7 p7)⟩, e3⟩
                  · -- the new list has one more item: no slot holds it
                    refine ⟨b1.len, fun j st d' hj => ?_, b1.ne, fun b hb => ?_⟩
                    · obtain ⟨w', z1, z2⟩ := b1.sl j st d' hj
                      refine ⟨w', z1, ?_⟩
                      have other : ∀ b, w' = .ref b → st.hold = true → b ≠ D := fun b eb hh zz => by
                        subst eb
                        obtain ⟨d2, hj2⟩ := b2.held hj hh
                        have := (G1.wiped (vs := vs)).held hj2 hh z1
                        rw [zz] at this
                        exact this hD
                      cases st with
                      | shr => exact Rp.up u7 z2
                      | own => obtain ⟨b, rfl, ns, tx⟩ := z2; exact ⟨b, rfl, ns, TopX.up u7 (fun o hh => by rw [upd_ne (other b rfl rfl)]; exact hh) tx⟩
                      | lent => obtain ⟨b, rfl, ns, tx⟩ := z2; exact ⟨b, rfl, ns, TopX.up u7 (fun o hh => by rw [upd_ne (other b rfl rfl)]; exact hh) tx⟩
                      | bor => obtain ⟨b, rfl, ns, tx⟩ := z2; exact ⟨b, rfl, ns, TopR.up u7 (fun o hh => by rw [upd_ne (other b rfl rfl)]; exact hh) tx⟩
                      | scr =>
                        obtain ⟨b, ns1, rfl, e1, k⟩ := z2
                        refine ⟨b, ns1, rfl, e1, KLst.keep (fun o hh => ?_) k⟩
                        rw [upd_ne (ne_of hh k1 (by intro z; cases z))]
                        exact hh
                    · by_cases z : b = D
                      · exact absurd (z ▸ hb) k2
                      · rw [upd_ne z]; exact b1.al b hb
                  · by_cases z : b = D
                    · rw [z, upd_same]; simp
                    · rw [upd_ne z]; exact b2.dom b hb
                  · rw [upd_ne (ne_of_none hb hD)]
                    exact b2.keep b o hb nm
                · cases e3
      · have hie : ds.drop i = [] := List.drop_eq_nil_of_le (by omega)
        rw [hie] at e3
        cases retM_some e3
        refine .inl ⟨w2 (by omega), ?_⟩
        obtain ⟨c1, c2⟩ := block_back G1 G2 F2
        have n1 : Now K σ S ρ H S1 ρ1 H1 := ⟨G, F1, G1⟩
        exact q (.ref D) S2 H2 (F1.trans c2) c1 ⟨D, rfl, n1.none0 hD, nD2, ws, hws, rws.1, rws.2⟩
section
variable {X : Cx} {kx vx tg iter : Expr} {ifs : List Expr} {scope : Scope} {pos : Pos} {fi : Mo (List PyData)} {g : G1} {t : Mo Bool} {fk fv : Mo Rs}
theorem pd_dc (own : List (Str × Nat)) (hc : X.calm = true) (hN : X.N.Nodup) (hi : ID X tg iter fi) (ok : BlkOk X.N X.env.scope scope own) (hv : g.vs = own.map (·.2))
    (hg : ∀ (s : Shared) (H : Hp) (C : Addr) (cl : List (Str × Addr)) (fp : List Addr), GD (X.blk s H scope (compEnvC scope cl C X.env) fp) tg g) (ht : ∀ (s : Shared) (H : Hp) (C : Addr) (cl : List (Str × Addr)) (fp : List Addr), TsD (X.blk s H scope (compEnvC scope cl C X.env) fp) ifs t)
    (hk : ∀ (s : Shared) (H : Hp) (C : Addr) (cl : List (Str × Addr)) (fp : List Addr), PD (X.blk s H scope (compEnvC scope cl C X.env) fp) kx fk)
    (he : ∀ (s : Shared) (H : Hp) (C : Addr) (cl : List (Str × Addr)) (fp : List Addr), PD (X.blk s H scope (compEnvC scope cl C X.env) fp) vx fv) (hs : ∀ x, foldedSetIterable iter X.env x = pure x := by intro _; rfl) :
    PD X (.DictComp kx vx [⟨tg, iter, ifs, 0⟩] scope pos) (xDc (own.map (·.2)) fi g t fk fv) := PE.to (pe_dc hc hN hi ok hg ht hk he hs) fun σ H Q h => dc_ok hv h
end
end PyI

/-! PyI, part R: [elt for target in iter if .. for target1 in iter1 if ..]. -/
namespace PyI
open PySem PySem.Spec L2
/-- the walk that adds to a list D -/
theorem lc_walk {K : PySem.W.Frag} {vs : List Nat} {g : G1} {t : Mo Bool} {fe : Mo Rs} {σ : L2.St} {ds : List PyData} {S1 : Addr → Prop} {ρ1 ρ2 : Rho} {H1 : Hp} {J : It} {T : Addr → Prop} {D : Addr} {ws0 : List V} {acc0 accE : List PyData} {Qfin : Hp → Prop}
    (hv : g.vs = vs) (G1 : Gd K S1 ρ1 σ H1) (hT : ∀ a, T a → H1 a ≠ none ∧ ¬ Mu ρ1 σ a) (W : Walk K J ds T S1 H1) (hD : H1 D = none) (r0 : RpL K S1 H1 ws0 acc0) (el : lcM vs g t fe ds acc0 (wipeE ρ1 vs) = some (accE, ρ2))
    (fin : ∀ S2 H2 ws, Gd K S2 ρ2 (wipe σ vs) H2 → Fm S1 (wipeE ρ1 vs) (wipe σ vs) H1 S2 ρ2 H2 → ¬ S2 D → H2 D = some (.lst ws) → RpL K S2 H2 ws accE → Qfin H2) :
    ∃ W : Nat → Nat → Hp → Prop, (∃ m, W 0 m (upd H1 D (.lst ws0))) ∧ ∀ i m H, W i m H →
      (J.stop i H ∧ Qfin H) ∨ (J.go i H ∧ ∃ Nx : Hp → Prop, (∀ H', Nx H' → ∃ m', m' < m ∧ W (i + 1) m' H') ∧ ∀ x H', J.yld i H x H' → tG K g x (wipe σ vs) H' fun σ2 H2 => wipe σ2 vs = wipe σ vs ∧ tT K t σ2 H2 fun b H3 =>
        if b = true then tD K fe σ2 H3 fun y H4 => ∃ acc, H4 D = some (.lst acc) ∧ acc.length < sizeLine ∧ Nx (upd H4 D (.lst (acc ++ [y]))) else Nx H3) := by
  have E0 : Gw S1 H1 S1 (upd H1 D (.lst ws0)) := Gw.lay G1.al hD
  have nSD : ¬ S1 D := fun z => G1.al D z hD
  have Gw0 : Gd K S1 (wipeE ρ1 vs) (wipe σ vs) (upd H1 D (.lst ws0)) := (G1.wiped (vs := vs)).ext E0
  -- the state of a turn
  refine ⟨fun i m H2 => ∃ S2 ρc acc, Gd K S2 ρc (wipe σ vs) H2 ∧ (∀ (j : Nat) (x : Option (Stt × PyData)), j ∈ vs → ρc[j]? = some x → x = none) ∧ Fm S1 (wipeE ρ1 vs) (wipe σ vs) H1 S2 ρc H2 ∧ ¬ S2 D ∧ (∃ ws, H2 D = some (.lst ws) ∧ RpL K S2 H2 ws acc) ∧ i ≤ ds.length ∧ m = ds.length - i ∧
    lcM vs g t fe (ds.drop i) acc ρc = some (accE, ρ2), ⟨ds.length, S1, wipeE ρ1 vs, acc0, Gw0, fun j x hj hx => wipeE_on hj hx, E0.fr, nSD, ⟨ws0, upd_same, RpL.up E0.up r0⟩, Nat.zero_le _, rfl, el⟩, ?_⟩
  rintro i m H2 ⟨S2, ρc, acc, G2, hc, F2, nD2, ⟨ws, hws, rws⟩, hi, rfl, e3⟩
  have u : Uph S1 H1 S2 H2 := ⟨F2.sh, fun a o hs ha => F2.keep a o ha fun z => (G1.wiped (vs := vs)).notMu hs z⟩
  have tt : ∀ a o, T a → H1 a = some o → H2 a = some o := fun a o ha h => F2.keep a o h fun z => (hT a ha).2 z.wiped
  obtain ⟨w1, w2⟩ := W S2 H2 i u tt G2.al
  have nMD : ¬ Mu ρc (wipe σ vs) D := fun z => Mu.there (G1.wiped (vs := vs)) (F2.mu z) hD
  by_cases hlt : i < ds.length
  · obtain ⟨go, yl⟩ := w1 hlt
    refine .inr ⟨go, fun H' => ∃ S' ρ2' acc', Gd K S' ρ2' (wipe σ vs) H' ∧ (∀ (j : Nat) (x : Option (Stt × PyData)), j ∈ vs → ρ2'[j]? = some x → x = none) ∧ Fm S1 (wipeE ρ1 vs) (wipe σ vs) H1 S' ρ2' H' ∧ ¬ S' D ∧ (∃ ws, H' D = some (.lst ws) ∧ RpL K S' H' ws acc') ∧
      lcM vs g t fe (ds.drop (i + 1)) acc' ρ2' = some (accE, ρ2), fun H' ⟨S', ρ2', acc', a1, a2, a3, a4, a5, a6⟩ => ⟨ds.length - (i + 1), by omega, S', ρ2', acc', a1, a2, a3, a4, a5, hlt, rfl, a6⟩, fun x H3 y => ?_⟩
    obtain ⟨S3, d, E3, hd, rp⟩ := yl x H3 y
    have hdrop : ds.drop i = d :: ds.drop (i + 1) := by
      rw [List.drop_eq_getElem_cons hlt]
      rw [List.getElem?_eq_getElem hlt] at hd
      cases hd
      rfl
    rw [hdrop] at e3
    unfold lcM at e3
    cases eg : g.run d ρc with
    | none => rw [eg] at e3; cases e3
    | some p =>
      obtain ⟨_, ρ3⟩ := p
      rw [eg] at e3
      dsimp only at e3
      have G3 := G2.ext E3
      have nD3 : ¬ S3 D := fun z => (E3.new D z).elim nD2 (by rw [hws]; simp)
      have hws3 : H3 D = some (.lst ws) := E3.keep D _ hws
      have rws3 := RpL.up E3.up rws
      refine ⟨S3, ρc, d, ρ3, G3, rp, eg, fun σ4 G4 F4 O4 => ?_⟩
      rw [hv] at O4
      have hwp : wipe σ4 vs = wipe σ vs := by
        have O4' : Sto vs (wipeE ρc vs) (wipe (wipe σ vs) vs) ρ3 σ4 := by
          have e1 : wipeE ρc vs = ρc := by
            apply List.ext_getElem?
            intro j
            by_cases hj : j ∈ vs
            · cases h1 : ρc[j]? with
              | none => rw [List.getElem?_eq_none_iff] at h1 ⊢; rw [wipeE_len]; exact h1
              | some x =>
                have hx := hc j x hj h1
                have hlt := (List.getElem?_eq_some_iff.mp h1).1
                have hlt2 : j < (wipeE ρc vs).length := by rw [wipeE_len]; exact hlt
                rw [List.getElem?_eq_getElem hlt2, wipeE_on hj (List.getElem?_eq_getElem hlt2), hx]
            · exact wipeE_off hj
          have e2 : wipe (wipe σ vs) vs = wipe σ vs := by
            have := wipe_sto (ρ := ρc) (σ := σ) (vs := vs) (ρ2 := wipeE ρc vs) (σ2 := wipe σ vs) Sto.refl
            exact this
          rw [e1, e2]; exact O4
        have := wipe_sto O4'
        have e2 : wipe (wipe σ vs) vs = wipe σ vs := wipe_sto (ρ := ρc) (σ := σ) (vs := vs) (ρ2 := wipeE ρc vs) (σ2 := wipe σ vs) Sto.refl
        rw [this, e2]
      refine ⟨hwp, ?_⟩
      have hl3 : ρ3.length = ρc.length := F4.len
      cases et : t ρ3 with
      | none => rw [et] at e3; cases e3
      | some p =>
        obtain ⟨b, ρ4⟩ := p
        rw [et] at e3
        refine ⟨S3, ρ3, b, ρ4, G4, et, fun S5 H5 F5 G5 => ?_⟩
        have nMD3 : ¬ Mu ρ3 σ4 D := fun z => (F4.mu z).elim nMD (by rw [hws3]; simp)
        have keepD : ∀ {Sx : Addr → Prop} {ρx : Rho} {Hx : Hp}, Fm S3 ρ3 σ4 H3 Sx ρx Hx → Hx D = some (.lst ws) ∧ ¬ Sx D := fun {Sx ρx Hx} f => ⟨f.keep D _ hws3 nMD3, fun z => (f.new D z).elim nD3 fun z => z.elim nMD3 (by rw [hws3]; simp)⟩
        have done : ∀ {Sx : Addr → Prop} {ρx : Rho} {Hx : Hp}, Fm S3 ρ3 σ4 H3 Sx ρx Hx → Gd K Sx ρx σ4 Hx → Gd K Sx (wipeE ρx vs) (wipe σ vs) Hx ∧ Fm S1 (wipeE ρ1 vs) (wipe σ vs) H1 Sx (wipeE ρx vs) Hx := fun {Sx ρx Hx} f gx => by
          obtain ⟨b1, b2⟩ := turn_back hc O4 (by rw [wipe_length]; exact (by have := G2.len; rw [wipe_length] at this; exact this.symm)) gx f G3 hl3 hwp
          exact ⟨b1, F2.trans (E3.fr.trans b2)⟩
        cases b with
        | false =>
          dsimp only at e3
          obtain ⟨b1, b2⟩ := done F5 G5
          obtain ⟨k1, k2⟩ := keepD F5
          exact iteF ⟨S5, wipeE ρ4 vs, acc, b1, fun j x hj hx => wipeE_on hj hx, b2, k2, ⟨ws, k1, RpL.up (F5.up G4) rws3⟩, e3⟩
        | true =>
          dsimp only at e3
          refine iteT ?_
          cases ee : bindM fe keepR ρ4 with
          | none => rw [ee] at e3; cases e3
          | some p =>
            obtain ⟨yd, ρ6⟩ := p
            rw [ee] at e3
            dsimp only at e3
            obtain ⟨r6, ρ5, e6, e7⟩ := bindM_some ee
            split at e3
            · rename_i hlim
              refine ⟨S5, ρ4, r6, ρ5, G5, e6, fun v S6 H6 F6 G6 R6 => ?_⟩
              have n6 : Now K σ4 S3 ρ3 H3 S6 ρ5 H6 := (⟨G4, F5, G5⟩ : Now K σ4 S3 ρ3 H3 S5 ρ4 H5).step F6 G6
              have R6' : RR K H3 S6 H6 ρ5 σ4 v r6 := R6.pre ⟨G4, F5, G5⟩
              obtain ⟨S7, n7, p7, sh7⟩ := R6'.w.keep n6 e7
              obtain ⟨k1, k2⟩ := keepD n7.f
              obtain ⟨b1, b2⟩ := done n7.f n7.g
              have rws7 := RpL.up (n7.f.up G4) rws3
              have al7 := n7.g.al
              have u7 : Uph S7 H6 S7 (upd H6 D (.lst (ws ++ [v]))) := ⟨fun _ h => h, fun b o hb hh => by rw [upd_ne (show b ≠ D from fun z => k2 (z ▸ hb))]; exact hh⟩
              have nMw : ¬ Mu (wipeE ρ6 vs) (wipe σ vs) D := fun z => Mu.there (G1.wiped (vs := vs)) (b2.mu z) hD
              refine ⟨ws, k1, by rw [rws7.len]; exact lim_lt hlim, S7, wipeE ρ6 vs, acc ++ [yd], ?_, fun j x hj hx => wipeE_on hj hx, ⟨fun b hb => ?_, fun b o hb nm => ?_, b2.sh, b2.new, b2.len, b2.non, b2.sts⟩, k2, ⟨ws ++ [v], upd_same, (RpL.up u7 rws7).app (.cons (Rp.up u7 p7) .nil)⟩, e3⟩
              · -- the new list has one more item: no slot holds it
                refine ⟨b1.len, fun j st d' hj => ?_, b1.ne, fun b hb => ?_⟩
                · obtain ⟨w', z1, z2⟩ := b1.sl j st d' hj
                  refine ⟨w', z1, ?_⟩
                  have other : ∀ b, w' = .ref b → st.hold = true → b ≠ D := fun b eb hh zz => by
                    subst eb
                    obtain ⟨d2, hj2⟩ := b2.held hj hh
                    have := (G1.wiped (vs := vs)).held hj2 hh z1
                    rw [zz] at this
                    exact this hD
                  cases st with
                  | shr => exact Rp.up u7 z2
                  | own => obtain ⟨b, rfl, ns, tx⟩ := z2; exact ⟨b, rfl, ns, TopX.up u7 (fun o hh => by rw [upd_ne (other b rfl rfl)]; exact hh) tx⟩
                  | lent => obtain ⟨b, rfl, ns, tx⟩ := z2; exact ⟨b, rfl, ns, TopX.up u7 (fun o hh => by rw [upd_ne (other b rfl rfl)]; exact hh) tx⟩
                  | bor => obtain ⟨b, rfl, ns, tx⟩ := z2; exact ⟨b, rfl, ns, TopR.up u7 (fun o hh => by rw [upd_ne (other b rfl rfl)]; exact hh) tx⟩
                  | scr =>
                    obtain ⟨b, ns1, rfl, e1, k⟩ := z2
                    refine ⟨b, ns1, rfl, e1, KLst.keep (fun o hh => ?_) k⟩
                    rw [upd_ne (ne_of hh k1 (by intro z; cases z))]
                    exact hh
                · by_cases z : b = D
                  · exact absurd (z ▸ hb) k2
                  · rw [upd_ne z]; exact b1.al b hb
              · by_cases z : b = D
                · rw [z, upd_same]; simp
                · rw [upd_ne z]; exact b2.dom b hb
              · rw [upd_ne (ne_of_none hb hD)]
                exact b2.keep b o hb nm
            · cases e3
  · have hie : ds.drop i = [] := List.drop_eq_nil_of_le (by omega)
    rw [hie] at e3
    cases retM_some e3
    exact .inl ⟨w2 (by omega), fin S2 H2 ws G2 F2 nD2 hws rws⟩
/-! ### a heap without one object -/
def del (H : Hp) (D : Addr) : Hp := fun a => if a = D then none else H a
theorem del_same {H : Hp} {D : Addr} : del H D D = none := if_pos rfl
theorem del_ne {H : Hp} {D a : Addr} (h : a ≠ D) : del H D a = H a := if_neg h
theorem del_some {H : Hp} {D a : Addr} {o} (h : del H D a = some o) : a ≠ D ∧ H a = some o := by
  by_cases z : a = D
  · subst z; rw [del_same] at h; cases h
  · rw [del_ne z] at h; exact ⟨z, h⟩
section
variable {K : PySem.W.Frag} {S S' : Addr → Prop} {ρ ρ' : Rho} {σ : L2.St} {H H' : Hp} {D : Addr}
theorem Fm.del (f : Fm S ρ σ H S' ρ' H') (h : ¬ S' D) : Fm S ρ σ (del H D) S' ρ' (PyI.del H' D) :=
  ⟨fun a ha => by
    cases e : PyI.del H D a with
    | none => exact absurd e ha
    | some o =>
      obtain ⟨z, e2⟩ := del_some e
      rw [del_ne z]
      exact f.dom a (by rw [e2]; simp),
   fun a o e nm => by
    obtain ⟨z, e2⟩ := del_some e
    rw [del_ne z]; exact f.keep a o e2 nm,
   f.sh, fun a ha => by
    have z : a ≠ D := fun z => h (z ▸ ha)
    rw [del_ne z]; exact f.new a ha, f.len, f.non, f.sts⟩
theorem Fm.toDel (f : Fm S ρ σ H S' ρ' H') (h : H D = none) : Fm S ρ σ H S' ρ' (PyI.del H' D) :=
  ⟨fun a ha => by
    have z : a ≠ D := fun z => ha (z ▸ h)
    rw [del_ne z]; exact f.dom a ha,
   fun a o e nm => by
    have z : a ≠ D := fun z => by rw [z, h] at e; cases e
    rw [del_ne z]; exact f.keep a o e nm,
   f.sh, f.new, f.len, f.non, f.sts⟩
theorem up_del (h : ¬ S D) : Uph S H S (del H D) := ⟨fun _ h => h, fun b o hb e => by rw [del_ne (fun z : b = D => h (z ▸ hb))]; exact e⟩
theorem Gd.del {ws : List V} (g : Gd K S ρ σ H) (h : ¬ S D) (hd : H D = some (.lst ws)) (no : ∀ (i : Nat) (st : Stt) (d : PyData), ρ[i]? = some (some (st, d)) → st.hold = true → σ[i]? ≠ some (some (V.ref D))) : Gd K S ρ σ (del H D) := by
  have u := up_del (H := H) h
  refine ⟨g.len, fun i st d hi => ?_, g.ne, fun b hb => ?_⟩
  · obtain ⟨w, z1, z2⟩ := g.sl i st d hi
    refine ⟨w, z1, ?_⟩
    have other : ∀ b, w = .ref b → st.hold = true → b ≠ D := fun b eb hh zz => no i st d hi hh (by rw [z1, eb, zz])
    cases st with
    | shr => exact Rp.up u z2
    | own => obtain ⟨b, rfl, ns, tx⟩ := z2; exact ⟨b, rfl, ns, TopX.up u (fun o hh => by rw [del_ne (other b rfl rfl)]; exact hh) tx⟩
    | lent => obtain ⟨b, rfl, ns, tx⟩ := z2; exact ⟨b, rfl, ns, TopX.up u (fun o hh => by rw [del_ne (other b rfl rfl)]; exact hh) tx⟩
    | bor => obtain ⟨b, rfl, ns, tx⟩ := z2; exact ⟨b, rfl, ns, TopR.up u (fun o hh => by rw [del_ne (other b rfl rfl)]; exact hh) tx⟩
    | scr =>
      obtain ⟨b, ns1, rfl, e1, k⟩ := z2
      refine ⟨b, ns1, rfl, e1, KLst.keep (fun o hh => ?_) k⟩
      rw [del_ne (ne_of hh hd (by intro z; cases z))]
      exact hh
  · rw [del_ne (fun z : b = D => h (z ▸ hb))]; exact g.al b hb
theorem Walk.del {J : It} {ds : List PyData} (w : Walk K J ds (fun _ => False) S H) (h : ¬ S D) : Walk K J ds (fun _ => False) S (PyI.del H D) := fun S2 H2 i u _ al =>
  w S2 H2 i ⟨u.sh, fun b o hb e => u.at' b o hb (by rw [del_ne (fun z : b = D => h (z ▸ hb))]; exact e)⟩ (fun _ _ z => z.elim) al
theorem upd_del {ws : List V} (h : H D = some (.lst ws)) : upd (del H D) D (.lst ws) = H := by
  funext a
  by_cases z : a = D
  · subst z; rw [upd_same, h]
  · rw [upd_ne z, del_ne z]
end
/-! ### what is walked, handed on -/
def tI0 (K : PySem.W.Frag) (f : Mo (List PyData)) : TI := fun σ H R => ∃ S ρ ds ρ', Gd K S ρ σ H ∧ f ρ = some (ds, ρ') ∧ ∀ J S' H', Fm S ρ σ H S' ρ' H' → Gd K S' ρ' σ H' → Walk K J ds (fun _ => False) S' H' → R J H'
abbrev ID0 (X : Cx) (tg iter : Expr) (f : Mo (List PyData)) : Prop := PI X tg iter (tI0 X.K f)
def iK (f : Mo Rs) : Mo (List PyData) := bindM f fun r => bindM (keepR r) fun d => optM (seqOf d)
theorem id0_seq {X : Cx} {tg l : Expr} {f : Mo Rs} (hl : PD X l f) : ID0 X tg l (iK f) := PI.to (pi_seq hl) fun σ H R h => by
  obtain ⟨S, ρ, ds, ρ', G, e, q⟩ := h
  obtain ⟨r, ρ1, e1, e2⟩ := bindM_some e
  obtain ⟨d, ρ2, e3, e4⟩ := bindM_some e2
  obtain ⟨e5, e6⟩ := optM_some e4
  simp only at e5 e6
  subst e6
  refine ⟨S, ρ, r, ρ1, G, e1, fun v S1 H1 F1 G1 R1 => ?_⟩
  obtain ⟨S2, n2, p, _⟩ := R1.w.keep ⟨G, F1, G1⟩ e3
  cases d with
  | list xs =>
    cases e5
    cases p with
    | lst hs h1 h2 => exact ⟨_, rfl, .inl ⟨_, SqL.of h1, q _ S2 H1 n2.f n2.g (walk_list h1 h2 (.inl hs))⟩⟩
  | tuple xs =>
    cases e5
    cases p with
    | tup h1 h2 _ => exact ⟨_, rfl, .inr ⟨_, h1.sqT, q _ S2 H1 n2.f n2.g (walk_tup h1 h2)⟩⟩
  | _ => cases e5
end PyI

/-! PyI, part S: [elt for target in iter if .. for target1 in iter1 if ..]. -/
namespace PyI
open PySem PySem.Spec L2
def lc2M (vs vs1 : List Nat) (g : G1) (t : Mo Bool) (fi1 : Mo (List PyData)) (g1 : G1) (t1 : Mo Bool) (fe : Mo Rs) : List PyData → List PyData → Mo (List PyData)
  | [], acc => retM acc
  | d :: ds, acc => fun ρ => match g.run d ρ with
    | none => none
    | some (_, ρ1) => match t ρ1 with
      | none => none
      | some (false, ρ2) => lc2M vs vs1 g t fi1 g1 t1 fe ds acc (wipeE ρ2 vs)
      | some (true, ρ2) => match fi1 ρ2 with
        | none => none
        | some (ds1, ρ3) => match lcM vs1 g1 t1 fe ds1 acc (wipeE ρ3 vs1) with
          | none => none
          | some (acc1, ρ4) => lc2M vs vs1 g t fi1 g1 t1 fe ds acc1 (wipeE (restE ρ3 ρ4 vs1) vs)
def xLc2 (vs vs1 : List Nat) (fi : Mo (List PyData)) (g : G1) (t : Mo Bool) (fi1 : Mo (List PyData)) (g1 : G1) (t1 : Mo Bool) (fe : Mo Rs) : Mo Rs := fun ρ => match fi ρ with
  | none => none
  | some (ds, ρ1) => match lc2M vs vs1 g t fi1 g1 t1 fe ds [] (wipeE ρ1 vs) with
    | none => none
    | some (acc, ρ2) => some (.fresh (.list acc), restE ρ1 ρ2 vs)
theorem Sto.more {vs vs' : List Nat} {ρ ρ2 : Rho} {σ σ2 : L2.St} (o : Sto vs ρ σ ρ2 σ2) (h : ∀ i ∈ vs, i ∈ vs') : Sto vs' ρ σ ρ2 σ2 :=
  ⟨o.len, fun i hi => o.off i fun z => hi (h i z), fun i st d hi e => by
    by_cases z : i ∈ vs
    · exact o.on i st d z e
    · rw [(o.off i z).1] at e; exact .inr e⟩
theorem lc2_walk {K : PySem.W.Frag} {vs vs1 : List Nat} {g : G1} {t : Mo Bool} {fi1 : Mo (List PyData)} {g1 : G1} {t1 : Mo Bool} {fe : Mo Rs} {σ : L2.St} {ds : List PyData} {S1 : Addr → Prop} {ρ1 ρ2 : Rho} {H1 : Hp} {J : It} {T : Addr → Prop} {D : Addr} {accE : List PyData} {Qfin : Hp → Prop}
    (hv : ∀ i ∈ g.vs, i ∈ vs) (hv1 : g1.vs = vs1) (G1 : Gd K S1 ρ1 σ H1) (hT : ∀ a, T a → H1 a ≠ none ∧ ¬ Mu ρ1 σ a) (W : Walk K J ds T S1 H1) (hD : H1 D = none) (el : lc2M vs vs1 g t fi1 g1 t1 fe ds [] (wipeE ρ1 vs) = some (accE, ρ2))
    (fin : ∀ S2 H2 ws, Gd K S2 ρ2 (wipe σ vs) H2 → Fm S1 (wipeE ρ1 vs) (wipe σ vs) H1 S2 ρ2 H2 → ¬ S2 D → H2 D = some (.lst ws) → RpL K S2 H2 ws accE → Qfin H2) :
    ∃ W : Nat → Nat → Hp → Prop, (∃ m, W 0 m (upd H1 D (.lst []))) ∧ ∀ i m H, W i m H →
      (J.stop i H ∧ Qfin H) ∨ (J.go i H ∧ ∃ Nx : Hp → Prop, (∀ H', Nx H' → ∃ m', m' < m ∧ W (i + 1) m' H') ∧ ∀ x H', J.yld i H x H' → tG K g x (wipe σ vs) H' fun σ2 H2 => wipe σ2 vs = wipe σ vs ∧ tT K t σ2 H2 fun b H3 =>
        if b = true then tI0 K fi1 σ2 H3 fun J1 H4 => ∃ W1 : Nat → Nat → Hp → Prop, (∃ m, W1 0 m H4) ∧ ∀ j k H, W1 j k H →
          (J1.stop j H ∧ Nx H) ∨ (J1.go j H ∧ ∃ Nx1 : Hp → Prop, (∀ H', Nx1 H' → ∃ k', k' < k ∧ W1 (j + 1) k' H') ∧ ∀ x H', J1.yld j H x H' → tG K g1 x (wipe σ2 vs1) H' fun σ3 H5 => wipe σ3 vs1 = wipe σ2 vs1 ∧ tT K t1 σ3 H5 fun b H6 =>
            if b = true then tD K fe σ3 H6 fun y H7 => ∃ acc, H7 D = some (.lst acc) ∧ acc.length < sizeLine ∧ Nx1 (upd H7 D (.lst (acc ++ [y]))) else Nx1 H6)
        else Nx H3) := by
  have E0 : Gw S1 H1 S1 (upd H1 D (.lst [])) := Gw.lay G1.al hD
  have nSD : ¬ S1 D := fun z => G1.al D z hD
  have Gw0 : Gd K S1 (wipeE ρ1 vs) (wipe σ vs) (upd H1 D (.lst [])) := (G1.wiped (vs := vs)).ext E0
  refine ⟨fun i m H2 => ∃ S2 ρc acc, Gd K S2 ρc (wipe σ vs) H2 ∧ (∀ (j : Nat) (x : Option (Stt × PyData)), j ∈ vs → ρc[j]? = some x → x = none) ∧ Fm S1 (wipeE ρ1 vs) (wipe σ vs) H1 S2 ρc H2 ∧ ¬ S2 D ∧ (∃ ws, H2 D = some (.lst ws) ∧ RpL K S2 H2 ws acc) ∧ i ≤ ds.length ∧ m = ds.length - i ∧
    lc2M vs vs1 g t fi1 g1 t1 fe (ds.drop i) acc ρc = some (accE, ρ2), ⟨ds.length, S1, wipeE ρ1 vs, [], Gw0, fun j x hj hx => wipeE_on hj hx, E0.fr, nSD, ⟨[], upd_same, .nil⟩, Nat.zero_le _, rfl, el⟩, ?_⟩
  rintro i m H2 ⟨S2, ρc, acc, G2, hc, F2, nD2, ⟨ws, hws, rws⟩, hi, rfl, e3⟩
  have u : Uph S1 H1 S2 H2 := ⟨F2.sh, fun a o hs ha => F2.keep a o ha fun z => (G1.wiped (vs := vs)).notMu hs z⟩
  have tt : ∀ a o, T a → H1 a = some o → H2 a = some o := fun a o ha h => F2.keep a o h fun z => (hT a ha).2 z.wiped
  obtain ⟨w1, w2⟩ := W S2 H2 i u tt G2.al
  have nMD : ¬ Mu ρc (wipe σ vs) D := fun z => Mu.there (G1.wiped (vs := vs)) (F2.mu z) hD
  by_cases hlt : i < ds.length
  · obtain ⟨go, yl⟩ := w1 hlt
    refine .inr ⟨go, fun H' => ∃ S' ρ2' acc', Gd K S' ρ2' (wipe σ vs) H' ∧ (∀ (j : Nat) (x : Option (Stt × PyData)), j ∈ vs → ρ2'[j]? = some x → x = none) ∧ Fm S1 (wipeE ρ1 vs) (wipe σ vs) H1 S' ρ2' H' ∧ ¬ S' D ∧ (∃ ws, H' D = some (.lst ws) ∧ RpL K S' H' ws acc') ∧
      lc2M vs vs1 g t fi1 g1 t1 fe (ds.drop (i + 1)) acc' ρ2' = some (accE, ρ2), fun H' ⟨S', ρ2', acc', a1, a2, a3, a4, a5, a6⟩ => ⟨ds.length - (i + 1), by omega, S', ρ2', acc', a1, a2, a3, a4, a5, hlt, rfl, a6⟩, fun x H3 y => ?_⟩
    obtain ⟨S3, d, E3, hd, rp⟩ := yl x H3 y
    have hdrop : ds.drop i = d :: ds.drop (i + 1) := by
      rw [List.drop_eq_getElem_cons hlt]
      rw [List.getElem?_eq_getElem hlt] at hd
      cases hd
      rfl
    rw [hdrop] at e3
    unfold lc2M at e3
    cases eg : g.run d ρc with
    | none => rw [eg] at e3; cases e3
    | some p =>
      obtain ⟨_, ρ3⟩ := p
      rw [eg] at e3
      dsimp only at e3
      have G3 := G2.ext E3
      have nD3 : ¬ S3 D := fun z => (E3.new D z).elim nD2 (by rw [hws]; simp)
      have hws3 : H3 D = some (.lst ws) := E3.keep D _ hws
      have rws3 := RpL.up E3.up rws
      refine ⟨S3, ρc, d, ρ3, G3, rp, eg, fun σ4 G4 F4 O4 => ?_⟩
      replace O4 := O4.more hv
      have hwp : wipe σ4 vs = wipe σ vs := by
        have O4' : Sto vs (wipeE ρc vs) (wipe (wipe σ vs) vs) ρ3 σ4 := by
          have e1 : wipeE ρc vs = ρc := by
            apply List.ext_getElem?
            intro j
            by_cases hj : j ∈ vs
            · cases h1 : ρc[j]? with
              | none => rw [List.getElem?_eq_none_iff] at h1 ⊢; rw [wipeE_len]; exact h1
              | some x =>
                have hx := hc j x hj h1
                have hlt := (List.getElem?_eq_some_iff.mp h1).1
                have hlt2 : j < (wipeE ρc vs).length := by rw [wipeE_len]; exact hlt
                rw [List.getElem?_eq_getElem hlt2, wipeE_on hj (List.getElem?_eq_getElem hlt2), hx]
            · exact wipeE_off hj
          have e2 : wipe (wipe σ vs) vs = wipe σ vs := by
            have := wipe_sto (ρ := ρc) (σ := σ) (vs := vs) (ρ2 := wipeE ρc vs) (σ2 := wipe σ vs) Sto.refl
            exact this
          rw [e1, e2]; exact O4
        have := wipe_sto O4'
        have e2 : wipe (wipe σ vs) vs = wipe σ vs := wipe_sto (ρ := ρc) (σ := σ) (vs := vs) (ρ2 := wipeE ρc vs) (σ2 := wipe σ vs) Sto.refl
        rw [this, e2]
      refine ⟨hwp, ?_⟩
      have hl3 : ρ3.length = ρc.length := F4.len
      have hlw : (wipe σ vs).length = ρc.length := by have := G2.len; exact this.symm
      cases et : t ρ3 with
      | none => rw [et] at e3; cases e3
      | some p =>
        obtain ⟨b, ρ4⟩ := p
        rw [et] at e3
        refine ⟨S3, ρ3, b, ρ4, G4, et, fun S5 H5 F5 G5 => ?_⟩
        have nMD3 : ¬ Mu ρ3 σ4 D := fun z => (F4.mu z).elim nMD (by rw [hws3]; simp)
        have keepD : ∀ {Sx : Addr → Prop} {ρx : Rho} {Hx : Hp}, Fm S3 ρ3 σ4 H3 Sx ρx Hx → Hx D = some (.lst ws) ∧ ¬ Sx D := fun {Sx ρx Hx} f => ⟨f.keep D _ hws3 nMD3, fun z => (f.new D z).elim nD3 fun z => z.elim nMD3 (by rw [hws3]; simp)⟩
        have F23 : Fm S1 (wipeE ρ1 vs) (wipe σ vs) H1 S3 ρc H3 := F2.trans E3.fr
        -- no held slot of the block's start is the new list
        have noC : ∀ (i : Nat) (st : Stt) (d : PyData), ρc[i]? = some (some (st, d)) → st.hold = true → (wipe σ vs)[i]? ≠ some (some (V.ref D)) := fun i st d hj hh z1 => by
          obtain ⟨d2, hj2⟩ := F2.held hj hh
          exact (G1.wiped (vs := vs)).held hj2 hh z1 hD
        have no4 : ∀ (i : Nat) (st : Stt) (d : PyData), ρ3[i]? = some (some (st, d)) → st.hold = true → σ4[i]? ≠ some (some (V.ref D)) := fun i st d hj hh z1 => by
          by_cases hiv : i ∈ vs
          · rcases O4.on i st d hiv hj with z | z
            · subst z; cases hh
            · have := hc i _ hiv z; cases this
          · rw [(O4.off i hiv).1] at hj
            rw [(O4.off i hiv).2] at z1
            exact noC i st d hj hh z1
        cases b with
        | false =>
          dsimp only at e3
          obtain ⟨b1, b2⟩ := turn_back hc O4 hlw G5 F5 G3 hl3 hwp
          obtain ⟨k1, k2⟩ := keepD F5
          exact iteF ⟨S5, wipeE ρ4 vs, acc, b1, fun j x hj hx => wipeE_on hj hx, F23.trans b2, k2, ⟨ws, k1, RpL.up (F5.up G4) rws3⟩, e3⟩
        | true =>
          dsimp only at e3
          refine iteT ?_
          cases ei : fi1 ρ4 with
          | none => rw [ei] at e3; cases e3
          | some p =>
            obtain ⟨ds1, ρ5⟩ := p
            rw [ei] at e3
            dsimp only at e3
            cases el1 : lcM vs1 g1 t1 fe ds1 acc (wipeE ρ5 vs1) with
            | none => rw [el1] at e3; cases e3
            | some p =>
              obtain ⟨acc1, ρE⟩ := p
              rw [el1] at e3
              dsimp only at e3
              refine ⟨S5, ρ4, ds1, ρ5, G5, ei, fun J1 S6 H6 F6 G6 W6 => ?_⟩
              have F56 : Fm S3 ρ3 σ4 H3 S6 ρ5 H6 := F5.trans F6
              obtain ⟨k1, k2⟩ := keepD F56
              have no6 : ∀ (i : Nat) (st : Stt) (d : PyData), ρ5[i]? = some (some (st, d)) → st.hold = true → σ4[i]? ≠ some (some (V.ref D)) := fun i st d hj hh z1 => by
                obtain ⟨d2, hj2⟩ := F56.held hj hh
                exact no4 i st d2 hj2 hh z1
              have G6d := G6.del k2 k1 no6
              have r6 := RpL.up (F56.up G4) rws3
              have := lc_walk (K := K) (vs := vs1) (g := g1) (t := t1) (fe := fe) (σ := σ4) (ds := ds1) (S1 := S6) (ρ1 := ρ5) (ρ2 := ρE) (H1 := del H6 D) (J := J1) (T := fun _ => False) (D := D) (ws0 := ws) (acc0 := acc) (accE := acc1)
                (Qfin := fun H' => ∃ S' ρ2' acc', Gd K S' ρ2' (wipe σ vs) H' ∧ (∀ (j : Nat) (x : Option (Stt × PyData)), j ∈ vs → ρ2'[j]? = some x → x = none) ∧ Fm S1 (wipeE ρ1 vs) (wipe σ vs) H1 S' ρ2' H' ∧ ¬ S' D ∧ (∃ ws, H' D = some (.lst ws) ∧ RpL K S' H' ws acc') ∧
      lc2M vs vs1 g t fi1 g1 t1 fe (ds.drop (i + 1)) acc' ρ2' = some (accE, ρ2))
                hv1 G6d (fun _ z => z.elim) (W6.del k2) del_same (RpL.up (up_del k2) r6) el1 ?_
              · rw [upd_del k1] at this
                exact this
              · intro S7 H7 ws7 G7 F7 nD7 hws7 rws7
                obtain ⟨c1, c2⟩ := block_back G6d G7 F7
                have f1 : Fm S3 ρ3 σ4 (del H3 D) S7 (restE ρ5 ρE vs1) H7 := (F56.del k2).trans c2
                obtain ⟨b1, b2⟩ := turn_back hc O4 hlw c1 f1 (G3.del nD3 hws3 noC) hl3 hwp
                exact ⟨S7, wipeE (restE ρ5 ρE vs1) vs, acc1, b1, fun j x hj hx => wipeE_on hj hx, (F23.toDel hD).trans b2, nD7, ⟨ws7, hws7, rws7⟩, e3⟩
  · have hie : ds.drop i = [] := List.drop_eq_nil_of_le (by omega)
    rw [hie] at e3
    cases retM_some e3
    exact .inl ⟨w2 (by omega), fin S2 H2 ws G2 F2 nD2 hws rws⟩
theorem lc2_ok {K : PySem.W.Frag} {vs vs1 : List Nat} {fi : Mo (List PyData)} {g : G1} {t : Mo Bool} {fi1 : Mo (List PyData)} {g1 : G1} {t1 : Mo Bool} {fe : Mo Rs} {σ : L2.St} {H : Hp} {Q : VK} (hv : ∀ i ∈ g.vs, i ∈ vs) (hv1 : g1.vs = vs1) (h : tD K (xLc2 vs vs1 fi g t fi1 g1 t1 fe) σ H Q) :
    tLc2 (tI K fi) (tG K g) (tT K t) (tI0 K fi1) (tG K g1) (tT K t1) (tD K fe) vs vs1 σ H Q := by
  obtain ⟨S, ρ, r, ρ', G, e, q⟩ := h
  unfold xLc2 at e
  cases ei : fi ρ with
  | none => rw [ei] at e; cases e
  | some p =>
    obtain ⟨ds, ρ1⟩ := p
    rw [ei] at e
    dsimp only at e
    cases el : lc2M vs vs1 g t fi1 g1 t1 fe ds [] (wipeE ρ1 vs) with
    | none => rw [el] at e; cases e
    | some p =>
      obtain ⟨accE, ρ2⟩ := p
      rw [el] at e
      cases e
      refine ⟨S, ρ, ds, ρ1, G, ei, fun J S1 H1 T F1 G1 hT W D hD => ?_⟩
      exact lc2_walk hv hv1 G1 hT W hD el fun S2 H2 ws G2 F2 nD2 hws rws => by
        obtain ⟨c1, c2⟩ := block_back G1 G2 F2
        have n1 : Now K σ S ρ H S1 ρ1 H1 := ⟨G, F1, G1⟩
        exact q (.ref D) S2 H2 (F1.trans c2) c1 ⟨D, rfl, n1.none0 hD, nD2, ws, hws, rws⟩
section
variable {X : Cx} {elt tg iter tg1 iter1 : Expr} {ifs ifs1 : List Expr} {scope : Scope} {pos : Pos} {fi fi1 : Mo (List PyData)} {g g1 : G1} {t t1 : Mo Bool} {fe : Mo Rs} {vs1 : List Nat}
theorem pd_lc2 (own : List (Str × Nat)) (hc : X.calm = true) (hN : X.N.Nodup) (hi : ID X tg iter fi) (ok : BlkOk X.N X.env.scope scope own) (hv : ∀ i ∈ g.vs, i ∈ own.map (·.2)) (hv1 : g1.vs = vs1) (hs1 : ∀ i ∈ vs1, i ∈ own.map (·.2))
    (hg : ∀ (s : Shared) (H : Hp) (C : Addr) (cl : List (Str × Addr)) (fp : List Addr), GD (X.blk s H scope (compEnvC scope cl C X.env) fp) tg g) (ht : ∀ (s : Shared) (H : Hp) (C : Addr) (cl : List (Str × Addr)) (fp : List Addr), TsD (X.blk s H scope (compEnvC scope cl C X.env) fp) ifs t)
    (hi1 : ∀ (s : Shared) (H : Hp) (C : Addr) (cl : List (Str × Addr)) (fp : List Addr), ID0 (X.blk s H scope (compEnvC scope cl C X.env) fp) tg1 iter1 fi1)
    (hg1 : ∀ (s : Shared) (H : Hp) (C : Addr) (cl : List (Str × Addr)) (fp : List Addr), GD (X.blk s H scope (compEnvC scope cl C X.env) fp) tg1 g1) (ht1 : ∀ (s : Shared) (H : Hp) (C : Addr) (cl : List (Str × Addr)) (fp : List Addr), TsD (X.blk s H scope (compEnvC scope cl C X.env) fp) ifs1 t1)
    (he : ∀ (s : Shared) (H : Hp) (C : Addr) (cl : List (Str × Addr)) (fp : List Addr), PD (X.blk s H scope (compEnvC scope cl C X.env) fp) elt fe) (hs : ∀ x, foldedSetIterable iter X.env x = pure x := by intro _; rfl) (hs1' : ∀ env x, foldedSetIterable iter1 env x = pure x := by intro _ _; rfl) :
    PD X (.ListComp elt [⟨tg, iter, ifs, 0⟩, ⟨tg1, iter1, ifs1, 0⟩] scope pos) (xLc2 (own.map (·.2)) vs1 fi g t fi1 g1 t1 fe) := PE.to (pe_lc2 hc hN hi ok hs1 hg ht hi1 hg1 ht1 he hs hs1') fun σ H Q h => lc2_ok hv hv1 h
end
end PyI

/-! PyI, part T: {k: v, ..}, {**d, k: v, ..}. -/
namespace PyI
open PySem PySem.Spec L2
section
variable {prog : Program} {w : World} {A : Around} {E : Value → Shared → Prop} {s : Shared}
theorem put_ok {d : Addr} {kvs : List (Key × Value)} {k : Key} {key v : Value} {Q : Unit → Shared → Prop} (hkey : (mixKind prog w).is k key = true) (hm : s.heap.DictOf (mixKind prog w) d kvs)
    (hQ : ∀ h', h'.DictOf (mixKind prog w) d (stored kvs k v) → Heap.SameBut d s.heap h' → Q () { s with heap := h' })
    (hsz : kvs.length ≤ sizeLine) : wpAny (model prog w) A (dictPut d ((mixKind prog w).hash k) key v) Q E s := by
  obtain ⟨o, es, ep, ho, hc, hd, hk, hp, hn⟩ := hm
  have hes : es.size ≤ sizeLine := by have e1 := hp.length; have e2 : es.toList.length = es.size := by simp
                                      omega
  unfold dictPut
  refine wpAny_bind (wpAny_dictFind_of hkey ho hd hk ?_)
  have hidx : (es.findIdx? fun e => (mixKind prog w).is k e.key) = kvs.findIdx? fun kv => decide (kv.1 = k) := by
    rw [← hp.findIdx k]; obtain ⟨l⟩ := es; simp
  cases hi : es.findIdx? fun e => (mixKind prog w).is k e.key with
  | some i =>
    refine wpAny_updateDict ho hd (hQ _ ⟨_, _, ep, Heap.get?_update_self _ ho (Obj.isFreed_of_dict (Obj.data_mapDict hd _)),
      hc.mapDict _, Obj.data_mapDict hd _, hk.modify _ _, ?_, ?_⟩ (Heap.SameBut.update ..))
    · rw [stored, if_pos (any_of_findIdx_some (hidx ▸ hi))]
      have hl : (es.toList.findIdx? fun e => (mixKind prog w).is k e.key) = some i := by rw [← hi]; obtain ⟨l⟩ := es; simp
      have := hp.modify hn hl v
      obtain ⟨l⟩ := es
      simpa using this
    · rw [stored, if_pos (any_of_findIdx_some (hidx ▸ hi)), keys_map_store]; exact hn
  | none =>
    have hnot : k ∉ kvs.map (·.1) := not_mem_of_findIdx_none (hidx ▸ hi)
    have hany : ¬ (kvs.any fun kv => decide (kv.1 = k)) = true := by
      rw [List.any_eq_true]; rintro ⟨kv, hkv, he⟩
      exact hnot (List.mem_map.mpr ⟨kv, hkv, of_decide_eq_true he⟩)
    refine wpAny_updateDictKeys (hz := hes) ho hd (hQ _ ⟨_, _, ep + 1, Heap.get?_update_self _ ho (Obj.isFreed_of_dict (Obj.data_mapDictKeys hd _)),
      hc.mapDictKeys _, Obj.data_mapDictKeys hd _, hk.push hkey _, ?_, ?_⟩ (Heap.SameBut.update ..))
    · rw [stored, if_neg hany]
      have := hp.append hkey ((mixKind prog w).hash k) v
      obtain ⟨l⟩ := es
      simpa using this
    · rw [stored, if_neg hany, List.map_append, List.nodup_append]
      refine ⟨hn, by simp, ?_⟩
      intro a ha b hb
      simp only [List.map_cons, List.map_nil, List.mem_singleton] at hb
      subst hb
      exact fun e => hnot (e ▸ ha)
theorem loop_nil {α : Type} (f : α → PUnit → Sem (ForInStep PUnit)) : ∀ l : List α, (∀ e ∈ l, f e PUnit.unit = pure (.yield PUnit.unit)) → forIn l PUnit.unit f = pure PUnit.unit
  | [], _ => rfl
  | e :: l, h => by
    rw [List.forIn_cons, h e List.mem_cons_self, pure_bind]
    exact loop_nil f l fun x hx => h x (List.mem_cons_of_mem _ hx)
theorem mergeM_ok {d o : Addr} {kvs more : List (Key × Value)} {Q : Unit → Shared → Prop} (hdo : d ≠ o) (hoS : (o == sysModules) = false)
    (hd : s.heap.DictOf (mixKind prog w) d kvs) (ho : s.heap.DictOf (mixKind prog w) o more)
    (hQ : ∀ h', h'.DictOf (mixKind prog w) d (merged kvs more) → h'.DictOf (mixKind prog w) o more → Heap.SameBut d s.heap h' → Q () { s with heap := h' })
    (hsz : kvs.length + more.length ≤ sizeLine) :
    wpAny (model prog w) A (mergeMapping d (.ref o) false) Q E s := by
  obtain ⟨od, esd, epd, hod, hcd, hdd, hkd, hpd, hnd⟩ := id hd
  obtain ⟨oo, eso, epo, hoo, hco, hdo', hko, hpo, hno⟩ := id ho
  have hlen : more.length = eso.size := by rw [← hpo.length]; simp
  unfold mergeMapping
  refine wpAny_bind (wpAny_isInstance ho.typeIs isSubtype_dict_dict ?_)
  dsimp only
  rw [if_pos rfl]
  refine wpAny_bind (wpAny_specialOf ho.typeIs F.slot_dict_iter.lookup ?_)
  refine wpAny_bind (wpAny_pure ?_)
  simp only [beq_self_eq_true, hoS, Bool.false_eq_true, if_false]
  refine wpAny_bind (wpAny_dictEntries hod hdd ?_)
  have noref : ∀ e ∈ eso.toList, ∀ a, e.key ≠ .ref a := fun e he a z => by
    obtain ⟨k', hkey, _⟩ := hko e (by simpa using he)
    rcases keyIs_shape hkey with ⟨i, t, _, e1⟩ | ⟨x, t, _, e1⟩ <;> (rw [z] at e1; cases e1)
  have rest : wpAny (model prog w) A (do
      let l ← dictEntries o
      let epoch ← dictEpoch o
      forIn (List.range l.size) PUnit.unit fun i (_ : PUnit) => (do
          let l' ← dictEntries o
          match l'[i]? with
            | some e => do
              holding [e.key, e.val] (dictPut d e.hash e.key e.val)
              let ep' ← dictEpoch o
              if (ep' != epoch) = true then do
                  (unsupported "dict.changed-during-merge" : Sem PUnit)
                  pure (ForInStep.yield PUnit.unit)
                else pure (ForInStep.yield PUnit.unit)
            | _ => do
              (unsupported "dict.changed-during-merge" : Sem PUnit)
              pure (ForInStep.yield PUnit.unit) : Sem (ForInStep PUnit))
      pure ()) Q E s := by
    refine wpAny_bind (wpAny_dictEntries hoo hdo' ?_)
    refine wpAny_bind (wpAny_dictEpoch hoo hdo' ?_)
    refine wpAny_bind ?_
    rw [List.range_eq_range']
    refine wpAny_forIn_list _
      (fun rest _ s' => ∃ h' i, s' = { s with heap := h' } ∧ rest = List.range' i (eso.size - i) ∧ i ≤ eso.size ∧ h'.DictOf (mixKind prog w) d (merged kvs (more.take i)) ∧ h'.get? o = some oo ∧ Heap.SameBut d s.heap h')
      _ ?_ ?_ _ _ ⟨s.heap, 0, rfl, by simp, Nat.zero_le _, by simpa [merged] using hd, hoo, Heap.SameBut.refl _ _⟩
    · rintro x rest b s' ⟨h', i, rfl, hr, hi, hd', hoo', hs'⟩
      have hlt : i < eso.size := by
        rcases Nat.lt_or_ge i eso.size with h | h
        · exact h
        · rw [Nat.sub_eq_zero_of_le h] at hr; simp at hr
      obtain ⟨rfl, hrest⟩ : x = i ∧ rest = List.range' (i + 1) (eso.size - (i + 1)) := by
        have e : eso.size - i = (eso.size - (i + 1)) + 1 := by omega
        rw [e, List.range'_succ] at hr
        injection hr with h1 h2
        exact ⟨h1, h2⟩
      refine wpAny_bind (wpAny_dictEntries hoo' hdo' ?_)
      rw [Array.getElem?_eq_getElem hlt]
      obtain ⟨kv, hkv⟩ : ∃ kv, more[x]? = some kv := ⟨more[x]'(by rw [hlen]; exact hlt), List.getElem?_eq_getElem _⟩
      obtain ⟨k, v⟩ := kv
      obtain ⟨hkey, hval⟩ := hpo.get? (e := eso[x]) (by simp [hlt]) hkv
      obtain ⟨k', hkey', hhash⟩ := hko eso[x] (Array.getElem_mem hlt)
      obtain rfl : k' = k := (mixKind prog w).inj _ _ _ hkey' hkey
      show wpAny _ _ (holding [eso[x].key, eso[x].val] (dictPut d eso[x].hash eso[x].key eso[x].val) >>= _) _ _ _
      rw [hhash, hval]
      have hmx : (merged kvs (more.take x)).length ≤ sizeLine := by
        have e1 := merged_length_le kvs (more.take x)
        have e2 : (more.take x).length ≤ more.length := by rw [List.length_take]; omega
        omega
      refine wpAny_bind (wpAny_holding (put_ok (hsz := hmx) hkey hd' fun h'' hd'' hs'' => ?_))
      have hoo'' : h''.get? o = some oo := (hs''.2 o (Ne.symm hdo)).trans hoo'
      refine wpAny_bind (wpAny_dictEpoch hoo'' hdo' ?_)
      rw [if_neg (by simp)]
      exact wpAny_pure ⟨h'', x + 1, rfl, hrest, hlt, by rw [merged_take_succ kvs more x (k', v) hkv]; exact hd'', hoo'', hs'.trans hs''⟩
    · rintro b s' ⟨h', i, rfl, hr, hi, hd', hoo', hs'⟩
      have hin : i = eso.size := by
        rcases Nat.lt_or_ge i eso.size with h | h
        · have e : eso.size - i = (eso.size - (i + 1)) + 1 := by omega
          rw [e, List.range'_succ] at hr; exact nomatch hr
        · exact Nat.le_antisymm hi h
      refine wpAny_pure (hQ h' ?_ ⟨oo, eso, epo, hoo', hco, hdo', hko, hpo, hno⟩ hs')
      rw [hin, ← hlen, List.take_length] at hd'; exact hd'
  split
  · refine wpAny_bind (wpAny_dictEntries hoo hdo' ?_)
    refine wpAny_bind ?_
    rw [← Array.forIn_toList, loop_nil _ _ fun e he => ?_]
    · exact wpAny_pure rest
    · have h1 := noref e he
      split
      · rename_i a ha; exact absurd ha (h1 a)
      · rfl
  · exact rest
theorem gather_some (d : Addr) (f : (Option (Sem Value) × Sem Value) → (Option Addr × List (Sem Value × Sem Value)) → Sem (ForInStep (Option Addr × List (Sem Value × Sem Value))))
    (hf : ∀ (p : Sem Value × Sem Value) (run : List (Sem Value × Sem Value)), run.length + 1 < 17 → f (some p.1, p.2) (some d, run) = pure (.yield (some d, run ++ [p]))) :
    ∀ (items run : List (Sem Value × Sem Value)), run.length + items.length < 17 → forIn (items.map fun p => (some p.1, p.2)) (some d, run) f = pure (some d, run ++ items)
  | [], run, _ => by simp
  | p :: rest, run, h => by
    rw [List.map_cons, List.forIn_cons, hf p run (by simp at h; omega), pure_bind]
    have := gather_some d f hf rest (run ++ [p]) (by simp at h ⊢; omega)
    simpa using this
theorem star_ok {tm : Sem Value} {pairs : List (Sem Value × Sem Value)} {Q : Value → Shared → Prop} (h0 : pairs ≠ []) (hlen : pairs.length < 17)
    (h : wpAny (model prog w) A (alloc { cls := .type "dict", data := .dict #[] }) (fun d s1 => wpAny (model prog w) A tm (fun m s2 => wpAny (model prog w) A (mergeMapping d m false) (fun _ s3 =>
      wpAny (model prog w) A (subDict pairs) (fun sub s4 => wpAny (model prog w) A (mergeMapping d (.ref sub) false) (fun _ s5 => Q (.ref d) s5) (fun _ _ => False) s4) E s3) (fun _ _ => False) s2) E s1) E s) :
    wpAny (model prog w) A (dictDisplay ((none, tm) :: pairs.map fun p => (some p.1, p.2))) Q E s := by
  unfold dictDisplay
  dsimp only
  rw [List.forIn_cons]
  refine wpAny_bind (wpAny_bind ?_)
  dsimp only
  refine wpAny_bind ?_
  show wpAny _ _ (pure none) _ _ _
  refine wpAny_pure ?_
  dsimp only
  refine wpAny_bind (wpAny_mono h (fun d s1 h1 => ?_) fun _ _ e => e)
  refine wpAny_bind (wpAny_holding (wpAny_mono h1 (fun m s2 h2 => ?_) fun _ _ e => e))
  refine wpAny_bind (wpAny_onRaise (wpAny_tryCatch (wpAny_onRaise (wpAny_holding (wpAny_mono h2 (fun _ s3 h3 => ?_) fun _ _ e => e.elim)))))
  refine wpAny_pure ?_
  dsimp only
  rw [gather_some d _ (fun p run hr => by
    have hne : ((run ++ [(p.1, p.2)]).length == 17) = false := by simp; omega
    simp only [hne, Bool.false_eq_true, if_false]) pairs [] (by simpa using hlen)]
  refine wpAny_pure ?_
  simp only [List.nil_append]
  have he : pairs.isEmpty = false := by cases pairs with | nil => exact absurd rfl h0 | cons _ _ => rfl
  rw [he]
  simp only [Bool.false_eq_true, if_false]
  refine wpAny_bind ?_
  refine wpAny_bind (wpAny_holding (wpAny_mono h3 (fun sub s4 h4 => ?_) fun _ _ e => e))
  refine wpAny_bind (wpAny_onRaise (wpAny_holding (wpAny_mono h4 (fun _ s5 h5 => ?_) fun _ _ e => e.elim)))
  exact wpAny_pure (wpAny_pure h5)
end
end PyI

/-! PyI, part U: the rules of {k: v, ..}, {**d, k: v, ..}. -/
namespace PyI
open PySem PySem.Spec L2
def tStar (tm : TE) (trs : List (TE × TE)) : TE := fun σ H Q => ∀ p, H p = none → tm σ (upd H p (.dK [])) fun x H1 => H1 p = some (.dK []) ∧ ∃ b ts, x = .ref b ∧ b ≠ p ∧ Rd H1 b (.dK ts) ∧ ts.length ≤ LIM ∧ ∀ q, upd H1 p (.dK (mergeK [] ts)) q = none →
  tPairs trs σ (upd (upd H1 p (.dK (mergeK [] ts))) q (.dK [])) fun ps H2 => H2 p = some (.dK (mergeK [] ts)) ∧ H2 q = some (.dK []) ∧ ∃ kvs : List (Key × V), ps = kvs.map (fun kv => (kV kv.1, kv.2)) ∧ kvs.length ≤ 15 ∧
    Q (.ref p) (upd (upd H2 q (.dK (mergeK [] kvs))) p (.dK (mergeK (mergeK [] ts) (mergeK [] kvs))))
theorem len_merge0 (ts : List (Key × V)) : (mergeK [] ts).length ≤ ts.length := by
  have := length_mergeK ts []
  rw [List.length_nil] at this; omega
theorem pe_star {X : Cx} {pos : Pos} {m : Expr} {keys : List (Option Expr)} {values : List Expr} {tm : TE} {trs : List (TE × TE)} (hm : PE X m tm) (h : PPs X pos keys values trs) (hall : keys.all (·.isSome) = true) (hl : keys.length = values.length) (h0 : keys ≠ [])
    (h15 : keys.length ≤ 15) : PE X (.Dict (none :: keys) (m :: values) pos) (tStar tm trs) := by
  refine ⟨fun pins s σ H Q I hq => ?_⟩
  have hn := I.hok.fresh (Nat.le_refl s.heap.objs.size)
  have hlen := pairTrees_length keys values X.env pos hall hl
  have hp0 : pairTrees keys values X.env pos ≠ [] := by
    intro he
    rw [he] at hlen
    exact h0 (List.length_eq_zero_iff.mp hlen.symm)
  have shape : (evalEachOpt (none :: keys) X.env).zip ((evalEach (m :: values) X.env).map fun v => do let x ← v; standAt pos; pure x) = (none, do let x ← eval m X.env; standAt pos; pure x) :: (pairTrees keys values X.env pos).map fun p => (some p.1, p.2) := by
    rw [← zip_pairTrees keys values X.env pos hall hl]; rfl
  rw [arm_eval_Dict, shape]
  have I1 := I.laid (a := s.heap.objs.size) (o := .dK []) (h' := s.heap.push { cls := .type "dict", data := .dict #[] }) (t' := s.toks) (fun _ _ q => Heap.get?_push_of_some _ q) (Nat.le_refl _) (dk_empty s.heap I.big)
  have hq1 := hq _ hn
  generalize hp : s.heap.objs.size = p at *
  refine wpAny_bind (wpAny_standAt (star_ok hp0 (by rw [hlen]; omega) (wpAny_alloc ?_)))
  rw [hp]
  refine wpAny_bind (thn (hm.run pins _ σ _ _ I1 hq1) fun u s2 ⟨x, H1, I2, rx, e1, b, ts, ex, nb, rb, hz, q1⟩ => wpAny_bind (wpAny_standAt (wpAny_pure ?_)))
  subst ex
  obtain rfl : u = Value.ref b := rx
  obtain ⟨z, hd, vs0, r0, dd⟩ := dk_of I2.hok e1
  cases r0
  obtain ⟨z2, hd2, vs2, rel2, dd2⟩ := dk_rd I2.hok rb
  have z3 : vs2.length ≤ LIM := by rw [← rel2.length]; exact hz
  refine mergeM_ok (Ne.symm nb) hd2 dd dd2 (fun h' dd' _ hs => ?_) (by rw [List.length_nil, Nat.zero_add]; exact lim_line z3)
  have he : ∃ q, h'.get? p = some q := let ⟨q, _, _, hq, _⟩ := dd'; ⟨q, hq⟩
  have I3 := d_write (t' := s2.toks) I2 (by rw [e1]; exact True.intro) hs he (dk_new (Nat.le_trans (len_merge0 ts) (lim_line hz)) hd (rel2.merge .nil) dd')
  have I4 := I3.laid (a := h'.objs.size) (o := .dK []) (h' := h'.push { cls := .type "dict", data := .dict #[] }) (t' := s2.toks) (fun _ _ q => Heap.get?_push_of_some _ q) (Nat.le_refl _) (dk_empty h' I3.big)
  have hq0 := I3.hok.fresh (Nat.le_refl h'.objs.size)
  have hpq : p ≠ h'.objs.size := fun z => by rw [← z, upd_same] at hq0; cases hq0
  refine wpAny_subDict (knd := mixKind X.prog X.w) (by rw [hlen]; exact h15) (thn (h.run pins _ σ _ _ I4 (q1 _ hq0)) fun ws s5 ⟨ps, H2, I5, rel, e3, e4, kvs, ep, lk, q2⟩ => ?_)
  subst ep
  obtain ⟨rs, c, rk⟩ := carries_of (P := X.prog) (w := X.w) rel
  show ∃ kvs, Carries (mixKind X.prog X.w) ws kvs ∧ s5.heap.DictOf (mixKind X.prog X.w) h'.objs.size [] ∧ _
  generalize hqq : h'.objs.size = q at *
  obtain ⟨z5, hd5, vs5, r5, dd5⟩ := dk_of I5.hok e4
  cases r5
  refine ⟨rs, c, dd5, fun h6 dd6 hs6 => ?_⟩
  have zk : (mergeK [] kvs).length ≤ 15 := Nat.le_trans (len_merge0 kvs) lk
  have z15 : (15 : Nat) ≤ sizeLine := by rw [sizeLine_eq]; omega
  have he6 : ∃ o, h6.get? q = some o := let ⟨o, _, _, ho, _⟩ := dd6; ⟨o, ho⟩
  have I6 := d_write (t' := s5.toks + ws.length) I5 (by rw [e4]; exact True.intro) hs6 he6 (dk_new (Nat.le_trans zk z15) hd5 (rk.merge .nil) dd6)
  have ep6 : (upd H2 q (HO.dK (mergeK [] kvs))) p = some (.dK (mergeK [] ts)) := by rw [upd_ne hpq]; exact e3
  obtain ⟨z7, hd7, vs7, r7, dd7⟩ := dk_of I6.hok ep6
  obtain ⟨z8, hd8, vs8, r8, dd8⟩ := dk_of I6.hok (upd_same (H := H2) (a := q) (o := .dK (mergeK [] kvs)))
  have zl : (mergeK [] ts).length + (mergeK [] kvs).length ≤ sizeLine := by
    have h1 := len_merge0 ts
    rw [sizeLine_eq]
    have : LIM = 1000000 := rfl
    omega
  refine mergeM_ok hpq hd8 dd7 dd8 (fun h9 dd9 _ hs9 => ?_) (by rw [← r7.length, ← r8.length]; exact zl)
  have he9 : ∃ o, h9.get? p = some o := let ⟨o, _, _, ho, _⟩ := dd9; ⟨o, ho⟩
  have I9 := d_write (t' := s5.toks + ws.length) I6 (by rw [ep6]; exact True.intro) hs9 he9 (dk_new (Nat.le_trans (length_mergeK _ _) zl) hd7 (KV.merge r8 r7) dd9)
  exact ⟨.ref p, _, I9, rfl, q2⟩
end PyI

/-! PyI, part V: displays by value. -/
namespace PyI
open PySem PySem.Spec L2
def xPs : List (Mo Rs × Mo Rs) → Mo (List Rs)
  | [] => retM []
  | (fk, fv) :: r => bindM fk fun a => bindM fv fun b => bindM (xPs r) fun l => retM (a :: b :: l)
def dispD : List PyData → Option (List (PyData × PyData))
  | [] => some []
  | k :: v :: r => match keyOf? k, dispD r with
    | some _, some l => some ((k, v) :: l)
    | _, _ => none
  | _ :: [] => none
def flatV : List (V × V) → List V
  | [] => []
  | (x, y) :: r => x :: y :: flatV r
def trsD (K : PySem.W.Frag) (fs : List (Mo Rs × Mo Rs)) : List (TE × TE) := fs.map fun f => (tD K f.1, tD K f.2)
def PPD (X : Cx) (pos : Pos) (keys : List (Option Expr)) (values : List Expr) (fs : List (Mo Rs × Mo Rs)) : Prop := PPs X pos keys values (trsD X.K fs)
section
variable {X : Cx} {pos : Pos} {k v : Expr} {ks : List (Option Expr)} {vs : List Expr} {fk fv : Mo Rs} {fs : List (Mo Rs × Mo Rs)}
theorem ppd_nil : PPD X pos [] [] [] := pps_nil
theorem ppd_cons (hk : PD X k fk) (hv : PD X v fv) (hr : PPD X pos ks vs fs) : PPD X pos (some k :: ks) (v :: vs) ((fk, fv) :: fs) := pps_cons hk hv hr
end
section
variable {K : PySem.W.Frag} {S0 S S' S2 : Addr → Prop} {ρ0 ρ ρ' ρ2 : Rho} {σ : L2.St} {H0 H H' H2 : Hp} {p : Addr}
theorem tPs_ok : ∀ (fs : List (Mo Rs × Mo Rs)) {S : Addr → Prop} {ρ ρ' : Rho} {H : Hp} {rs : List Rs} {Q : List (V × V) → Hp → Prop}, Gd K S ρ σ H → xPs fs ρ = some (rs, ρ') →
    (∀ ps S' H', Fm S ρ σ H S' ρ' H' → Gd K S' ρ' σ H' → RRL K H S' H' ρ' σ (flatV ps) rs → Q ps H') → tPairs (trsD K fs) σ H Q
  | [], S, ρ, ρ', H, rs, Q, G, e, q => by
    cases retM_some e
    exact q [] S H Fm.refl G .nil
  | (fk, fv) :: fs, S, ρ, ρ', H, rs, Q, G, e, q => by
    obtain ⟨a, ρ1, e1, e2⟩ := bindM_some e
    obtain ⟨b, ρ2, e3, e4⟩ := bindM_some e2
    obtain ⟨l, ρ3, e5, e6⟩ := bindM_some e4
    cases retM_some e6
    refine ⟨S, ρ, a, ρ1, G, e1, fun x S1 H1 F1 G1 R1 => ⟨S1, ρ1, b, ρ2, G1, e3, fun y S2 H2 F2 G2 R2 => ?_⟩⟩
    have n1 : Now K σ S ρ H S1 ρ1 H1 := ⟨G, F1, G1⟩
    have n2 := n1.step F2 G2
    refine tPs_ok fs G2 e5 fun ps S3 H3 F3 G3 R3 => ?_
    refine q ((x, y) :: ps) S3 H3 (n2.f.trans F3) G3 ?_
    have r1 := (R1.fm n1 F2).fm n2 F3
    have r2 := (R2.pre n1).fm n2 F3
    exact .cons r1 (.cons r2 (R3.pre n2))
theorem disp_run : ∀ {ds : List PyData} {l : List (PyData × PyData)} {ps : List (V × V)}, RpL K S H (flatV ps) ds → dispD ds = some l →
    ∃ kvs : List (Key × V), ps = kvs.map (fun kv => (kV kv.1, kv.2)) ∧ KvR K S H kvs l
  | _, l, [], .nil, e => by cases e; exact ⟨[], rfl, KvR.nil⟩
  | _, l, (x, y) :: ps, .cons h1 (.cons h2 t), e => by
    unfold dispD at e
    split at e
    · rename_i kk l' hk hl
      cases e
      obtain ⟨kvs, rfl, r⟩ := disp_run t hl
      have ek := keyOf_keyD hk
      obtain rfl := Rdb.key (.inl h1) hk
      exact ⟨(kk, y) :: kvs, rfl, KvR.cons ek h2 r⟩
    · cases e
/-- an object that nobody knows is written -/
theorem Fm.updN {o : HO} (f : Fm S ρ σ H S' ρ' H') (h : H p = none) : Fm S ρ σ H S' ρ' (upd H' p o) :=
  ⟨fun b hb => by
    by_cases z : b = p
    · rw [z, upd_same]; simp
    · rw [upd_ne z]; exact f.dom b hb,
   fun b o' hb nm => by rw [upd_ne (ne_of_none hb h)]; exact f.keep b o' hb nm,
   f.sh, f.new, f.len, f.non, f.sts⟩
theorem Gd.updN {o : HO} (g : Gd K S ρ σ H) (h : ¬ S p) (hd : ∀ u l, H p ≠ some (.frz u l)) (no : ∀ (i : Nat) (st : Stt) (d : PyData), ρ[i]? = some (some (st, d)) → st.hold = true → σ[i]? ≠ some (some (V.ref p))) : Gd K S ρ σ (upd H p o) := by
  have u := uph_at (H := H) h o
  refine ⟨g.len, fun i st d hi => ?_, g.ne, fun b hb => ?_⟩
  · obtain ⟨w, z1, z2⟩ := g.sl i st d hi
    refine ⟨w, z1, ?_⟩
    have other : ∀ b, w = .ref b → st.hold = true → b ≠ p := fun b eb hh zz => no i st d hi hh (by rw [z1, eb, zz])
    cases st with
    | shr => exact Rp.up u z2
    | own => obtain ⟨b, rfl, ns, tx⟩ := z2; exact ⟨b, rfl, ns, TopX.up u (fun o hh => by rw [upd_ne (other b rfl rfl)]; exact hh) tx⟩
    | lent => obtain ⟨b, rfl, ns, tx⟩ := z2; exact ⟨b, rfl, ns, TopX.up u (fun o hh => by rw [upd_ne (other b rfl rfl)]; exact hh) tx⟩
    | bor => obtain ⟨b, rfl, ns, tx⟩ := z2; exact ⟨b, rfl, ns, TopR.up u (fun o hh => by rw [upd_ne (other b rfl rfl)]; exact hh) tx⟩
    | scr =>
      obtain ⟨b, ns1, rfl, e1, k⟩ := z2
      refine ⟨b, ns1, rfl, e1, KLst.keep (fun o hh => ?_) k⟩
      rw [upd_ne (fun z : b = p => hd _ _ (z ▸ hh))]
      exact hh
  · rw [upd_ne (fun z : b = p => h (z ▸ hb))]; exact g.al b hb
/-- no held slot is a place that was nobody's -/
theorem Fm.noH (f : Fm S ρ σ H S' ρ' H') (g : Gd K S ρ σ H) (h : H p = none) (i : Nat) (st : Stt) (d : PyData) (hi : ρ'[i]? = some (some (st, d))) (hh : st.hold = true) : σ[i]? ≠ some (some (V.ref p)) := fun z => by
  obtain ⟨d', h'⟩ := f.held hi hh
  exact g.held h' hh z h
theorem Now.noMu (n : Now K σ S0 ρ0 H0 S ρ H) (h : H0 p = none) : ¬ Mu ρ σ p := fun z => n.mu0 z h
end
def xDisp (fs : List (Mo Rs × Mo Rs)) : Mo Rs := bindM (xPs fs) fun rs => bindM (keepL rs) fun ds => bindM (optM (dispD ds)) fun l => if l.length ≤ 15 then retM (.fresh (.dict (mergeD [] l))) else fun _ => none
def xStar (fm : Mo Rs) (fs : List (Mo Rs × Mo Rs)) : Mo Rs := bindM fm fun r => bindM (rdR r) fun d => bindM (optM (match d with | .dict kvs => if kvs.length ≤ LIM then some kvs else none | _ => none)) fun kvs =>
  bindM (xPs fs) fun rs => bindM (keepL rs) fun ds => bindM (optM (dispD ds)) fun l => if l.length ≤ 15 then retM (.fresh (.dict (mergeD (mergeD [] kvs) (mergeD [] l)))) else fun _ => none
section
variable {X : Cx} {pos : Pos} {m : Expr} {ks : List (Option Expr)} {vs : List Expr} {fm : Mo Rs} {fs : List (Mo Rs × Mo Rs)}
theorem pd_disp (h : PPD X pos ks vs fs) (hall : ks.all (·.isSome) = true := by rfl) (hl : ks.length = vs.length := by rfl) (h0 : ks ≠ [] := by exact List.cons_ne_nil _ _) (h15 : ks.length ≤ 15 := by decide) : PD X (.Dict ks vs pos) (xDisp fs) :=
  PE.to (pe_disp h hall hl h0 h15) fun σ H Q hq => by
    obtain ⟨S, ρ, r, ρ', G, e, q⟩ := hq
    obtain ⟨rs, ρ1, e1, e2⟩ := bindM_some e
    obtain ⟨ds, ρ2, e3, e4⟩ := bindM_some e2
    obtain ⟨l, ρ3, e5, e6⟩ := bindM_some e4
    obtain ⟨b1, b2⟩ := optM_some e5
    simp only at b1 b2
    split at e6
    · rename_i hl15
      cases retM_some e6
      subst b2
      intro p hp
      have gw := Gw.lay (o := .dK []) G.al hp
      have n0 := (Now.start G).grow gw
      refine tPs_ok fs n0.g e1 fun ps S1 H1 F1 G1 R1 => ?_
      have n1 : Now X.K σ S ρ (upd H p (.dK [])) S1 ρ1 H1 := ⟨n0.g, F1, G1⟩
      obtain ⟨S2, n2, p2, sh2⟩ := RRLw.keep rs n1 R1.w e3
      obtain ⟨kvs, rfl, kr⟩ := disp_run p2 b1
      have nS : ¬ S p := fun z => G.al p z hp
      have nM : ¬ Mu ρ σ p := fun z => Mu.there G z hp
      have hp2 : H1 p = some (.dK []) := n2.f.keep p _ upd_same nM
      have nS2 : ¬ S2 p := fun z => (n2.f.new p z).elim nS fun z => z.elim nM (by rw [upd_same]; simp)
      have fA : Fm S ρ σ H S2 ρ' H1 := n0.f.trans n2.f
      refine ⟨hp2, kvs, rfl, by rw [← kr.len]; exact hl15, ?_⟩
      have g2 : Gd X.K S2 ρ' σ (upd H1 p (.dK (mergeK [] kvs))) := n2.g.updN nS2 (fun u l z => by rw [hp2] at z; cases z) (fA.noH G hp)
      refine q (.ref p) S2 _ (fA.updN hp) g2 ⟨p, rfl, hp, nS2, _, upd_same, ?_⟩
      have mm := KvR.merge kr (KvR.nil (K := X.K) (S := S2) (H := H1))
      exact ⟨mm.1, RpL.up (uph_at nS2 _) mm.2⟩
    · cases e6
theorem pd_star (hm : PD X m fm) (h : PPD X pos ks vs fs) (hall : ks.all (·.isSome) = true := by rfl) (hl : ks.length = vs.length := by rfl) (h0 : ks ≠ [] := by exact List.cons_ne_nil _ _) (h15 : ks.length ≤ 15 := by decide) : PD X (.Dict (none :: ks) (m :: vs) pos) (xStar fm fs) :=
  PE.to (pe_star hm h hall hl h0 h15) fun σ H Q hq => by
    obtain ⟨S, ρ, r, ρ', G, e, q⟩ := hq
    obtain ⟨rm, ρ1, e1, e2⟩ := bindM_some e
    obtain ⟨dm, ρ2, e3, e4⟩ := bindM_some e2
    obtain ⟨kvm, ρ3, e5, e6⟩ := bindM_some e4
    obtain ⟨rs, ρ4, e7, e8⟩ := bindM_some e6
    obtain ⟨ds, ρ5, e9, e10⟩ := bindM_some e8
    obtain ⟨l, ρ6, e11, e12⟩ := bindM_some e10
    obtain ⟨b1, b2⟩ := optM_some e5
    obtain ⟨b3, b4⟩ := optM_some e11
    simp only at b1 b2 b3 b4
    split at e12
    · rename_i hl15
      cases retM_some e12
      subst b2
      subst b4
      intro p hp
      have gw := Gw.lay (o := .dK []) G.al hp
      have n0 := (Now.start G).grow gw
      refine ⟨S, ρ, rm, ρ1, n0.g, e1, fun v S1 H1 F1 G1 R1 => ?_⟩
      obtain ⟨rd, rfl⟩ := R1.rd G1 e3
      split at b1
      · split at b1
        · rename_i hz
          cases b1
          obtain ⟨b, ts, rfl, h1, p1, p2⟩ := rd.dct
          have kv0 : KvR X.K S1 H1 ts kvm := ⟨p1, p2⟩
          have nS : ¬ S p := fun z => G.al p z hp
          have nM : ¬ Mu ρ σ p := fun z => Mu.there G z hp
          have n1 : Now X.K σ S ρ (upd H p (.dK [])) S1 ρ3 H1 := ⟨n0.g, F1, G1⟩
          have hp1 : H1 p = some (.dK []) := n1.f.keep p _ upd_same nM
          have nS1 : ¬ S1 p := fun z => (n1.f.new p z).elim nS fun z => z.elim nM (by rw [upd_same]; simp)
          have fA : Fm S ρ σ H S1 ρ3 H1 := n0.f.trans n1.f
          -- the walked dict is not the new one
          have nb : b ≠ p := fun z => by
            subst z
            cases rm with
            | kept d => cases e3; cases R1 with | dct hs _ _ _ => exact nS1 hs
            | fresh d =>
              obtain ⟨a, ea, h0', _⟩ := R1
              cases ea
              rw [upd_same] at h0'; cases h0'
            | slot i =>
              obtain ⟨s1, ⟨st, dd⟩, s2⟩ := R1
              obtain ⟨w, s3, s4⟩ := G1.sl i st dd s2
              rw [s1] at s3; cases s3
              cases hh : st.hold with
              | true => exact fA.noH G hp i st dd s2 hh s1
              | false =>
                cases st with
                | shr => cases s4 with
                  | dct hs _ _ _ => exact nS1 hs
                  | tup hs _ _ => 
                    rcases h1 with h1 | ⟨o, h1⟩ <;> rw [hp1] at h1 <;> first | (rcases hs with ⟨hs, _⟩ | ⟨_, _, _, _, _⟩; exact nS1 hs; unfold rdR at e3; simp only [s2] at e3; cases e3) | cases h1
                  | lst hs _ _ => exact nS1 hs
                | scr => unfold rdR at e3; simp only [s2] at e3; cases e3
                | _ => cases hh
          refine ⟨hp1, b, ts, rfl, nb, h1, by rw [← kv0.len]; exact hz, fun qq hqq => ?_⟩
          have g1 : Gd X.K S1 ρ3 σ (upd H1 p (.dK (mergeK [] ts))) := G1.updN nS1 (fun u l z => by rw [hp1] at z; cases z) (fA.noH G hp)
          have kv1 : KvR X.K S1 (upd H1 p (.dK (mergeK [] ts))) (mergeK [] ts) (mergeD [] kvm) := by
            have mm := KvR.merge kv0 (KvR.nil (K := X.K) (S := S1) (H := H1))
            exact ⟨mm.1, RpL.up (uph_at nS1 _) mm.2⟩
          have gw2 := Gw.lay (o := .dK []) g1.al hqq
          have hqp : qq ≠ p := fun z => by rw [z, upd_same] at hqq; cases hqq
          have fB : Fm S ρ σ H S1 ρ3 (upd H1 p (.dK (mergeK [] ts))) := fA.updN hp
          have m1 : Now X.K σ S ρ H S1 ρ3 (upd H1 p (.dK (mergeK [] ts))) := ⟨G, fB, g1⟩
          have hq0 : H qq = none := m1.none0 hqq
          have m2 := m1.grow gw2
          refine tPs_ok fs m2.g e7 fun ps S4 H4 F4 G4 R4 => ?_
          have m3 := m2.step F4 G4
          obtain ⟨S5, n5, p5, sh5⟩ := RRLw.keep rs (⟨m2.g, F4, G4⟩ : Now X.K σ S1 ρ3 _ S4 ρ4 H4) R4.w e9
          obtain ⟨kvs, rfl, kr⟩ := disp_run p5 b3
          have nMp : ¬ Mu ρ3 σ p := m1.noMu hp
          have nMq : ¬ Mu ρ3 σ qq := m1.noMu hq0
          have hp5 : H4 p = some (.dK (mergeK [] ts)) := n5.f.keep p _ (by rw [upd_ne (Ne.symm hqp), upd_same]) nMp
          have hq5 : H4 qq = some (.dK []) := n5.f.keep qq _ upd_same nMq
          have nS1q : ¬ S1 qq := fun z => g1.al qq z hqq
          have nSp5 : ¬ S5 p := fun z => (n5.f.new p z).elim nS1 fun z => z.elim nMp (by rw [upd_ne (Ne.symm hqp), upd_same]; simp)
          have nSq5 : ¬ S5 qq := fun z => (n5.f.new qq z).elim nS1q fun z => z.elim nMq (by rw [upd_same]; simp)
          refine ⟨hp5, hq5, kvs, rfl, by rw [← kr.len]; exact hl15, ?_⟩
          have f5 : Fm S ρ σ H S5 ρ' H4 := m2.f.trans n5.f
          have g5 : Gd X.K S5 ρ' σ (upd H4 qq (.dK (mergeK [] kvs))) := n5.g.updN nSq5 (fun u l z => by rw [hq5] at z; cases z) (f5.noH G hq0)
          have f6 : Fm S ρ σ H S5 ρ' (upd H4 qq (.dK (mergeK [] kvs))) := f5.updN hq0
          have g6 : Gd X.K S5 ρ' σ (upd (upd H4 qq (.dK (mergeK [] kvs))) p (.dK (mergeK (mergeK [] ts) (mergeK [] kvs)))) := g5.updN nSp5 (fun u l z => by rw [upd_ne (Ne.symm hqp), hp5] at z; cases z) (f6.noH G hp)
          refine q (.ref p) S5 _ (f6.updN hp) g6 ⟨p, rfl, hp, nSp5, _, upd_same, ?_⟩
          have kv5 : KvR X.K S5 H4 (mergeK [] ts) (mergeD [] kvm) := ⟨kv1.1, RpL.up ((gw2.up).trans (n5.f.up n5.g0)) kv1.2⟩
          have mm := KvR.merge (KvR.merge kr (KvR.nil (K := X.K) (S := S5) (H := H4))) kv5
          exact ⟨mm.1, RpL.up ((uph_at nSq5 _).trans (uph_at nSp5 _)) mm.2⟩
        · cases b1
      · cases b1
    · cases e12
end
end PyI

/-! PyI, part W: list(d.items()), l.index(x). -/
namespace PyI
open PySem PySem.Spec L2
/-- list(e.items()), of a dict that may stand under a lock -/
def tItL (te : TE) : TE := fun σ H Q => te σ H fun x H1 => ∃ (d : Addr) (kvs : List (Key × V)), x = .ref d ∧ Rd H1 d (.dK kvs) ∧
  ∀ (H' : Hp) (p : Addr) (ts : List Addr), (∀ b o, H1 b = some o → H' b = some o) → H1 p = none → (∀ t ∈ ts, H1 t = none) → p ∉ ts → H' p = some (.lst (ts.map V.ref)) →
    Paired (fun (t : Addr) (q : Key × V) => H' t = some (.tup [kV q.1, q.2])) ts kvs → Q (.ref p) H'
section
variable {X : Cx} {e : Expr} {te : TE} {f : Mo Rs} {p apos cpos pos : Pos}
theorem pe_itL (hc : X.calm = true) (he : PE X e te) (hg : Gl X "list") (hm : X.mg "list" = none) (hv : bootBuiltins "list" = some (.type "list")) (hb : attributeBase e "items" X.env (eval e X.env) = eval e X.env) (hl : (apos.endLine == cpos.line) = true)
    (hs : starEach [.Call (.Attribute e "items" apos) [] [] cpos] X.env = (false, eval (.Call (.Attribute e "items" apos) [] [] cpos) X.env) :: starEach [] X.env) : PE X (.Call (.Name "list" p) [.Call (.Attribute e "items" apos) [] [] cpos] [] pos) (tItL te) := by
  constructor
  intro pins s σ H Q I hq
  apply wpAny_Call_Name_kw
  refine ld_blt I hg hm hv (PyProof.Rows.callWith_type1 ?_ hs rfl)
  rw [hs]
  show wpAny _ _ (spliced ((false, eval (.Call (.Attribute e "items" apos) [] [] cpos) X.env) :: backTo pos (starEach [] X.env))) _ _ s
  apply Calls.spliced_cons
  refine wpAny_Call_method (T := "dict") (id := "dict.items") hb rfl hl PySem.F.plainAttrs_dict PySem.F.slot_dict_items PySem.F.type_dict_items ?_
  refine thn (he.run pins s σ H _ I hq) ?_
  rintro u s1 ⟨x, H1, I1, rx, d, kvs, rfl, hd, q⟩
  obtain rfl : u = Value.ref d := rx
  obtain ⟨hz, h0, vs, kv, dd⟩ := dk_rd I1.hok hd
  obtain ⟨ep, at1⟩ := dd.dictAt
  have lk : kvs.length = vs.length := Paired.length kv
  have I2 := I1.kept (t' := s1.toks) (h' := s1.heap.push { cls := .type "dict_items", data := .fields #[.ref d] }) fun b ob z => Heap.get?_push_of_some _ z
  refine ⟨dd.typeIs, dd.mapOf.noDict, ?_⟩
  show wpAny _ _ (callWith cpos (.builtin "dict.items") [.ref d] [] []) _ X.xe s1
  refine method_meetsIn PySem.F.slot_dict_items PySem.F.entry_dict_items rfl (PySem.evalArgs_none ⟨rfl, dd.typeIs, PySem.F.args_dict_items_1 _, _, meets_dict_items (mixKind X.prog X.w) d h0, ⟨vs, dd⟩, Calls.spliced_nil ?_⟩)
  refine PySem.W.kdx_call (ep := ep) (kvs := vs) (knd := mixKind X.prog X.w) (I1.ok.hd hc) ⟨_, Heap.get?_push_size _ rfl, rfl, rfl⟩ (at1.push _) (by omega) ?_
  intro h2 tk acc c as k1 k2 k3 k4 k5
  obtain ⟨H', a1, a2, a3, a4, a5, a6, J⟩ := LiI.items_laid (tk := tk) I2 hz kv k1 k2 k3 k4 k5
  exact ⟨.ref _, H', J, rfl, q H' _ as a1 a2 a3 a4 a5 a6⟩
def itemsD (kvs : List (PyData × PyData)) : List PyData := kvs.map fun p => .tuple [p.1, p.2]
def xItems (f : Mo Rs) : Mo Rs := bindM f fun r => bindM (rdR r) fun d => bindM (optM (match d with | .dict kvs => some kvs | _ => none)) fun kvs => retM (.fresh (.list (itemsD kvs)))
theorem items_rp {K : PySem.W.Frag} {S : Addr → Prop} {H : Hp} : ∀ {ts : List Addr} {us : List (Key × V)} {kvs : List (PyData × PyData)}, Paired (fun (t : Addr) (q : Key × V) => H t = some (.tup [kV q.1, q.2])) ts us → KvR K S H us kvs → (∀ t ∈ ts, S t) →
    RpL K S H (ts.map V.ref) (itemsD kvs)
  | [], [], [], _, _, _ => .nil
  | [], [], _ :: _, _, h, _ => by have := h.len; simp at this
  | t :: ts, u :: us, [], _, h, _ => by have := h.len; simp at this
  | t :: ts, u :: us, q :: kvs, .cons h1 h2, h, hS => by
    obtain ⟨a, b, c⟩ := h.cons_inv
    refine .cons (.tup (.inl ⟨hS t List.mem_cons_self, .inl h1⟩) (.cons ?_ (.cons b .nil)) fun e => by rw [a] at e; cases hu : u.1 <;> rw [hu] at e <;> cases e) (items_rp h2 c fun x hx => hS x (List.mem_cons_of_mem _ hx))
    rw [a]
    cases u.1 with
    | inl i => exact .int i
    | inr x => exact .str x
theorem paired_mem {α β : Type} {F : α → β → Prop} : ∀ {xs : List α} {ys : List β}, Paired F xs ys → ∀ x ∈ xs, ∃ y, F x y
  | _, _, .cons h t, x, hx => by
    rcases List.mem_cons.mp hx with rfl | hx
    · exact ⟨_, h⟩
    · exact paired_mem t x hx
theorem pd_items (hc : X.calm = true) (he : PD X e f) (hm : X.mg "list" = none) (hv : bootBuiltins "list" = some (.type "list")) (hg : Gl X "list" := by rfl) (hb : attributeBase e "items" X.env (eval e X.env) = eval e X.env := by rfl) (hl : (apos.endLine == cpos.line) = true := by rfl)
    (hs : starEach [.Call (.Attribute e "items" apos) [] [] cpos] X.env = (false, eval (.Call (.Attribute e "items" apos) [] [] cpos) X.env) :: starEach [] X.env := by rfl) : PD X (.Call (.Name "list" p) [.Call (.Attribute e "items" apos) [] [] cpos] [] pos) (xItems f) :=
  PE.to (pe_itL hc he hg hm hv hb hl hs) fun σ H Q h => by
    obtain ⟨S, ρ, r, ρ', G, e, q⟩ := h
    obtain ⟨r0, ρ1, e1, e2⟩ := bindM_some e
    obtain ⟨d, ρ2, e3, e4⟩ := bindM_some e2
    obtain ⟨kvs, ρ3, e5, e6⟩ := bindM_some e4
    obtain ⟨b1, b2⟩ := optM_some e5
    simp only at b1 b2
    cases retM_some e6
    obtain rfl := rdR_same e3
    subst b2
    refine ⟨S, ρ, r0, _, G, e1, fun v S1 H1 F1 G1 R1 => ?_⟩
    obtain ⟨rd, _⟩ := R1.rd G1 e3
    split at b1
    · cases b1
      obtain ⟨a, us, rfl, h1, p1, p2⟩ := rd.dct
      have kv : KvR X.K S1 H1 us kvs := ⟨p1, p2⟩
      refine ⟨a, us, rfl, h1, fun H' t ts k1 k2 k3 k4 k5 k6 => ?_⟩
      have n1 : Now X.K σ S ρ H S1 _ H1 := ⟨G, F1, G1⟩
      have gw : Gw S1 H1 (fun b => S1 b ∨ b ∈ ts) H' := ⟨k1, fun _ h => .inl h, fun b hb => hb.imp_right (k3 b), fun b hb => by
        rcases hb with hb | hb
        · intro z
          cases e : H1 b with
          | none => exact G1.al b hb e
          | some o => rw [k1 b o e] at z; cases z
        · obtain ⟨y, hy⟩ := paired_mem k6 b hb
          rw [hy]; simp⟩
      have n2 := n1.grow gw
      exact q _ _ H' n2.f n2.g ⟨t, rfl, n1.none0 k2, fun z => z.elim (fun z => G1.al t z k2) k4, _, k5, items_rp k6 (KvR.up gw.up kv) fun x hx => .inr hx⟩
    · cases b1
end
/-! ### l.index(x), of texts -/
def idxS : List Str → Str → Option Nat
  | [], _ => none
  | x :: r, y => if x = y then some 0 else (idxS r y).map (· + 1)
def idxD : PyData → PyData → Option Nat
  | .list ds, .str y => (strsD ds).bind fun xs => idxS xs y
  | _, _ => none
theorem idxS_get : ∀ {xs : List Str} {y : Str} {j : Nat}, idxS xs y = some j → xs[j]? = some y ∧ ∀ (m : Nat) (z : Str), m < j → xs[m]? = some z → z ≠ y
  | [], _, _, e => by cases e
  | x :: r, y, j, e => by
    unfold idxS at e
    split at e
    · rename_i h; cases e; exact ⟨by rw [h]; rfl, fun m z h => absurd h (Nat.not_lt_zero _)⟩
    · rename_i h
      obtain ⟨k, hk, rfl⟩ := Option.map_eq_some_iff.mp e
      obtain ⟨h1, h2⟩ := idxS_get hk
      refine ⟨by simpa using h1, fun m z hm hz => ?_⟩
      cases m with
      | zero => simp at hz; rw [← hz]; exact h
      | succ m => exact h2 m z (by omega) (by simpa using hz)
def isLstD : PyData → Bool
  | .list _ => true | _ => false
def xIdx (f g : Mo Rs) : Mo Rs := bindM f fun r => bindM (rdR r) fun d0 => if isLstD d0 = true then bindM g fun r2 => bindM (rdR r2) fun y => bindM (rdR r) fun d => bindM (optM (idxD d y)) fun j => retM (.kept (.int (j : Nat))) else fun _ => none
section
variable {X : Cx} {o e : Expr} {fo fe : Mo Rs} {apos cpos : Pos}
theorem RpL.strsV {K : PySem.W.Frag} {S : Addr → Prop} {H : Hp} : ∀ {xs : List Str} {vs : List V}, RpL K S H vs (xs.map PyData.str) → vs = xs.map V.str
  | [], _, .nil => rfl
  | x :: xs, _, .cons h t => by
    cases h
    rw [List.map_cons, RpL.strsV t]
theorem pd_idx (ho : PD X o fo) (he : PD X e fe) (hbase : attributeBase o "index" X.env (eval o X.env) = eval o X.env := by rfl)
    (hfew : ((backTo cpos (starEach [e] X.env)).all (fun x => !x.1) && (backToKw cpos (keywordEach [] X.env)).all (fun x => x.1.isSome)
      && decide ([e].length + ([] : List Keyword).length + (if ([] : List Keyword).isEmpty then 0 else 1) < 30)) = true := by rfl)
    (hline : (apos.endLine == cpos.line) = true := by rfl) (hs : starEach [e] X.env = (false, eval e X.env) :: starEach [] X.env := by rfl) (hplain : (backTo cpos (starEach [] X.env)).any (·.1) = false := by rfl) :
    PD X (.Call (.Attribute o "index" apos) [e] [] cpos) (xIdx fo fe) := PE.to (pe_bm PySem.F.plainAttrs_list PySem.F.slot_list_index PySem.F.type_list_index mt_index ho (pa_cons he pa_nil hs) hbase hfew hline hs hplain) fun σ H Q h => by
  obtain ⟨S, ρ, r, ρ', G, e, q⟩ := h
  obtain ⟨r0, ρ1, e1, a1⟩ := bindM_some e
  obtain ⟨d0, ρ2, e2, a2⟩ := bindM_some a1
  obtain rfl := rdR_same e2
  split at a2
  · rename_i hd
    obtain ⟨r2, ρ3, e3, a3⟩ := bindM_some a2
    obtain ⟨y, ρ4, e4, a4⟩ := bindM_some a3
    obtain ⟨d, ρ5, e5, a5⟩ := bindM_some a4
    obtain ⟨j, ρ6, e6, a6⟩ := bindM_some a5
    cases retM_some a6
    obtain rfl := rdR_same e4
    obtain rfl := rdR_same e5
    obtain ⟨b1, b2⟩ := optM_some e6
    simp only at b1 b2
    subst b2
    refine ⟨S, ρ, r0, _, G, e1, fun v S1 H1 F1 G1 R1 => ?_⟩
    have n1 : Now X.K σ S ρ H S1 _ H1 := ⟨G, F1, G1⟩
    obtain ⟨rd0, _⟩ := R1.rd G1 e2
    have ty : tyV X.K "list" v H1 := by
      cases d0 with
      | list ds => obtain ⟨a, vs, rfl, h1, _⟩ := rd0.lst; exact .inl ⟨rfl, vs, SqL.of h1⟩
      | _ => cases hd
    refine ⟨ty, S1, _, r2, _, G1, e3, fun w S2 H2 F2 G2 R2 => ?_⟩
    have n2 := n1.step F2 G2
    obtain ⟨rdy, _⟩ := (R2.pre n1).rd G2 e4
    obtain ⟨rdo, _⟩ := (R1.fm n1 F2).rd G2 e5
    unfold idxD at b1
    split at b1
    · obtain ⟨xs, hx, hj⟩ := Option.bind_eq_some_iff.mp b1
      obtain ⟨g1, g2⟩ := idxS_get hj
      obtain ⟨a, vs, rfl, h1, p1⟩ := rdo.lst
      obtain rfl := strsD_eq hx
      obtain rfl := p1.strsV
      obtain rfl := rdy.str
      refine ⟨a, xs.map V.str, .str _, j, .str _, rfl, rfl, SqL.of h1, rfl, ?_, by rw [List.getElem?_map, g1]; rfl, by simp [eqV], fun m z' hm hz => ?_, q _ S2 H2 n2.f n2.g (.int _)⟩
      · rw [List.all_map]; exact List.all_eq_true.mpr fun x _ => rfl
      · rw [List.getElem?_map] at hz
        obtain ⟨x, hx, rfl⟩ := Option.map_eq_some_iff.mp hz
        have := g2 m x hm hx
        simpa [eqV] using this
    · cases b1
  · cases a2
end
end PyI

/-! PyI, part X: blocks over a walked dict; the evaluator's equations of the new parts. -/
namespace PyI
open PySem PySem.Spec L2
section
variable {X : Cx} {kx vx elt tg iter tg1 iter1 : Expr} {ifs ifs1 : List Expr} {scope : Scope} {pos : Pos} {fi1 : Mo (List PyData)} {g g1 : G1} {t t1 : Mo Bool} {fe fk fv : Mo Rs} {vs1 : List Nat} {m : Wm} {i : Nat}
theorem pd_lc2D (own : List (Str × Nat)) (hc : X.calm = true) (hN : X.N.Nodup) (hi : PI X tg iter (wiD m i)) (ok : BlkOk X.N X.env.scope scope own) (hv : ∀ i ∈ g.vs, i ∈ own.map (·.2)) (hv1 : g1.vs = vs1) (hs1 : ∀ i ∈ vs1, i ∈ own.map (·.2))
    (hg : ∀ (s : Shared) (H : Hp) (C : Addr) (cl : List (Str × Addr)) (fp : List Addr), GD (X.blk s H scope (compEnvC scope cl C X.env) fp) tg g) (ht : ∀ (s : Shared) (H : Hp) (C : Addr) (cl : List (Str × Addr)) (fp : List Addr), TsD (X.blk s H scope (compEnvC scope cl C X.env) fp) ifs t)
    (hi1 : ∀ (s : Shared) (H : Hp) (C : Addr) (cl : List (Str × Addr)) (fp : List Addr), ID0 (X.blk s H scope (compEnvC scope cl C X.env) fp) tg1 iter1 fi1)
    (hg1 : ∀ (s : Shared) (H : Hp) (C : Addr) (cl : List (Str × Addr)) (fp : List Addr), GD (X.blk s H scope (compEnvC scope cl C X.env) fp) tg1 g1) (ht1 : ∀ (s : Shared) (H : Hp) (C : Addr) (cl : List (Str × Addr)) (fp : List Addr), TsD (X.blk s H scope (compEnvC scope cl C X.env) fp) ifs1 t1)
    (he : ∀ (s : Shared) (H : Hp) (C : Addr) (cl : List (Str × Addr)) (fp : List Addr), PD (X.blk s H scope (compEnvC scope cl C X.env) fp) elt fe) (hs : ∀ x, foldedSetIterable iter X.env x = pure x := by intro _; rfl) (hs1' : ∀ env x, foldedSetIterable iter1 env x = pure x := by intro _ _; rfl) :
    PD X (.ListComp elt [⟨tg, iter, ifs, 0⟩, ⟨tg1, iter1, ifs1, 0⟩] scope pos) (xLc2 (own.map (·.2)) vs1 (iDict m i) g t fi1 g1 t1 fe) :=
  pd_lockD (C := fun wi => tLc2 wi (tG X.K g) (tT X.K t) (tI0 X.K fi1) (tG X.K g1) (tT X.K t1) (tD X.K fe) (own.map fun p : Str × Nat => p.2) vs1) (pe_lc2 hc hN hi ok hs1 hg ht hi1 hg1 ht1 he hs hs1') (fun wi' σ H Q hm h => hm _ h) (fun σ H Q h => lc2_ok hv hv1 h) fun ρ r ρ' h => by
    unfold xLc2 at h
    cases e1 : iDict m i ρ with
    | none => rw [e1] at h; cases h
    | some p =>
      obtain ⟨ds, ρ1⟩ := p
      refine ⟨ds, ρ1, rfl, fun e3 => ?_⟩
      rw [e1] at h
      unfold xLc2
      rw [e3]
      exact h
theorem pd_dcD (own : List (Str × Nat)) (hc : X.calm = true) (hN : X.N.Nodup) (hi : PI X tg iter (wiD m i)) (ok : BlkOk X.N X.env.scope scope own) (hv : g.vs = own.map (·.2))
    (hg : ∀ (s : Shared) (H : Hp) (C : Addr) (cl : List (Str × Addr)) (fp : List Addr), GD (X.blk s H scope (compEnvC scope cl C X.env) fp) tg g) (ht : ∀ (s : Shared) (H : Hp) (C : Addr) (cl : List (Str × Addr)) (fp : List Addr), TsD (X.blk s H scope (compEnvC scope cl C X.env) fp) ifs t)
    (hk : ∀ (s : Shared) (H : Hp) (C : Addr) (cl : List (Str × Addr)) (fp : List Addr), PD (X.blk s H scope (compEnvC scope cl C X.env) fp) kx fk)
    (he : ∀ (s : Shared) (H : Hp) (C : Addr) (cl : List (Str × Addr)) (fp : List Addr), PD (X.blk s H scope (compEnvC scope cl C X.env) fp) vx fv) (hs : ∀ x, foldedSetIterable iter X.env x = pure x := by intro _; rfl) :
    PD X (.DictComp kx vx [⟨tg, iter, ifs, 0⟩] scope pos) (xDc (own.map (·.2)) (iDict m i) g t fk fv) :=
  pd_lockD (C := fun wi => tDc wi (tG X.K g) (tT X.K t) (tD X.K fk) (tD X.K fv) (own.map fun p : Str × Nat => p.2)) (pe_dc hc hN hi ok hg ht hk he hs) (fun wi' σ H Q hm h => hm _ h) (fun σ H Q h => dc_ok hv h) fun ρ r ρ' h => by
    unfold xDc at h
    cases e1 : iDict m i ρ with
    | none => rw [e1] at h; cases h
    | some p =>
      obtain ⟨ds, ρ1⟩ := p
      refine ⟨ds, ρ1, rfl, fun e3 => ?_⟩
      rw [e1] at h
      unfold xDc
      rw [e3]
      exact h
end
/-! ### equations -/
@[simp] theorem e_ps0 (ρ : Rho) : xPs [] ρ = some ([], ρ) := (rfl)
@[simp] theorem e_psS (fk fv : Mo Rs) (r : List (Mo Rs × Mo Rs)) (ρ : Rho) : xPs ((fk, fv) :: r) ρ = aC fk (aC fv (xPs r)) ρ := by
  show bindM fk (fun a => bindM fv fun b => bindM (xPs r) fun l => retM (a :: b :: l)) ρ = bindM fk (fun a => bindM (bindM fv fun b => bindM (xPs r) fun l => retM (b :: l)) fun l => retM (a :: l)) ρ
  unfold bindM
  cases fk ρ with
  | none => rfl
  | some p =>
    dsimp only
    cases fv p.2 with
    | none => rfl
    | some q =>
      dsimp only
      cases xPs r q.2 with
      | none => rfl
      | some l => rfl
def dpa (x : Option (List Rs × Rho)) (h : List (PyData × PyData)) : Option (Rs × Rho) := match x with
  | some (rs, ρ) => match keepL rs ρ with
    | some (ds, ρ1) => match dispD ds with
      | some l => if l.length ≤ 15 then some (.fresh (.dict (mergeD h (mergeD [] l))), ρ1) else none
      | none => none
    | none => none
  | none => none
def dpb (x : Option (List PyData × Rho)) (h : List (PyData × PyData)) : Option (Rs × Rho) := match x with
  | some (ds, ρ1) => match dispD ds with
      | some l => if l.length ≤ 15 then some (.fresh (.dict (mergeD h (mergeD [] l))), ρ1) else none
      | none => none
  | none => none
def dpc (x : Option (List (PyData × PyData))) (h : List (PyData × PyData)) (ρ : Rho) : Option (Rs × Rho) := match x with
  | some l => if l.length ≤ 15 then some (.fresh (.dict (mergeD h (mergeD [] l))), ρ) else none
  | none => none
@[simp] theorem e_dpa (rs : List Rs) (ρ : Rho) (h : List (PyData × PyData)) : dpa (some (rs, ρ)) h = dpb (keepL rs ρ) h := (rfl)
@[simp] theorem e_dpb (ds : List PyData) (ρ : Rho) (h : List (PyData × PyData)) : dpb (some (ds, ρ)) h = dpc (dispD ds) h ρ := (rfl)
theorem e_dpc (l : List (PyData × PyData)) (ρ : Rho) (h : List (PyData × PyData)) (hl : l.length ≤ 15) : dpc (some l) h ρ = some (.fresh (.dict (mergeD h (mergeD [] l))), ρ) := if_pos hl
@[simp] theorem e_dp1 (a : PyData × PyData) (ρ : Rho) (h : List (PyData × PyData)) : dpc (some [a]) h ρ = some (.fresh (.dict (mergeD h (mergeD [] [a]))), ρ) := e_dpc _ _ _ (by simp)
@[simp] theorem e_dp2 (a b : PyData × PyData) (ρ : Rho) (h : List (PyData × PyData)) : dpc (some [a, b]) h ρ = some (.fresh (.dict (mergeD h (mergeD [] [a, b]))), ρ) := e_dpc _ _ _ (by simp)
@[simp] theorem dispD0 : dispD [] = some [] := (rfl)
@[simp] theorem dispDS (k : Str) (v : PyData) (r : List PyData) : dispD (.str k :: v :: r) = (dispD r).map ((PyData.str k, v) :: ·) := by
  have h : dispD (.str k :: v :: r) = match keyOf? (.str k), dispD r with
    | some _, some l => some ((PyData.str k, v) :: l)
    | _, _ => none := (rfl)
  rw [h]
  cases dispD r <;> rfl
def sta (x : Option (Rs × Rho)) (fs : List (Mo Rs × Mo Rs)) : Option (Rs × Rho) := match x with
  | some (r, ρ) => match rdD r ρ with
    | some (.dict kvs) => if kvs.length ≤ LIM then dpa (xPs fs ρ) (mergeD [] kvs) else none
    | _ => none
  | none => none
def stb (x : Option PyData) (fs : List (Mo Rs × Mo Rs)) (ρ : Rho) : Option (Rs × Rho) := match x with
    | some (.dict kvs) => if kvs.length ≤ LIM then dpa (xPs fs ρ) (mergeD [] kvs) else none
    | _ => none
@[simp] theorem e_sta (r : Rs) (ρ : Rho) (fs : List (Mo Rs × Mo Rs)) : sta (some (r, ρ)) fs = stb (rdD r ρ) fs ρ := (rfl)
theorem e_stb (kvs : List (PyData × PyData)) (ρ : Rho) (fs : List (Mo Rs × Mo Rs)) (h : kvs.length ≤ LIM) : stb (some (.dict kvs)) fs ρ = dpa (xPs fs ρ) (mergeD [] kvs) := if_pos h
@[simp] theorem e_star (fm : Mo Rs) (fs : List (Mo Rs × Mo Rs)) (ρ : Rho) : xStar fm fs ρ = sta (fm ρ) fs := by
  unfold xStar bindM sta
  cases fm ρ with
  | none => rfl
  | some p =>
    obtain ⟨r, ρ1⟩ := p
    dsimp only
    rw [rdR_rd]
    cases rdD r ρ1 with
    | none => rfl
    | some d =>
      cases d with
      | dict kvs =>
        dsimp only [Option.map_some]
        unfold optM
        by_cases h : kvs.length ≤ LIM
        · rw [if_pos h, if_pos h]
          dsimp only
          unfold dpa
          cases xPs fs ρ1 with
          | none => rfl
          | some q =>
            dsimp only
            cases keepL q.1 q.2 with
            | none => rfl
            | some z =>
              dsimp only
              cases dispD z.1 with
              | none => rfl
              | some l =>
                dsimp only
                split <;> rfl
        · rw [if_neg h, if_neg h]
      | _ => rfl
def dea (x : Option (List Rs × Rho)) : Option (Rs × Rho) := match x with
  | some (rs, ρ) => match keepL rs ρ with
    | some (ds, ρ1) => match dispD ds with
      | some l => if l.length ≤ 15 then some (.fresh (.dict (mergeD [] l)), ρ1) else none
      | none => none
    | none => none
  | none => none
def deb (x : Option (List PyData × Rho)) : Option (Rs × Rho) := match x with
  | some (ds, ρ1) => match dispD ds with
      | some l => if l.length ≤ 15 then some (.fresh (.dict (mergeD [] l)), ρ1) else none
      | none => none
  | none => none
def dec (x : Option (List (PyData × PyData))) (ρ : Rho) : Option (Rs × Rho) := match x with
  | some l => if l.length ≤ 15 then some (.fresh (.dict (mergeD [] l)), ρ) else none
  | none => none
@[simp] theorem e_dea (rs : List Rs) (ρ : Rho) : dea (some (rs, ρ)) = deb (keepL rs ρ) := (rfl)
@[simp] theorem e_deb (ds : List PyData) (ρ : Rho) : deb (some (ds, ρ)) = dec (dispD ds) ρ := (rfl)
@[simp] theorem e_de1 (a : PyData × PyData) (ρ : Rho) : dec (some [a]) ρ = some (.fresh (.dict (mergeD [] [a])), ρ) := (rfl)
@[simp] theorem e_disp (fs : List (Mo Rs × Mo Rs)) (ρ : Rho) : xDisp fs ρ = dea (xPs fs ρ) := by
  unfold xDisp bindM dea
  cases xPs fs ρ with
  | none => rfl
  | some q =>
    dsimp only
    cases keepL q.1 q.2 with
    | none => rfl
    | some z =>
      dsimp only
      unfold optM
      cases dispD z.1 with
      | none => rfl
      | some l =>
        dsimp only
        split <;> rfl
def ima (x : Option (Rs × Rho)) : Option (Rs × Rho) := match x with
  | some (r, ρ) => match rdD r ρ with
    | some (.dict kvs) => some (.fresh (.list (itemsD kvs)), ρ)
    | _ => none
  | none => none
def imb (x : Option PyData) (ρ : Rho) : Option (Rs × Rho) := match x with
    | some (.dict kvs) => some (.fresh (.list (itemsD kvs)), ρ)
    | _ => none
@[simp] theorem e_ima (r : Rs) (ρ : Rho) : ima (some (r, ρ)) = imb (rdD r ρ) ρ := (rfl)
@[simp] theorem e_imb (kvs : List (PyData × PyData)) (ρ : Rho) : imb (some (.dict kvs)) ρ = some (.fresh (.list (itemsD kvs)), ρ) := (rfl)
@[simp] theorem e_items (f : Mo Rs) (ρ : Rho) : xItems f ρ = ima (f ρ) := by
  unfold xItems bindM ima
  cases f ρ with
  | none => rfl
  | some p =>
    obtain ⟨r, ρ1⟩ := p
    dsimp only
    rw [rdR_rd]
    cases rdD r ρ1 with
    | none => rfl
    | some d => cases d <;> rfl
def ixa (x : Option (Rs × Rho)) (g : Mo Rs) : Option (Rs × Rho) := match x with
  | some (r, ρ) => match rdD r ρ with
    | some (.list _) => match g ρ with
      | some (r2, ρ2) => match rdD r2 ρ2, rdD r ρ2 with
        | some y, some d => (idxD d y).map fun j => (.kept (.int (j : Nat)), ρ2)
        | _, _ => none
      | none => none
    | _ => none
  | none => none
def ixb (r : Rs) (x : Option PyData) (g : Mo Rs) (ρ : Rho) : Option (Rs × Rho) := match x with
    | some (.list _) => match g ρ with
      | some (r2, ρ2) => match rdD r2 ρ2, rdD r ρ2 with
        | some y, some d => (idxD d y).map fun j => (.kept (.int (j : Nat)), ρ2)
        | _, _ => none
      | none => none
    | _ => none
def ixc (r : Rs) (x : Option (Rs × Rho)) : Option (Rs × Rho) := match x with
      | some (r2, ρ2) => match rdD r2 ρ2, rdD r ρ2 with
        | some y, some d => (idxD d y).map fun j => (.kept (.int (j : Nat)), ρ2)
        | _, _ => none
      | none => none
def ixd (y d : Option PyData) (ρ : Rho) : Option (Rs × Rho) := match y, d with
        | some y, some d => (idxD d y).map fun j => (.kept (.int (j : Nat)), ρ)
        | _, _ => none
@[simp] theorem e_ixa (r : Rs) (ρ : Rho) (g : Mo Rs) : ixa (some (r, ρ)) g = ixb r (rdD r ρ) g ρ := (rfl)
@[simp] theorem e_ixb (r : Rs) (l : List PyData) (g : Mo Rs) (ρ : Rho) : ixb r (some (.list l)) g ρ = ixc r (g ρ) := (rfl)
@[simp] theorem e_ixc (r r2 : Rs) (ρ : Rho) : ixc r (some (r2, ρ)) = ixd (rdD r2 ρ) (rdD r ρ) ρ := (rfl)
@[simp] theorem e_ixd (y d : PyData) (ρ : Rho) : ixd (some y) (some d) ρ = (idxD d y).map fun j => (.kept (.int (j : Nat)), ρ) := (rfl)
@[simp] theorem e_idx (f g : Mo Rs) (ρ : Rho) : xIdx f g ρ = ixa (f ρ) g := by
  unfold xIdx bindM ixa
  cases f ρ with
  | none => rfl
  | some p =>
    obtain ⟨r, ρ1⟩ := p
    dsimp only
    rw [rdR_rd]
    cases rdD r ρ1 with
    | none => rfl
    | some d =>
      cases d with
      | list l =>
        dsimp only [Option.map_some]
        rw [if_pos (by rfl)]
        cases g ρ1 with
        | none => rfl
        | some q =>
          obtain ⟨r2, ρ2⟩ := q
          dsimp only
          rw [rdR_rd]
          cases rdD r2 ρ2 with
          | none => rfl
          | some y =>
            dsimp only [Option.map_some]
            rw [rdR_rd]
            cases rdD r ρ2 with
            | none => rfl
            | some d2 =>
              dsimp only [Option.map_some]
              unfold optM
              cases idxD d2 y <;> rfl
      | _ => rfl
def ika (x : Option (Rs × Rho)) : Option (List PyData × Rho) := match x with
  | some (r, ρ) => match keepR r ρ with
    | some (d, ρ1) => (seqOf d).map fun l => (l, ρ1)
    | none => none
  | none => none
def ikb (x : Option (PyData × Rho)) : Option (List PyData × Rho) := match x with
    | some (d, ρ1) => (seqOf d).map fun l => (l, ρ1)
    | none => none
@[simp] theorem e_ika (r : Rs) (ρ : Rho) : ika (some (r, ρ)) = ikb (keepR r ρ) := (rfl)
@[simp] theorem e_ikbL (l : List PyData) (ρ : Rho) : ikb (some (.list l, ρ)) = some (l, ρ) := (rfl)
@[simp] theorem e_ikbT (l : List PyData) (ρ : Rho) : ikb (some (.tuple l, ρ)) = some (l, ρ) := (rfl)
@[simp] theorem e_iK (f : Mo Rs) (ρ : Rho) : iK f ρ = ika (f ρ) := by
  unfold iK bindM ika
  cases f ρ with
  | none => rfl
  | some p =>
    obtain ⟨r, ρ1⟩ := p
    dsimp only
    cases keepR r ρ1 with
    | none => rfl
    | some q =>
      dsimp only
      unfold optM
      cases seqOf q.1 <;> rfl
/-! ### blocks -/
theorem lc2_mapT {α : Type} {vs vs1 : List Nat} {g : G1} {t : Mo Bool} {fi1 : Mo (List PyData)} {g1 : G1} {t1 : Mo Bool} {fe : Mo Rs} {ρ0 : Rho} {e : α → PyData} {f : α → List PyData} : ∀ (l : List α) (acc : List PyData), acc.length + (l.flatMap f).length ≤ LIM →
    (∀ a ∈ l, ∃ ρ1 ρ2 ds1 ρ3 ρ4, g.run (e a) ρ0 = some ((), ρ1) ∧ t ρ1 = some (true, ρ2) ∧ fi1 ρ2 = some (ds1, ρ3) ∧ (∀ acc, acc.length + (f a).length ≤ LIM → lcM vs1 g1 t1 fe ds1 acc (wipeE ρ3 vs1) = some (acc ++ f a, ρ4)) ∧ wipeE (restE ρ3 ρ4 vs1) vs = ρ0) →
    lc2M vs vs1 g t fi1 g1 t1 fe (l.map e) acc ρ0 = some (acc ++ l.flatMap f, ρ0)
  | [], acc, _, _ => by simp [lc2M, retM]
  | a :: l, acc, hl, h => by
    obtain ⟨ρ1, ρ2, ds1, ρ3, ρ4, e1, e2, e3, e4, e5⟩ := h a List.mem_cons_self
    rw [List.flatMap_cons, List.length_append] at hl
    rw [List.map_cons]
    unfold lc2M
    rw [e1]
    dsimp only
    rw [e2]
    dsimp only
    rw [e3]
    dsimp only
    rw [e4 acc (by omega)]
    dsimp only
    rw [e5, lc2_mapT l (acc ++ f a) (by rw [List.length_append]; omega) fun x hx => h x (List.mem_cons_of_mem _ hx), List.flatMap_cons, List.append_assoc]
theorem lc2_evalT {α : Type} {vs vs1 : List Nat} {fi : Mo (List PyData)} {g : G1} {t : Mo Bool} {fi1 : Mo (List PyData)} {g1 : G1} {t1 : Mo Bool} {fe : Mo Rs} {ρ ρ1 : Rho} {l : List α} {e : α → PyData} (f : α → List PyData) (hi : fi ρ = some (l.map e, ρ1)) (hl : (l.flatMap f).length ≤ LIM)
    (h : ∀ a ∈ l, ∃ ρ2 ρ3 ds1 ρ4 ρ5, g.run (e a) (wipeE ρ1 vs) = some ((), ρ2) ∧ t ρ2 = some (true, ρ3) ∧ fi1 ρ3 = some (ds1, ρ4) ∧ (∀ acc, acc.length + (f a).length ≤ LIM → lcM vs1 g1 t1 fe ds1 acc (wipeE ρ4 vs1) = some (acc ++ f a, ρ5)) ∧ wipeE (restE ρ4 ρ5 vs1) vs = wipeE ρ1 vs) :
    xLc2 vs vs1 fi g t fi1 g1 t1 fe ρ = some (.fresh (.list (l.flatMap f)), restE ρ1 (wipeE ρ1 vs) vs) := by
  unfold xLc2
  rw [hi]
  dsimp only
  rw [lc2_mapT l [] (by simpa using hl) h]
  rfl
theorem dc_mapT {α : Type} {vs : List Nat} {g : G1} {t : Mo Bool} {fk fv : Mo Rs} {ρ0 : Rho} {e : α → PyData} {k : α → Str} {v : α → PyData} : ∀ (l : List α) (acc : List (PyData × PyData)), acc.length + l.length ≤ LIM →
    (∀ a ∈ l, ∃ ρ1 ρ2 ρ3, g.run (e a) ρ0 = some ((), ρ1) ∧ t ρ1 = some (true, ρ2) ∧ kvM fk fv ρ2 = some ((.str (k a), v a), ρ3) ∧ wipeE ρ3 vs = ρ0) →
    dcM vs g t fk fv (l.map e) acc ρ0 = some (l.foldl (fun d a => putD d (.str (k a)) (v a)) acc, ρ0)
  | [], acc, _, _ => by simp [dcM, retM]
  | a :: l, acc, hl, h => by
    obtain ⟨ρ1, ρ2, ρ3, e1, e2, e3, e4⟩ := h a List.mem_cons_self
    rw [List.length_cons] at hl
    rw [List.map_cons]
    unfold dcM
    rw [e1]
    dsimp only
    rw [e2]
    dsimp only
    rw [e3]
    dsimp only
    have hp := putD_len acc (.str (k a)) (v a)
    show (if _ then _ else _) = _
    rw [if_pos (by omega), e4, dc_mapT l _ (by omega) fun x hx => h x (List.mem_cons_of_mem _ hx)]
    rfl
theorem dc_evalT {α : Type} {vs : List Nat} {fi : Mo (List PyData)} {g : G1} {t : Mo Bool} {fk fv : Mo Rs} {ρ ρ1 : Rho} {l : List α} {e : α → PyData} (k : α → Str) (v : α → PyData) (hi : fi ρ = some (l.map e, ρ1)) (hl : l.length ≤ LIM)
    (h : ∀ a ∈ l, ∃ ρ2 ρ3 ρ4, g.run (e a) (wipeE ρ1 vs) = some ((), ρ2) ∧ t ρ2 = some (true, ρ3) ∧ kvM fk fv ρ3 = some ((.str (k a), v a), ρ4) ∧ wipeE ρ4 vs = wipeE ρ1 vs) :
    xDc vs fi g t fk fv ρ = some (.fresh (.dict (l.foldl (fun d a => putD d (.str (k a)) (v a)) [])), restE ρ1 (wipeE ρ1 vs) vs) := by
  unfold xDc
  rw [hi]
  dsimp only
  rw [dc_mapT l [] (by simpa using hl) h]
end PyI

/-! PyI, part Y: names from a list. -/
namespace PyI
open PySem PySem.Spec L2
section
variable {X : Cx} {es : List Expr} {gs : G2} {pos : Pos}
theorem gd_lst {k : Nat} (n : Nat) (hc : X.calm = true) (h : GsD X es gs) (hl : ∀ ds ρ x, gs.run ds ρ = some x → ds.length = n) (hn : (assignEach es X.env).length = n := by rfl) (hst : (assignEach es X.env).findIdx? (·.1) = none := by rfl) : GD X (.Tuple es k pos) (gL gs) := PG.to (pg_lst hc h hn hst) fun v σ H Q h => by
  obtain ⟨S, ρ, d, ρ', G, r, e, q⟩ := h
  cases d with
  | list ds =>
    cases r with
    | lst hs h1 rl => exact ⟨_, _, rfl, SqL.of h1, by rw [rl.len]; exact hl ds ρ _ e, S, ρ, ds, ρ', G, rl, e, q⟩
  | _ => cases e
end
@[simp] theorem e_gL (g : G2) (l : List PyData) (ρ : Rho) : (gL g).run (.list l) ρ = g.run l ρ := (rfl)
end PyI

/-! PyI, part Z: comprehensions over a row of anything. -/
namespace PyI
open PySem PySem.Spec L2
theorem lc_mapT {α : Type} {vs : List Nat} {g : G1} {t : Mo Bool} {fe : Mo Rs} {ρ0 : Rho} {e : α → PyData} {p : α → Bool} {f : α → PyData} : ∀ (l : List α) (acc : List PyData), acc.length + l.length ≤ LIM →
    (∀ a ∈ l, ∃ ρ1, g.run (e a) ρ0 = some ((), ρ1) ∧ ∃ ρ2, t ρ1 = some (p a, ρ2) ∧ (p a = false → wipeE ρ2 vs = ρ0) ∧ (p a = true → ∃ r ρ3 ρ4, fe ρ2 = some (r, ρ3) ∧ keepR r ρ3 = some (f a, ρ4) ∧ wipeE ρ4 vs = ρ0)) →
    lcM vs g t fe (l.map e) acc ρ0 = some (acc ++ (l.filter p).map f, ρ0)
  | [], acc, _, _ => by simp [lcM, retM]
  | a :: l, acc, hl, h => by
    obtain ⟨ρ1, e1, ρ2, e2, h1, h2⟩ := h a List.mem_cons_self
    have hl' : acc.length + l.length + 1 ≤ LIM := by rw [List.length_cons] at hl; omega
    rw [List.map_cons]
    unfold lcM
    rw [e1]
    dsimp only
    rw [e2]
    cases hp : p a with
    | false =>
      dsimp only
      rw [h1 hp, lc_mapT l acc (by omega) fun x hx => h x (List.mem_cons_of_mem _ hx), List.filter_cons_of_neg (by simp [hp])]
    | true =>
      obtain ⟨r, ρ3, ρ4, e3, e4, e5⟩ := h2 hp
      dsimp only
      have eb : bindM fe keepR ρ2 = some (f a, ρ4) := by unfold bindM; rw [e3]; exact e4
      rw [eb]
      dsimp only
      rw [if_pos (by omega), e5, lc_mapT l (acc ++ [f a]) (by rw [List.length_append, List.length_singleton]; omega) fun x hx => h x (List.mem_cons_of_mem _ hx), List.filter_cons_of_pos hp]
      simp
theorem lc_evalT {α : Type} {vs : List Nat} {fi : Mo (List PyData)} {g : G1} {t : Mo Bool} {fe : Mo Rs} {ρ ρ1 : Rho} {l : List α} {e : α → PyData} (p : α → Bool) (f : α → PyData) (hi : fi ρ = some (l.map e, ρ1)) (hl : l.length ≤ LIM)
    (h : ∀ a ∈ l, ∃ ρ2, g.run (e a) (wipeE ρ1 vs) = some ((), ρ2) ∧ ∃ ρ3, t ρ2 = some (p a, ρ3) ∧ (p a = false → wipeE ρ3 vs = wipeE ρ1 vs) ∧ (p a = true → ∃ r ρ4 ρ5, fe ρ3 = some (r, ρ4) ∧ keepR r ρ4 = some (f a, ρ5) ∧ wipeE ρ5 vs = wipeE ρ1 vs)) :
    xLc vs fi g t fe ρ = some (.fresh (.list ((l.filter p).map f)), restE ρ1 (wipeE ρ1 vs) vs) := by
  unfold xLc
  rw [hi]
  dsimp only
  rw [lc_mapT l [] (by simpa using hl) h]
  rfl
/-! ### each text once -/
theorem add1_mem {l : List Str} {k x : Str} : x ∈ SetT.add1 l k ↔ x ∈ l ∨ x = k := by
  unfold SetT.add1
  split
  · rename_i h
    exact ⟨.inl, fun z => z.elim id fun y => y ▸ h⟩
  · simp
theorem dedup_mem_from (x : Str) : ∀ (xs l : List Str), x ∈ xs.foldl SetT.add1 l ↔ x ∈ l ∨ x ∈ xs
  | [], l => by simp
  | k :: xs, l => by
    rw [List.foldl_cons, dedup_mem_from x xs, add1_mem, List.mem_cons]
    exact ⟨fun h => h.elim (fun h => h.elim .inl fun h => .inr (.inl h)) fun h => .inr (.inr h), fun h => h.elim (fun h => .inl (.inl h)) fun h => h.elim (fun h => .inl (.inr h)) .inr⟩
theorem dedup_mem {x : Str} {xs : List Str} : x ∈ dedupS xs ↔ x ∈ xs := by
  unfold dedupS
  rw [dedup_mem_from]
  simp
theorem sod_mem {x : Str} {xs : List Str} : x ∈ sortS (dedupS xs) ↔ x ∈ xs := by
  rw [(sortS_perm _).mem_iff, dedup_mem]
theorem add1_nodup {l : List Str} {k : Str} (h : l.Nodup) : (SetT.add1 l k).Nodup := by
  unfold SetT.add1
  split
  · exact h
  · rename_i hk
    exact List.nodup_append.mpr ⟨h, by simp, fun x hx y hy z => by rw [List.mem_singleton] at hy; subst hy; subst z; exact hk hx⟩
theorem dedup_nodup_from : ∀ (xs l : List Str), l.Nodup → (xs.foldl SetT.add1 l).Nodup
  | [], _, h => h
  | _ :: xs, _, h => dedup_nodup_from xs _ (add1_nodup h)
theorem dedup_nodup (xs : List Str) : (dedupS xs).Nodup := dedup_nodup_from xs [] List.nodup_nil
theorem add1_len (l : List Str) (k : Str) : (SetT.add1 l k).length ≤ l.length + 1 := by
  unfold SetT.add1
  split <;> simp
theorem dedup_len_from : ∀ (xs l : List Str), (xs.foldl SetT.add1 l).length ≤ l.length + xs.length
  | [], l => Nat.le_refl _
  | x :: xs, l => by
    have h1 := dedup_len_from xs (SetT.add1 l x)
    have h2 := add1_len l x
    rw [List.length_cons]
    show (xs.foldl SetT.add1 (SetT.add1 l x)).length ≤ _
    omega
theorem dedup_len (xs : List Str) : (dedupS xs).length ≤ xs.length := by
  have := dedup_len_from xs []
  rw [List.length_nil, Nat.zero_add] at this
  exact this
theorem selD_vals (kvs : List (PyData × PyData)) : selD .vals kvs = kvs.map (·.2) := rfl
theorem selD_keys (kvs : List (PyData × PyData)) : selD .keys kvs = kvs.map (·.1) := rfl
end PyI

namespace PyK79
open PySem PySem.Spec L2 PyI
def FUEL : Nat := 200
structure Fns where
  words_of : Fn
  denied : Fn
  spread : Fn
  ring : Fn
  is_row : Fn
  is_path : Fn
  judge_spread : Fn
  most_apart : Fn
  follows : Fn
  law_next : Fn
  law_same : Fn
  law_words_drawn : Fn
  law_most : Fn
  law : Fn
def m_words_of (R : Fns) : Mo Fl := (sRet (xSoSet (xLc2 [1, 2, 3, 4] [4] (iDict .vals 0) (gT (gsC (gN 1) (gsC (gN 2) (gsC (gN 3) gsN)))) tYesM (iK (xTup (aC (xV 1) (aC (xV 2) aN)))) (gN 4) tYesM (xV 4))))
def m_denied (R : Fns) : Mo Fl := (sRet (xTup (aC (x2i (xV 0) (xC (.int 1)) opIx) (aC (x2i (xV 0) (xC (.int 0)) opIx) (aC (x2 (x1 opNeg (xC (.int 1))) (x2i (xV 0) (xC (.int 2)) opIx) opSub) aN)))))
def m_spread (R : Fns) : Mo Fl := (sSeq (sSet 1 (xCall R.words_of (aC (xV 0) aN)))
    (sSeq (sSet 2 (xDc [7] (iS (xV 1)) (gN 7) tYesM (xV 7) (xC (.int 0))))
    (sSeq (sSet 3 xDict0)
    (sSeq (sFor (iR1 (x2 (xB oLen (aC (xV 1) aN)) (xC (.int 1)) opAdd)) (gN 4) (sSeq (sSet 5 (xC .none))
    (sSeq (sFor (iS (xB oSorted (aC (xV 0) aN))) (gN 6) (sSeq (sUnp (x2i (xV 0) (xV 6) opIx) (gT (gsC (gN 8) (gsC (gN 9) (gsC (gN 10) gsN)))))
    (sIf (tV (x2 (x2i (xV 2) (xV 8) opIx) (x2 (x2i (xV 2) (xV 9) opIx) (xV 10) opAdd) opGt)) (sSeq (sPut 2 (xV 8) (x2 (x2i (xV 2) (xV 9) opIx) (xV 10) opAdd))
    (sSeq (sPut 3 (xV 8) (xV 6))
    (sSet 5 (xV 8)))) sPass)))
    (sIf (tV (x2 (xV 5) (xC .none) opIsN)) (sRet (xTup (aC (xC (.str "row")) (aC (xB oTuple (aC (xLc [7] (iS (xV 1)) (gN 7) tYesM (xTup (aC (xV 7) (aC (x2i (xV 2) (xV 7) opIx) aN)))) aN)) aN)))) sPass))))
    (sRet (xTup (aC (xC (.str "ring")) (aC (xCall R.ring (aC (xV 0) (aC (xV 3) (aC (xV 5) aN)))) aN))))))))
def m_ring (R : Fns) : Mo Fl := (sSeq (sSet 3 (xLst aN))
    (sSeq (whileM FUEL (tV (x2 (xV 2) (xV 3) opNotInA)) (sSeq (sDrop (xMut "list" 3 mAppend (aC (xV 2) aN)))
    (sSet 2 (x2i (x2i (xV 0) (x2i (xV 1) (xV 2) opIx) opIx) (xC (.int 1)) opIx))))
    (sRet (xB oTuple (aC (xLc [4] (iS (xSl (xV 3) (oS (xIdx (xV 3) (xV 2))) oN)) (gN 4) tYesM (x2i (xV 1) (xV 4) opIx)) aN)))))
def m_is_row (R : Fns) : Mo Fl := (sSeq (sIf (tOrM (tNotM (tV (xIsi "tuple" (xV 1)))) (tV (x2 (xC (.bool false)) (xLc [9] (iS (xV 1)) (gN 9) tYesM (xAnd (xIsi "tuple" (xV 9)) (x2 (xB oLen (aC (xV 9) aN)) (xC (.int 2)) opEq))) opInA))) (sRet (xC (.bool false))) sPass)
    (sSeq (sIf (tV (x2 (xLc [3, 4] (iS (xV 1)) (gT (gsC (gN 3) (gsC (gN 4) gsN))) tYesM (xV 3)) (xCall R.words_of (aC (xV 0) aN)) opNe)) (sRet (xC (.bool false))) sPass)
    (sSeq (sIf (tV (x2 (xC (.bool false)) (xLc [4, 5] (iS (xV 1)) (gT (gsC (gN 4) (gsC (gN 5) gsN))) tYesM (xAnd (xIsi "int" (xV 5)) (xNot (xIsi "bool" (xV 5))))) opInA)) (sRet (xC (.bool false))) sPass)
    (sSeq (sSet 2 (xB oDictP (aC (xV 1) aN)))
    (sRet (x2 (xC (.bool false)) (xLc [6, 7, 8] (iDict .vals 0) (gT (gsC (gN 6) (gsC (gN 7) (gsC (gN 8) gsN)))) tYesM (x2 (x2 (x2i (xV 2) (xV 6) opIx) (x2i (xV 2) (xV 7) opIx) opSub) (xV 8) opLe)) opNotInA))))))
def m_is_path (R : Fns) : Mo Fl := (sSeq (sIf (tOrM (tNotM (tV (xIsi "tuple" (xV 1)))) (tV (x2 (xC (.bool false)) (xLc [5] (iS (xV 1)) (gN 5) tYesM (xAnd (xIsi "str" (xV 5)) (x2 (xV 5) (xV 0) opInA))) opInA))) (sRet (xC .none)) sPass)
    (sSeq (sSet 4 (xC (.int 0)))
    (sSeq (sFor (iS (xV 1)) (gN 5) (sSeq (sUnp (x2i (xV 0) (xV 5) opIx) (gT (gsC (gN 6) (gsC (gN 7) (gsC (gN 8) gsN)))))
    (sSeq (sIf (tV (x2 (xV 6) (xV 2) opNe)) (sRet (xC .none)) sPass)
    (sSeq (sSet 2 (xV 7))
    (sAug 4 (fun i j => i + j) (xV 8))))))
    (sRet (xIf (tV (x2 (xV 2) (xV 3) opEq)) (xV 4) (xC .none))))))
def m_judge_spread (R : Fns) : Mo Fl := (sSeq (sIf (tOrM (tNotM (tV (xIsi "tuple" (xV 1)))) (tV (x2 (xB oLen (aC (xV 1) aN)) (xC (.int 2)) opNe))) (sRet (xC (.bool false))) sPass)
    (sSeq (sIf (tV (x2 (x2i (xV 1) (xC (.int 0)) opIx) (xC (.str "row")) opEq)) (sRet (xCall R.is_row (aC (xV 0) (aC (x2i (xV 1) (xC (.int 1)) opIx) aN)))) sPass)
    (sSeq (sIf (tOrM (tV (x2 (x2i (xV 1) (xC (.int 0)) opIx) (xC (.str "ring")) opNe)) (tOrM (tNotM (tV (xIsi "tuple" (x2i (xV 1) (xC (.int 1)) opIx)))) (tV (x2 (xB oLen (aC (x2i (xV 1) (xC (.int 1)) opIx) aN)) (xC (.int 0)) opEq)))) (sRet (xC (.bool false))) sPass)
    (sSeq (sIf (tOrM (tNotM (tV (xIsi "str" (x2i (x2i (xV 1) (xC (.int 1)) opIx) (xC (.int 0)) opIx)))) (tV (x2 (x2i (x2i (xV 1) (xC (.int 1)) opIx) (xC (.int 0)) opIx) (xV 0) opNotInA))) (sRet (xC (.bool false))) sPass)
    (sSeq (sSet 2 (x2i (x2i (xV 0) (x2i (x2i (xV 1) (xC (.int 1)) opIx) (xC (.int 0)) opIx) opIx) (xC (.int 0)) opIx))
    (sSeq (sSet 3 (xCall R.is_path (aC (xV 0) (aC (x2i (xV 1) (xC (.int 1)) opIx) (aC (xV 2) (aC (xV 2) aN))))))
    (sRet (xAnd (x2 (xV 3) (xC .none) opNotN) (x2 (xV 3) (xC (.int 0)) opLt)))))))))
def m_most_apart (R : Fns) : Mo Fl := (sSeq (sSet 3 (xCall R.spread (aC (xStar (xV 0) [((xC (.str "")), (xTup (aC (xV 1) (aC (xV 1) (aC (xC (.int 0)) aN))))), ((xC (.str " ")), (xTup (aC (xV 2) (aC (xV 2) (aC (xC (.int 0)) aN)))))]) aN)))
    (sSeq (sIf (tV (x2 (x2i (xV 3) (xC (.int 0)) opIx) (xC (.str "ring")) opEq)) (sRet (xV 3)) sPass)
    (sSeq (sSet 4 (xDisp [((xV 1), (xTup (aC (xC (.int 0)) (aC (xTup aN) aN))))]))
    (sSeq (sFor (iS (xCall R.words_of (aC (xV 0) aN))) (gN 5) (sFor (iS (xB oSorted (aC (xV 0) aN))) (gN 9) (sSeq (sUnp (x2i (xV 0) (xV 9) opIx) (gT (gsC (gN 10) (gsC (gN 11) (gsC (gN 12) gsN)))))
    (sIf (tAndM (tV (x2 (xV 10) (xV 4) opInA)) (tOrM (tV (x2 (xV 11) (xV 4) opNotInA)) (tV (x2 (x2 (x2i (x2i (xV 4) (xV 10) opIx) (xC (.int 0)) opIx) (xV 12) opAdd) (x2i (x2i (xV 4) (xV 11) opIx) (xC (.int 0)) opIx) opLt)))) (sPut 4 (xV 11) (xTup (aC (x2 (x2i (x2i (xV 4) (xV 10) opIx) (xC (.int 0)) opIx) (xV 12) opAdd) (aC (x2 (x2i (x2i (xV 4) (xV 10) opIx) (xC (.int 1)) opIx) (xTup (aC (xV 9) aN)) opAdd) aN)))) sPass))))
    (sSeq (sIf (tV (x2 (xV 2) (xV 4) opNotInA)) (sRet (xTup (aC (xC (.str "any")) aN))) sPass)
    (sSeq (sUnp (x2i (xV 4) (xV 2) opIx) (gT (gsC (gN 6) (gsC (gN 7) gsN))))
    (sSeq (sSet 8 (xCall R.spread (aC (xStar (xV 0) [((xC (.str "")), (xTup (aC (xV 2) (aC (xV 1) (aC (x1 opNeg (xV 6)) aN)))))]) aN)))
    (sRet (xTup (aC (xC (.str "most")) (aC (xV 6) (aC (xV 7) (aC (x2i (xV 8) (xC (.int 1)) opIx) aN)))))))))))))
def m_follows (R : Fns) : Mo Fl := (sRet (xCall R.spread (aC (xStar (xV 0) [((xC (.str "not")), (xCall R.denied (aC (xV 1) aN)))]) aN)))
def m_law_next (R : Fns) : Mo Fl := (sSeq (sIf (tAndM (tV (x2 (x2i (xV 0) (xC (.int 2)) opIx) (xC (.int 0)) opEq)) (tV (x2 (x2i (xV 0) (xC (.int 1)) opIx) (xB oLen (aC (x2i (xV 0) (xC (.int 0)) opIx) aN)) opLt))) (sSeq (sSet 2 (x2i (x2i (xV 0) (xC (.int 0)) opIx) (x2i (xV 0) (xC (.int 1)) opIx) opIx))
    (sSeq (sAugS 0 (fun i j => i + j) (xC (.int 1)) (xC (.int 1)))
    (sIf (tV (x2 (xV 2) (x2 (xC (.int 10)) (xC (.int 18)) opPow) opGe)) (sPut 0 (xC (.int 2)) (xV 2)) (sPut 0 (xC (.int 3)) (x2 (xB oInt (aC (x2 (x2 (x2 (x2i (xV 0) (xC (.int 3)) opIx) (xC (.int 48271)) opMul) (x2 (xB oInt (aC (xV 2) aN)) (xC (.int 2147483647)) opMod) opAdd) (xC (.int 7)) opAdd) aN)) (xC (.int 2147483647)) opMod))))) sPass)
    (sSeq (sIf (tV (x2 (x2i (xV 0) (xC (.int 2)) opIx) (xC (.int 0)) opGt)) (sSeq (sSet 3 (x2 (xB oInt (aC (x2i (xV 0) (xC (.int 2)) opIx) aN)) (xV 1) opMod))
    (sSeq (sPut 0 (xC (.int 2)) (x2 (x2i (xV 0) (xC (.int 2)) opIx) (xV 1) opFdiv))
    (sRet (xV 3)))) sPass)
    (sSeq (sPut 0 (xC (.int 3)) (x2 (xB oInt (aC (x2 (x2 (x2i (xV 0) (xC (.int 3)) opIx) (xC (.int 69621)) opMul) (xC (.int 12345)) opAdd) aN)) (xC (.int 2147483647)) opMod))
    (sRet (x2 (xB oInt (aC (x2 (x2i (xV 0) (xC (.int 3)) opIx) (xC (.int 7)) opFdiv) aN)) (xV 1) opMod)))))
def m_law_same (R : Fns) : Mo Fl := (sSeq (sIf (tV (x2 (xV 1) (xC .none) opIsN)) (sRet (x2 (xV 0) (xC .none) opIsN)) sPass)
    (sSeq (sIf (tV (xIsi "bool" (xV 1))) (sRet (xAnd (xIsi "bool" (xV 0)) (x2 (xV 0) (xV 1) opEq))) sPass)
    (sSeq (sIf (tV (xIsi "int" (xV 1))) (sRet (xAnd (xIsi "int" (xV 0)) (xAnd (xNot (xIsi "bool" (xV 0))) (x2 (xV 0) (xV 1) opEq)))) sPass)
    (sSeq (sIf (tV (xIsi "str" (xV 1))) (sRet (xAnd (xIsi "str" (xV 0)) (x2 (xV 0) (xV 1) opEq))) sPass)
    (sSeq (sIf (tAndM (tV (xIsi "tuple" (xV 1))) (tNotM (tV (xIsi "tuple" (xV 0))))) (sRet (xC (.bool false))) sPass)
    (sSeq (sIf (tAndM (tV (xIsi "list" (xV 1))) (tNotM (tV (xIsi "list" (xV 0))))) (sRet (xC (.bool false))) sPass)
    (sSeq (sIf (tV (x2 (xB oLen (aC (xV 0) aN)) (xB oLen (aC (xV 1) aN)) opNe)) (sRet (xC (.bool false))) sPass)
    (sSeq (sFor (iR1 (xB oLen (aC (xV 1) aN))) (gN 2) (sIf (tNotM (tV (xCall R.law_same (aC (x2i (xV 0) (xV 2) opIx) (aC (x2i (xV 1) (xV 2) opIx) aN))))) (sRet (xC (.bool false))) sPass))
    (sRet (xC (.bool true)))))))))))
def m_law_words_drawn (R : Fns) : Mo Fl := (sSeq (sSet 2 (xLst aN))
    (sSeq (sFor (iR1 (xV 1)) (gN 3) (sSeq (sSet 4 (x2 (x2i (xC (.str "abcdefghijklmnopqrstuvwxyz")) (xCallL R.law_next (aC (xV 0) (aC (xC (.int 26)) aN))) opIx) (x2i (xLst (aC (xC (.str "")) (aC (xC (.str "_1")) (aC (xC (.str "x9")) (aC (xC (.str "b")) aN))))) (xCallL R.law_next (aC (xV 0) (aC (xC (.int 4)) aN))) opIx) opAdd))
    (sSeq (whileM FUEL (tV (x2 (xV 4) (xV 2) opInA)) (sSet 4 (x2 (xV 4) (xC (.str "y")) opAdd)))
    (sDrop (xMut "list" 2 mAppend (aC (xV 4) aN))))))
    (sRet (xV 2))))
def m_law_most (R : Fns) : Mo Fl := (sSeq (sSet 3 (xCall R.most_apart (aC (xB oDictP (aC (xV 0) aN)) (aC (xV 1) (aC (xV 2) aN)))))
    (sRet (xIf (tV (x2 (x2i (xV 3) (xC (.int 0)) opIx) (xC (.str "most")) opEq)) (x2i (xV 3) (xC (.int 1)) opIx) (xC .none))))
def m_law (R : Fns) : Mo Fl := (sSeq (sSet 1 (xLst (aC (xScr 0) (aC (xC (.int 0)) (aC (xC (.int 0)) (aC (xC (.int 1)) aN))))))
    (sSeq (sSet 2 (xCallL R.law_words_drawn (aC (xV 1) (aC (x2 (xC (.int 3)) (xCallL R.law_next (aC (xV 1) (aC (xC (.int 3)) aN))) opAdd) aN))))
    (sSeq (sSet 3 xDict0)
    (sSeq (sFor (iR1 (x2 (xC (.int 2)) (xCallL R.law_next (aC (xV 1) (aC (xC (.int 8)) aN))) opAdd)) (gN 4) (sSeq (sPar 6 7 (aC (x2i (xV 2) (xCallL R.law_next (aC (xV 1) (aC (xB oLen (aC (xV 2) aN)) aN))) opIx) (aC (x2i (xV 2) (xCallL R.law_next (aC (xV 1) (aC (xB oLen (aC (xV 2) aN)) aN))) opIx) aN)))
    (sIf (tV (x2 (xV 6) (xV 7) opNe)) (sPut 3 (x2 (xC (.str "n")) (xB oStr (aC (xV 4) aN)) opAdd) (xTup (aC (xV 6) (aC (xV 7) (aC (x2 (xCallL R.law_next (aC (xV 1) (aC (xC (.int 12)) aN))) (xC (.int 3)) opSub) aN))))) sPass)))
    (sSeq (sSet 5 (xCall R.spread (aC (xB oDictP (aC (xV 3) aN)) aN)))
    (sSeq (sUnp (xLc [4] (iR1 (xC (.int 3))) (gN 4) tYesM (x2i (xV 2) (xCallL R.law_next (aC (xV 1) (aC (xB oLen (aC (xV 2) aN)) aN))) opIx)) (gL (gsC (gN 6) (gsC (gN 7) (gsC (gN 8) gsN)))))
    (sSeq (sSet 9 (xTup (aC (xV 6) (aC (xV 7) (aC (x2 (xCallL R.law_next (aC (xV 1) (aC (xC (.int 12)) aN))) (xC (.int 3)) opSub) aN)))))
    (sSeq (sIf (tV (x2 (x2i (xV 5) (xC (.int 0)) opIx) (xC (.str "ring")) opEq)) (sRet (xAnd (x2 (x2i (xCall R.most_apart (aC (xB oDictP (aC (xV 3) aN)) (aC (xV 6) (aC (xV 7) aN)))) (xC (.int 0)) opIx) (xC (.str "ring")) opEq) (x2 (x2i (xCall R.follows (aC (xB oDictP (aC (xV 3) aN)) (aC (xV 9) aN))) (xC (.int 0)) opIx) (xC (.str "ring")) opEq))) sPass)
    (sSeq (sSet 10 (xTup (aC (xC (.str "row")) (aC (xB oTuple (aC (xLc [21, 22] (iS (x2i (xV 5) (xC (.int 1)) opIx)) (gT (gsC (gN 21) (gsC (gN 22) gsN))) tYesM (xTup (aC (xV 21) (aC (x2 (xV 22) (xC (.int 7)) opAdd) aN)))) aN)) aN))))
    (sSeq (sIf (tV (x2 (xCall R.judge_spread (aC (xB oDictP (aC (xV 3) aN)) (aC (xV 10) aN))) (xC (.bool true)) opNotB)) (sRet (xC (.bool false))) sPass)
    (sSeq (sIf (tOrM (tV (x2 (xV 6) (xV 7) opEq)) (tOrM (tV (x2 (xV 7) (xV 8) opEq)) (tV (x2 (xV 6) (xV 8) opEq)))) (sRet (xC (.bool true))) sPass)
    (sSeq (sSet 11 (xLst (aC (xCall R.law_most (aC (xV 3) (aC (xV 6) (aC (xV 7) aN)))) (aC (xCall R.law_most (aC (xV 3) (aC (xV 7) (aC (xV 8) aN)))) (aC (xCall R.law_most (aC (xV 3) (aC (xV 6) (aC (xV 8) aN)))) aN)))))
    (sSeq (sIf (tAndM (tV (x2 (xC .none) (xSl (xV 11) oN (oS (xC (.int 2)))) opNotInA)) (tOrM (tV (x2 (x2i (xV 11) (xC (.int 2)) opIx) (xC .none) opIsN)) (tV (x2 (x2i (xV 11) (xC (.int 2)) opIx) (x2 (x2i (xV 11) (xC (.int 0)) opIx) (x2i (xV 11) (xC (.int 1)) opIx) opAdd) opGt)))) (sRet (xC (.bool false))) sPass)
    (sSeq (sSet 12 (xAnd (x2 (x2i (xV 11) (xC (.int 0)) opIx) (xC .none) opNotN) (x2 (x2i (xV 11) (xC (.int 0)) opIx) (x2i (xV 9) (xC (.int 2)) opIx) opLe)))
    (sSeq (sIf (tV (x2 (x2 (x2i (xCall R.follows (aC (xB oDictP (aC (xV 3) aN)) (aC (xV 9) aN))) (xC (.int 0)) opIx) (xC (.str "ring")) opEq) (xV 12) opNe)) (sRet (xC (.bool false))) sPass)
    (sSeq (sSet 13 (xB oDictP (aC (x2 (xItems (xV 3)) (xLst (aC (xTup (aC (xC (.str "zz")) (aC (xV 9) aN))) aN)) opAdd) aN)))
    (sSeq (sIf (tAndM (tV (xV 12)) (tV (x2 (xLst (aC (xCall R.law_most (aC (xV 13) (aC (xV 6) (aC (xV 7) aN)))) (aC (xCall R.law_most (aC (xV 13) (aC (xV 7) (aC (xV 8) aN)))) (aC (xCall R.law_most (aC (xV 13) (aC (xV 6) (aC (xV 8) aN)))) aN)))) (xV 11) opNe))) (sRet (xC (.bool false))) sPass)
    (sSeq (sIf (tV (x2 (x2i (xCall R.spread (aC (xB oDictP (aC (xV 13) aN)) aN)) (xC (.int 0)) opIx) (xC (.str "row")) opEq)) (sFor (iS (xLst (aC (xTup (aC (xTup (aC (xV 6) (aC (xV 7) aN))) (aC (x2i (xV 11) (xC (.int 0)) opIx) aN))) (aC (xTup (aC (xTup (aC (xV 7) (aC (xV 8) aN))) (aC (x2i (xV 11) (xC (.int 1)) opIx) aN))) aN)))) (gT (gsC (gN 17) (gsC (gN 18) gsN))) (sSeq (sSet 19 (xCall R.law_most (aC (xV 13) (aC (x2i (xV 17) (xC (.int 0)) opIx) (aC (x2i (xV 17) (xC (.int 1)) opIx) aN)))))
    (sIf (tAndM (tV (x2 (xV 18) (xC .none) opNotN)) (tOrM (tV (x2 (xV 19) (xC .none) opIsN)) (tV (x2 (xV 19) (xV 18) opGt)))) (sRet (xC (.bool false))) sPass))) sPass)
    (sSeq (sSet 14 (xB oDictP (aC (xLc [20] (iS (xV 2)) (gN 20) tYesM (xTup (aC (xV 20) (aC (xCallL R.law_next (aC (xV 1) (aC (xC (.int 20)) aN))) aN)))) aN)))
    (sSeq (sSet 15 (xB oDictP (aC (xLc [20] (iDict .keys 3) (gN 20) tYesM (xTup (aC (xV 20) (aC (xTup (aC (x2i (x2i (xV 3) (xV 20) opIx) (xC (.int 0)) opIx) (aC (x2i (x2i (xV 3) (xV 20) opIx) (xC (.int 1)) opIx) (aC (x2 (x2 (x2i (x2i (xV 3) (xV 20) opIx) (xC (.int 2)) opIx) (x2i (xV 14) (x2i (x2i (xV 3) (xV 20) opIx) (xC (.int 0)) opIx) opIx) opAdd) (x2i (xV 14) (x2i (x2i (xV 3) (xV 20) opIx) (xC (.int 1)) opIx) opIx) opSub) aN)))) aN)))) aN)))
    (sSeq (sSet 16 (xCall R.law_most (aC (xV 15) (aC (xV 6) (aC (xV 7) aN)))))
    (sSeq (sIf (tV (x2 (x2i (xV 11) (xC (.int 0)) opIx) (xC .none) opIsN)) (sRet (x2 (xV 16) (xC .none) opIsN)) sPass)
    (sRet (x2 (xV 16) (x2 (x2 (x2i (xV 11) (xC (.int 0)) opIx) (x2i (xV 14) (xV 6) opIx) opAdd) (x2i (xV 14) (xV 7) opIx) opSub) opEq))))))))))))))))))))))))
def stepF (R : Fns) : Fns := { words_of := runF 1 5 (m_words_of R), denied := runF 1 1 (m_denied R), spread := runF 1 11 (m_spread R), ring := runF 3 5 (m_ring R), is_row := runF 2 10 (m_is_row R), is_path := runF 4 9 (m_is_path R), judge_spread := runF 2 4 (m_judge_spread R), most_apart := runF 3 13 (m_most_apart R), follows := runF 2 2 (m_follows R), law_next := runF 2 4 (m_law_next R), law_same := runF 2 3 (m_law_same R), law_words_drawn := runF 2 5 (m_law_words_drawn R), law_most := runF 3 4 (m_law_most R), law := runF 1 23 (m_law R) }
def lvl : Nat → Fns
  | 0 => { words_of := fun _ => none, denied := fun _ => none, spread := fun _ => none, ring := fun _ => none, is_row := fun _ => none, is_path := fun _ => none, judge_spread := fun _ => none, most_apart := fun _ => none, follows := fun _ => none, law_next := fun _ => none, law_same := fun _ => none, law_words_drawn := fun _ => none, law_most := fun _ => none, law := fun _ => none }
  | k + 1 => stepF (lvl k)
end PyK79

namespace PyK79
open PySem PySem.Spec L2 PyI
def topS (i : Nat) : Stmt := PySem.Challenge.pw_loregreat_k79_whole_distances_join.main.body.getD i (.Pass ⟨0, 0, 0, 0⟩)
abbrev t_words_of : Stmt := topS 1
abbrev n_words_of : List Str := ["notes", "one", "other", "_", "word"]
theorem sc_words_of : FnScope n_words_of ["notes"] (defScope t_words_of) := ⟨rfl, rfl, rfl, by decide +kernel, rfl, by decide +kernel, by decide +kernel⟩
abbrev t_denied : Stmt := topS 2
abbrev n_denied : List Str := ["note"]
theorem sc_denied : FnScope n_denied ["note"] (defScope t_denied) := ⟨rfl, rfl, rfl, by decide +kernel, rfl, by decide +kernel, by decide +kernel⟩
abbrev t_spread : Stmt := topS 3
abbrev n_spread : List Str := ["notes", "words", "found", "why", "_", "last", "name", "word", "one", "other", "most"]
theorem sc_spread : FnScope n_spread ["notes"] (defScope t_spread) := ⟨rfl, rfl, rfl, by decide +kernel, rfl, by decide +kernel, by decide +kernel⟩
abbrev t_ring : Stmt := topS 4
abbrev n_ring : List Str := ["notes", "why", "word", "met", "each"]
theorem sc_ring : FnScope n_ring ["notes", "why", "word"] (defScope t_ring) := ⟨rfl, rfl, rfl, by decide +kernel, rfl, by decide +kernel, by decide +kernel⟩
abbrev t_is_row : Stmt := topS 5
abbrev n_is_row : List Str := ["notes", "pairs", "numbers", "word", "_", "number", "one", "other", "most", "pair"]
theorem sc_is_row : FnScope n_is_row ["notes", "pairs"] (defScope t_is_row) := ⟨rfl, rfl, rfl, by decide +kernel, rfl, by decide +kernel, by decide +kernel⟩
abbrev t_is_path : Stmt := topS 6
abbrev n_is_path : List Str := ["notes", "names", "start", "end", "total", "name", "one", "other", "most"]
theorem sc_is_path : FnScope n_is_path ["notes", "names", "start", "end"] (defScope t_is_path) := ⟨rfl, rfl, rfl, by decide +kernel, rfl, by decide +kernel, by decide +kernel⟩
abbrev t_judge_spread : Stmt := topS 7
abbrev n_judge_spread : List Str := ["notes", "told", "start", "total"]
theorem sc_judge_spread : FnScope n_judge_spread ["notes", "told"] (defScope t_judge_spread) := ⟨rfl, rfl, rfl, by decide +kernel, rfl, by decide +kernel, by decide +kernel⟩
abbrev t_most_apart : Stmt := topS 8
abbrev n_most_apart : List Str := ["notes", "one", "other", "told", "paths", "_", "total", "names", "row", "name", "start", "end", "most"]
theorem sc_most_apart : FnScope n_most_apart ["notes", "one", "other"] (defScope t_most_apart) := ⟨rfl, rfl, rfl, by decide +kernel, rfl, by decide +kernel, by decide +kernel⟩
abbrev t_follows : Stmt := topS 9
abbrev n_follows : List Str := ["notes", "goal"]
theorem sc_follows : FnScope n_follows ["notes", "goal"] (defScope t_follows) := ⟨rfl, rfl, rfl, by decide +kernel, rfl, by decide +kernel, by decide +kernel⟩
abbrev t_law_next : Stmt := topS 11
abbrev n_law_next : List Str := ["state", "limit", "cell", "value"]
theorem sc_law_next : FnScope n_law_next ["state", "limit"] (defScope t_law_next) := ⟨rfl, rfl, rfl, by decide +kernel, rfl, by decide +kernel, by decide +kernel⟩
abbrev t_law_same : Stmt := topS 12
abbrev n_law_same : List Str := ["actual", "expected", "k"]
theorem sc_law_same : FnScope n_law_same ["actual", "expected"] (defScope t_law_same) := ⟨rfl, rfl, rfl, by decide +kernel, rfl, by decide +kernel, by decide +kernel⟩
abbrev t_law_words_drawn : Stmt := topS 13
abbrev n_law_words_drawn : List Str := ["state", "count", "found", "k", "word"]
theorem sc_law_words_drawn : FnScope n_law_words_drawn ["state", "count"] (defScope t_law_words_drawn) := ⟨rfl, rfl, rfl, by decide +kernel, rfl, by decide +kernel, by decide +kernel⟩
abbrev t_law_most : Stmt := topS 14
abbrev n_law_most : List Str := ["notes", "one", "other", "told"]
theorem sc_law_most : FnScope n_law_most ["notes", "one", "other"] (defScope t_law_most) := ⟨rfl, rfl, rfl, by decide +kernel, rfl, by decide +kernel, by decide +kernel⟩
abbrev t_law : Stmt := topS 15
abbrev n_law : List Str := ["script", "state", "names", "notes", "k", "told", "one", "other", "third", "goal", "moved", "far", "due", "more", "place", "shifted", "again", "pair", "before", "now", "name", "word", "number"]
theorem sc_law : FnScope n_law ["script"] (defScope t_law) := ⟨rfl, rfl, rfl, by decide +kernel, rfl, by decide +kernel, by decide +kernel⟩
theorem bt_bool : bootBuiltins "bool" = some (.type "bool") := by decide +kernel
theorem bt_dict : bootBuiltins "dict" = some (.type "dict") := by decide +kernel
theorem bt_int : bootBuiltins "int" = some (.type "int") := by decide +kernel
theorem bt_isinstance : bootBuiltins "isinstance" = some (.builtin "isinstance") := by decide +kernel
theorem bt_len : bootBuiltins "len" = some (.builtin "len") := by decide +kernel
theorem bt_list : bootBuiltins "list" = some (.type "list") := by decide +kernel
theorem bt_set : bootBuiltins "set" = some (.type "set") := by decide +kernel
theorem bt_sorted : bootBuiltins "sorted" = some (.builtin "sorted") := by decide +kernel
theorem bt_str : bootBuiltins "str" = some (.type "str") := by decide +kernel
theorem bt_tuple : bootBuiltins "tuple" = some (.type "tuple") := by decide +kernel
/-- what the module holds beside the defs -/
structure Wh (K : PySem.W.Frag) (mg : Str → Option Value) : Prop where
  n_bool : mg "bool" = none
  n_dict : mg "dict" = none
  n_int : mg "int" = none
  n_isinstance : mg "isinstance" = none
  n_len : mg "len" = none
  n_list : mg "list" = none
  n_range : mg "range" = none
  n_set : mg "set" = none
  n_sorted : mg "sorted" = none
  n_str : mg "str" = none
  n_tuple : mg "tuple" = none
  k_bool : Kit K "bool"
  k_int : Kit K "int"
  k_list : Kit K "list"
  k_str : Kit K "str"
  k_tuple : Kit K "tuple"
structure OkF (P : Program) (w : World) (K : PySem.W.Frag) (mg : Str → Option Value) (base : Heap) (k : Nat) (R : Fns) : Prop where
  words_of : Cl P w K mg base k "words_of" R.words_of
  denied : Cl P w K mg base k "denied" R.denied
  spread : Cl P w K mg base k "spread" R.spread
  ring : Cl P w K mg base k "ring" R.ring
  is_row : Cl P w K mg base k "is_row" R.is_row
  is_path : Cl P w K mg base k "is_path" R.is_path
  judge_spread : Cl P w K mg base k "judge_spread" R.judge_spread
  most_apart : Cl P w K mg base k "most_apart" R.most_apart
  follows : Cl P w K mg base k "follows" R.follows
  law_next : Cl P w K mg base k "_law_next" R.law_next
  law_same : Cl P w K mg base k "_law_same" R.law_same
  law_words_drawn : Cl P w K mg base k "_law_words_drawn" R.law_words_drawn
  law_most : Cl P w K mg base k "_law_most" R.law_most
  law : Cl P w K mg base k "law" R.law
section
variable {P : Program} {w : World} {K : PySem.W.Frag} {mg : Str → Option Value} {base : Heap} {k : Nat} {R : Fns} {f : Addr} {fd : FuncData}
theorem ok_words_of (W : Wh K mg) (O : OkF P w K mg base k R) (F : Fun K "words_of" "words_of" t_words_of f fd) : FnOk P w K mg base CX0 (k + 1) f fd ["notes"] (spI K (runF 1 5 (m_words_of R))) := fnI_ok F sc_words_of fun cdv A outer s H E hr => by
  have NN := sc_words_of.nd
  exact (bd_one (sd_ret (pd_soSet rfl (by rfl) W.n_sorted bt_sorted (by rfl) W.n_set bt_set (pd_lc2D [("one", 1), ("other", 2), ("_", 3), ("word", 4)] rfl NN (PI.valsV 0) (blk_ok n_words_of (defScope t_words_of) (by decide +kernel)) (by decide) rfl (by decide) (fun _ _ _ _ _ => (gd_tup 3 rfl (gds_cons (gd_name 1 NN) (gds_cons (gd_name 2 NN) (gds_cons (gd_name 3 NN) gds_nil))) (gsC_len (gsC_len (gsC_len gsN_len))))) (fun _ _ _ _ _ => tsd_nil) (fun _ _ _ _ _ => id0_seq (pd_tup (ad_cons (pd_v 1) (ad_cons (pd_v 2) ad_nil)))) (fun _ _ _ _ _ => (gd_name 4 NN)) (fun _ _ _ _ _ => tsd_nil) (fun _ _ _ _ _ => (pd_v 4))))))
theorem ok_denied (W : Wh K mg) (O : OkF P w K mg base k R) (F : Fun K "denied" "denied" t_denied f fd) : FnOk P w K mg base CX0 (k + 1) f fd ["note"] (spI K (runF 1 1 (m_denied R))) := fnI_ok F sc_denied fun cdv A outer s H E hr => by
  have NN := sc_denied.nd
  exact (bd_one (sd_ret (pd_tup (ad_cons (pd_ix (ix_data hr.units) (pd_v 0) pd_int) (ad_cons (pd_ix (ix_data hr.units) (pd_v 0) pd_int) (ad_cons (pd_bin o_sub (pd_neg pd_int) (pd_ix (ix_data hr.units) (pd_v 0) pd_int)) ad_nil))))))
theorem ok_spread (W : Wh K mg) (O : OkF P w K mg base k R) (F : Fun K "spread" "spread" t_spread f fd) : FnOk P w K mg base CX0 (k + 1) f fd ["notes"] (spI K (runF 1 11 (m_spread R))) := fnI_ok F sc_spread fun cdv A outer s H E hr => by
  have NN := sc_spread.nd
  exact (bd_cons (sd_set 1 NN (pd_call O.words_of hr (by rfl) (ad_cons (pd_v 0) ad_nil)))
    (bd_cons (sd_set 2 NN (pd_dc [("word", 7)] rfl NN (id_seq (pd_v 1)) (blk_ok n_spread (defScope t_spread) (by decide +kernel)) rfl (fun _ _ _ _ _ => (gd_name 7 NN)) (fun _ _ _ _ _ => tsd_nil) (fun _ _ _ _ _ => (pd_v 7)) (fun _ _ _ _ _ => pd_int)))
    (bd_cons (sd_set 3 NN pd_dict0)
    (bd_cons (sd_for rfl (id_range1 (by rfl) W.n_range (pd_bin o_add (pd_callB b_len (by rfl) W.n_len bt_len (ad_cons (pd_v 1) ad_nil)) pd_int)) (gd_name 4 NN) (bd_cons (sd_set 5 NN pd_non)
    (bd_cons (sd_for rfl (id_seq (pd_callB (b_sorted rfl) (by rfl) W.n_sorted bt_sorted (ad_cons (pd_v 0) ad_nil))) (gd_name 6 NN) (bd_cons (sd_unp (pd_ix (ix_data hr.units) (pd_v 0) (pd_v 6)) (gd_tup 3 rfl (gds_cons (gd_name 8 NN) (gds_cons (gd_name 9 NN) (gds_cons (gd_name 10 NN) gds_nil))) (gsC_len (gsC_len (gsC_len gsN_len)))))
    (bd_one (sd_if (td_cmp o_gt (pd_ix (ix_data hr.units) (pd_v 2) (pd_v 8)) (pd_bin o_add (pd_ix (ix_data hr.units) (pd_v 2) (pd_v 9)) (pd_v 10))) (bd_cons (sd_put 2 hr.units (pd_v 8) (pd_bin o_add (pd_ix (ix_data hr.units) (pd_v 2) (pd_v 9)) (pd_v 10)))
    (bd_cons (sd_put 3 hr.units (pd_v 8) (pd_v 6))
    (bd_one (sd_set 5 NN (pd_v 8))))) bd_nil))))
    (bd_one (sd_if (td_cmp o_isN (pd_v 5) pd_non) (bd_one (sd_ret (pd_tup (ad_cons pd_str (ad_cons (pd_callTy b_tuple (by rfl) W.n_tuple bt_tuple (ad_cons (pd_lc [("word", 7)] rfl NN (id_seq (pd_v 1)) (blk_ok n_spread (defScope t_spread) (by decide +kernel)) rfl (fun _ _ _ _ _ => (gd_name 7 NN)) (fun _ _ _ _ _ => tsd_nil) (fun _ _ _ _ _ => (pd_tup (ad_cons (pd_v 7) (ad_cons (pd_ix (ix_data hr.units) (pd_v 2) (pd_v 7)) ad_nil))))) ad_nil)) ad_nil))))) bd_nil)))))
    (bd_one (sd_ret (pd_tup (ad_cons pd_str (ad_cons (pd_call O.ring hr (by rfl) (ad_cons (pd_v 0) (ad_cons (pd_v 3) (ad_cons (pd_v 5) ad_nil)))) ad_nil)))))))))
theorem ok_ring (W : Wh K mg) (O : OkF P w K mg base k R) (F : Fun K "ring" "ring" t_ring f fd) : FnOk P w K mg base CX0 (k + 1) f fd ["notes", "why", "word"] (spI K (runF 3 5 (m_ring R))) := fnI_ok F sc_ring fun cdv A outer s H E hr => by
  have NN := sc_ring.nd
  exact (bd_cons (sd_set 3 NN (pd_lst ad_nil))
    (bd_cons (sd_while FUEL (td_cmp (o_notInA hr.units) (pd_v 2) (pd_v 3)) (bd_cons (sd_expr (pd_mut 3 PySem.F.plainAttrs_list PySem.F.slot_list_append PySem.F.type_list_append mt_append md_append (ad_cons (pd_v 2) ad_nil)))
    (bd_one (sd_set 2 NN (pd_ix (ix_data hr.units) (pd_ix (ix_data hr.units) (pd_v 0) (pd_ix (ix_data hr.units) (pd_v 1) (pd_v 2))) pd_int)))))
    (bd_one (sd_ret (pd_callTy b_tuple (by rfl) W.n_tuple bt_tuple (ad_cons (pd_lc [("each", 4)] rfl NN (id_seq (pd_sl (pd_v 3) (od_some (pd_idx (pd_v 3) (pd_v 2))) od_none)) (blk_ok n_ring (defScope t_ring) (by decide +kernel)) rfl (fun _ _ _ _ _ => (gd_name 4 NN)) (fun _ _ _ _ _ => tsd_nil) (fun _ _ _ _ _ => (pd_ix (ix_data hr.units) (pd_v 1) (pd_v 4)))) ad_nil))))))
theorem ok_is_row (W : Wh K mg) (O : OkF P w K mg base k R) (F : Fun K "is_row" "is_row" t_is_row f fd) : FnOk P w K mg base CX0 (k + 1) f fd ["notes", "pairs"] (spI K (runF 2 10 (m_is_row R))) := fnI_ok F sc_is_row fun cdv A outer s H E hr => by
  have NN := sc_is_row.nd
  exact (bd_cons (sd_if (td_w (wd_or (td_not (td_val (pd_isi W.k_tuple (pd_v 1) (by rfl) W.n_isinstance (by rfl) W.n_tuple bt_isinstance bt_tuple))) (wd_or1 (td_cmp (o_inA hr.units) pd_bl (pd_lc [("pair", 9)] rfl NN (id_seq (pd_v 1)) (blk_ok n_is_row (defScope t_is_row) (by decide +kernel)) rfl (fun _ _ _ _ _ => (gd_name 9 NN)) (fun _ _ _ _ _ => tsd_nil) (fun _ _ _ _ _ => (pd_and (pd_isi W.k_tuple (pd_v 9) (by rfl) W.n_isinstance (by rfl) W.n_tuple bt_isinstance bt_tuple) (pd_one (pd_cmp (o_eq hr.units) (pd_callB b_len (by rfl) W.n_len bt_len (ad_cons (pd_v 9) ad_nil)) pd_int))))))))) (bd_one (sd_ret pd_bl)) bd_nil)
    (bd_cons (sd_if (td_cmp (o_ne hr.units) (pd_lc [("word", 3), ("_", 4)] rfl NN (id_seq (pd_v 1)) (blk_ok n_is_row (defScope t_is_row) (by decide +kernel)) rfl (fun _ _ _ _ _ => (gd_tup 2 rfl (gds_cons (gd_name 3 NN) (gds_cons (gd_name 4 NN) gds_nil)) (gsC_len (gsC_len gsN_len)))) (fun _ _ _ _ _ => tsd_nil) (fun _ _ _ _ _ => (pd_v 3))) (pd_call O.words_of hr (by rfl) (ad_cons (pd_v 0) ad_nil))) (bd_one (sd_ret pd_bl)) bd_nil)
    (bd_cons (sd_if (td_cmp (o_inA hr.units) pd_bl (pd_lc [("_", 4), ("number", 5)] rfl NN (id_seq (pd_v 1)) (blk_ok n_is_row (defScope t_is_row) (by decide +kernel)) rfl (fun _ _ _ _ _ => (gd_tup 2 rfl (gds_cons (gd_name 4 NN) (gds_cons (gd_name 5 NN) gds_nil)) (gsC_len (gsC_len gsN_len)))) (fun _ _ _ _ _ => tsd_nil) (fun _ _ _ _ _ => (pd_and (pd_isi W.k_int (pd_v 5) (by rfl) W.n_isinstance (by rfl) W.n_int bt_isinstance bt_int) (pd_one (pd_not (pd_isi W.k_bool (pd_v 5) (by rfl) W.n_isinstance (by rfl) W.n_bool bt_isinstance bt_bool))))))) (bd_one (sd_ret pd_bl)) bd_nil)
    (bd_cons (sd_set 2 NN (pd_callTy (b_dictP rfl) (by rfl) W.n_dict bt_dict (ad_cons (pd_v 1) ad_nil)))
    (bd_one (sd_ret (pd_cmp (o_notInA hr.units) pd_bl (pd_lcD [("one", 6), ("other", 7), ("most", 8)] rfl NN (PI.valsV 0) (blk_ok n_is_row (defScope t_is_row) (by decide +kernel)) rfl (fun _ _ _ _ _ => (gd_tup 3 rfl (gds_cons (gd_name 6 NN) (gds_cons (gd_name 7 NN) (gds_cons (gd_name 8 NN) gds_nil))) (gsC_len (gsC_len (gsC_len gsN_len))))) (fun _ _ _ _ _ => tsd_nil) (fun _ _ _ _ _ => (pd_cmp o_le (pd_bin o_sub (pd_ix (ix_data hr.units) (pd_v 2) (pd_v 6)) (pd_ix (ix_data hr.units) (pd_v 2) (pd_v 7))) (pd_v 8)))))))))))
theorem ok_is_path (W : Wh K mg) (O : OkF P w K mg base k R) (F : Fun K "is_path" "is_path" t_is_path f fd) : FnOk P w K mg base CX0 (k + 1) f fd ["notes", "names", "start", "end"] (spI K (runF 4 9 (m_is_path R))) := fnI_ok F sc_is_path fun cdv A outer s H E hr => by
  have NN := sc_is_path.nd
  exact (bd_cons (sd_if (td_w (wd_or (td_not (td_val (pd_isi W.k_tuple (pd_v 1) (by rfl) W.n_isinstance (by rfl) W.n_tuple bt_isinstance bt_tuple))) (wd_or1 (td_cmp (o_inA hr.units) pd_bl (pd_lc [("name", 5)] rfl NN (id_seq (pd_v 1)) (blk_ok n_is_path (defScope t_is_path) (by decide +kernel)) rfl (fun _ _ _ _ _ => (gd_name 5 NN)) (fun _ _ _ _ _ => tsd_nil) (fun _ _ _ _ _ => (pd_and (pd_isi W.k_str (pd_v 5) (by rfl) W.n_isinstance (by rfl) W.n_str bt_isinstance bt_str) (pd_one (pd_cmp (o_inA hr.units) (pd_v 5) (pd_v 0)))))))))) (bd_one (sd_ret pd_non)) bd_nil)
    (bd_cons (sd_set 4 NN pd_int)
    (bd_cons (sd_for rfl (id_seq (pd_v 1)) (gd_name 5 NN) (bd_cons (sd_unp (pd_ix (ix_data hr.units) (pd_v 0) (pd_v 5)) (gd_tup 3 rfl (gds_cons (gd_name 6 NN) (gds_cons (gd_name 7 NN) (gds_cons (gd_name 8 NN) gds_nil))) (gsC_len (gsC_len (gsC_len gsN_len)))))
    (bd_cons (sd_if (td_cmp (o_ne hr.units) (pd_v 6) (pd_v 2)) (bd_one (sd_ret pd_non)) bd_nil)
    (bd_cons (sd_set 2 NN (pd_v 7))
    (bd_one (sd_aug 4 NN ip_add (pd_v 8)))))))
    (bd_one (sd_ret (pd_if (td_cmp (o_eq hr.units) (pd_v 2) (pd_v 3)) (pd_v 4) pd_non))))))
theorem ok_judge_spread (W : Wh K mg) (O : OkF P w K mg base k R) (F : Fun K "judge_spread" "judge_spread" t_judge_spread f fd) : FnOk P w K mg base CX0 (k + 1) f fd ["notes", "told"] (spI K (runF 2 4 (m_judge_spread R))) := fnI_ok F sc_judge_spread fun cdv A outer s H E hr => by
  have NN := sc_judge_spread.nd
  exact (bd_cons (sd_if (td_w (wd_or (td_not (td_val (pd_isi W.k_tuple (pd_v 1) (by rfl) W.n_isinstance (by rfl) W.n_tuple bt_isinstance bt_tuple))) (wd_or1 (td_cmp (o_ne hr.units) (pd_callB b_len (by rfl) W.n_len bt_len (ad_cons (pd_v 1) ad_nil)) pd_int)))) (bd_one (sd_ret pd_bl)) bd_nil)
    (bd_cons (sd_if (td_cmp (o_eq hr.units) (pd_ix (ix_data hr.units) (pd_v 1) pd_int) pd_str) (bd_one (sd_ret (pd_call O.is_row hr (by rfl) (ad_cons (pd_v 0) (ad_cons (pd_ix (ix_data hr.units) (pd_v 1) pd_int) ad_nil))))) bd_nil)
    (bd_cons (sd_if (td_w (wd_or (td_cmp (o_ne hr.units) (pd_ix (ix_data hr.units) (pd_v 1) pd_int) pd_str) (wd_or (td_not (td_val (pd_isi W.k_tuple (pd_ix (ix_data hr.units) (pd_v 1) pd_int) (by rfl) W.n_isinstance (by rfl) W.n_tuple bt_isinstance bt_tuple))) (wd_or1 (td_cmp (o_eq hr.units) (pd_callB b_len (by rfl) W.n_len bt_len (ad_cons (pd_ix (ix_data hr.units) (pd_v 1) pd_int) ad_nil)) pd_int))))) (bd_one (sd_ret pd_bl)) bd_nil)
    (bd_cons (sd_if (td_w (wd_or (td_not (td_val (pd_isi W.k_str (pd_ix (ix_data hr.units) (pd_ix (ix_data hr.units) (pd_v 1) pd_int) pd_int) (by rfl) W.n_isinstance (by rfl) W.n_str bt_isinstance bt_str))) (wd_or1 (td_cmp (o_notInA hr.units) (pd_ix (ix_data hr.units) (pd_ix (ix_data hr.units) (pd_v 1) pd_int) pd_int) (pd_v 0))))) (bd_one (sd_ret pd_bl)) bd_nil)
    (bd_cons (sd_set 2 NN (pd_ix (ix_data hr.units) (pd_ix (ix_data hr.units) (pd_v 0) (pd_ix (ix_data hr.units) (pd_ix (ix_data hr.units) (pd_v 1) pd_int) pd_int)) pd_int))
    (bd_cons (sd_set 3 NN (pd_call O.is_path hr (by rfl) (ad_cons (pd_v 0) (ad_cons (pd_ix (ix_data hr.units) (pd_v 1) pd_int) (ad_cons (pd_v 2) (ad_cons (pd_v 2) ad_nil))))))
    (bd_one (sd_ret (pd_and (pd_cmp o_notN (pd_v 3) pd_non) (pd_one (pd_cmp o_lt (pd_v 3) pd_int)))))))))))
theorem ok_most_apart (W : Wh K mg) (O : OkF P w K mg base k R) (F : Fun K "most_apart" "most_apart" t_most_apart f fd) : FnOk P w K mg base CX0 (k + 1) f fd ["notes", "one", "other"] (spI K (runF 3 13 (m_most_apart R))) := fnI_ok F sc_most_apart fun cdv A outer s H E hr => by
  have NN := sc_most_apart.nd
  exact (bd_cons (sd_set 3 NN (pd_call O.spread hr (by rfl) (ad_cons (pd_star (pd_v 0) (ppd_cons pd_str (pd_tup (ad_cons (pd_v 1) (ad_cons (pd_v 1) (ad_cons pd_int ad_nil)))) (ppd_cons pd_str (pd_tup (ad_cons (pd_v 2) (ad_cons (pd_v 2) (ad_cons pd_int ad_nil)))) ppd_nil))) ad_nil)))
    (bd_cons (sd_if (td_cmp (o_eq hr.units) (pd_ix (ix_data hr.units) (pd_v 3) pd_int) pd_str) (bd_one (sd_ret (pd_v 3))) bd_nil)
    (bd_cons (sd_set 4 NN (pd_disp (ppd_cons (pd_v 1) (pd_tup (ad_cons pd_int (ad_cons (pd_tup ad_nil) ad_nil))) ppd_nil)))
    (bd_cons (sd_for rfl (id_seq (pd_call O.words_of hr (by rfl) (ad_cons (pd_v 0) ad_nil))) (gd_name 5 NN) (bd_one (sd_for rfl (id_seq (pd_callB (b_sorted rfl) (by rfl) W.n_sorted bt_sorted (ad_cons (pd_v 0) ad_nil))) (gd_name 9 NN) (bd_cons (sd_unp (pd_ix (ix_data hr.units) (pd_v 0) (pd_v 9)) (gd_tup 3 rfl (gds_cons (gd_name 10 NN) (gds_cons (gd_name 11 NN) (gds_cons (gd_name 12 NN) gds_nil))) (gsC_len (gsC_len (gsC_len gsN_len)))))
    (bd_one (sd_if (td_w (wd_and (td_cmp (o_inA hr.units) (pd_v 10) (pd_v 4)) (wd_and1 (td_w (wd_or (td_cmp (o_notInA hr.units) (pd_v 11) (pd_v 4)) (wd_or1 (td_cmp o_lt (pd_bin o_add (pd_ix (ix_data hr.units) (pd_ix (ix_data hr.units) (pd_v 4) (pd_v 10)) pd_int) (pd_v 12)) (pd_ix (ix_data hr.units) (pd_ix (ix_data hr.units) (pd_v 4) (pd_v 11)) pd_int)))))))) (bd_one (sd_put 4 hr.units (pd_v 11) (pd_tup (ad_cons (pd_bin o_add (pd_ix (ix_data hr.units) (pd_ix (ix_data hr.units) (pd_v 4) (pd_v 10)) pd_int) (pd_v 12)) (ad_cons (pd_bin o_add (pd_ix (ix_data hr.units) (pd_ix (ix_data hr.units) (pd_v 4) (pd_v 10)) pd_int) (pd_tup (ad_cons (pd_v 9) ad_nil))) ad_nil))))) bd_nil))))))
    (bd_cons (sd_if (td_cmp (o_notInA hr.units) (pd_v 2) (pd_v 4)) (bd_one (sd_ret (pd_tup (ad_cons pd_str ad_nil)))) bd_nil)
    (bd_cons (sd_unp (pd_ix (ix_data hr.units) (pd_v 4) (pd_v 2)) (gd_tup 2 rfl (gds_cons (gd_name 6 NN) (gds_cons (gd_name 7 NN) gds_nil)) (gsC_len (gsC_len gsN_len))))
    (bd_cons (sd_set 8 NN (pd_call O.spread hr (by rfl) (ad_cons (pd_star (pd_v 0) (ppd_cons pd_str (pd_tup (ad_cons (pd_v 2) (ad_cons (pd_v 1) (ad_cons (pd_neg (pd_v 6)) ad_nil)))) ppd_nil)) ad_nil)))
    (bd_one (sd_ret (pd_tup (ad_cons pd_str (ad_cons (pd_v 6) (ad_cons (pd_v 7) (ad_cons (pd_ix (ix_data hr.units) (pd_v 8) pd_int) ad_nil))))))))))))))
theorem ok_follows (W : Wh K mg) (O : OkF P w K mg base k R) (F : Fun K "follows" "follows" t_follows f fd) : FnOk P w K mg base CX0 (k + 1) f fd ["notes", "goal"] (spI K (runF 2 2 (m_follows R))) := fnI_ok F sc_follows fun cdv A outer s H E hr => by
  have NN := sc_follows.nd
  exact (bd_one (sd_ret (pd_call O.spread hr (by rfl) (ad_cons (pd_star (pd_v 0) (ppd_cons pd_str (pd_call O.denied hr (by rfl) (ad_cons (pd_v 1) ad_nil)) ppd_nil)) ad_nil))))
theorem ok_law_next (W : Wh K mg) (O : OkF P w K mg base k R) (F : Fun K "_law_next" "_law_next" t_law_next f fd) : FnOk P w K mg base CX0 (k + 1) f fd ["state", "limit"] (spI K (runF 2 4 (m_law_next R))) := fnI_ok F sc_law_next fun cdv A outer s H E hr => by
  have NN := sc_law_next.nd
  exact (bd_cons (sd_if (td_w (wd_and (td_cmp (o_eq hr.units) (pd_ix (ix_data hr.units) (pd_v 0) pd_int) pd_int) (wd_and1 (td_cmp o_lt (pd_ix (ix_data hr.units) (pd_v 0) pd_int) (pd_callB b_len (by rfl) W.n_len bt_len (ad_cons (pd_ix (ix_data hr.units) (pd_v 0) pd_int) ad_nil)))))) (bd_cons (sd_set 2 NN (pd_ix (ix_data hr.units) (pd_ix (ix_data hr.units) (pd_v 0) pd_int) (pd_ix (ix_data hr.units) (pd_v 0) pd_int)))
    (bd_cons (sd_augS 0 hr.units ip_add pd_int pd_int)
    (bd_one (sd_if (td_cmp o_ge (pd_v 2) (pd_bin o_pow pd_int pd_int)) (bd_one (sd_put 0 hr.units pd_int (pd_v 2))) (bd_one (sd_put 0 hr.units pd_int (pd_bin o_mod (pd_callTy b_int (by rfl) W.n_int bt_int (ad_cons (pd_bin o_add (pd_bin o_add (pd_bin o_mul (pd_ix (ix_data hr.units) (pd_v 0) pd_int) pd_int) (pd_bin o_mod (pd_callTy b_int (by rfl) W.n_int bt_int (ad_cons (pd_v 2) ad_nil)) pd_int)) pd_int) ad_nil)) pd_int))))))) bd_nil)
    (bd_cons (sd_if (td_cmp o_gt (pd_ix (ix_data hr.units) (pd_v 0) pd_int) pd_int) (bd_cons (sd_set 3 NN (pd_bin o_mod (pd_callTy b_int (by rfl) W.n_int bt_int (ad_cons (pd_ix (ix_data hr.units) (pd_v 0) pd_int) ad_nil)) (pd_v 1)))
    (bd_cons (sd_put 0 hr.units pd_int (pd_bin o_fdiv (pd_ix (ix_data hr.units) (pd_v 0) pd_int) (pd_v 1)))
    (bd_one (sd_ret (pd_v 3))))) bd_nil)
    (bd_cons (sd_put 0 hr.units pd_int (pd_bin o_mod (pd_callTy b_int (by rfl) W.n_int bt_int (ad_cons (pd_bin o_add (pd_bin o_mul (pd_ix (ix_data hr.units) (pd_v 0) pd_int) pd_int) pd_int) ad_nil)) pd_int))
    (bd_one (sd_ret (pd_bin o_mod (pd_callTy b_int (by rfl) W.n_int bt_int (ad_cons (pd_bin o_fdiv (pd_ix (ix_data hr.units) (pd_v 0) pd_int) pd_int) ad_nil)) (pd_v 1)))))))
theorem ok_law_same (W : Wh K mg) (O : OkF P w K mg base k R) (F : Fun K "_law_same" "_law_same" t_law_same f fd) : FnOk P w K mg base CX0 (k + 1) f fd ["actual", "expected"] (spI K (runF 2 3 (m_law_same R))) := fnI_ok F sc_law_same fun cdv A outer s H E hr => by
  have NN := sc_law_same.nd
  exact (bd_cons (sd_if (td_cmp o_isN (pd_v 1) pd_non) (bd_one (sd_ret (pd_cmp o_isN (pd_v 0) pd_non))) bd_nil)
    (bd_cons (sd_if (td_val (pd_isi W.k_bool (pd_v 1) (by rfl) W.n_isinstance (by rfl) W.n_bool bt_isinstance bt_bool)) (bd_one (sd_ret (pd_and (pd_isi W.k_bool (pd_v 0) (by rfl) W.n_isinstance (by rfl) W.n_bool bt_isinstance bt_bool) (pd_one (pd_cmp (o_eq hr.units) (pd_v 0) (pd_v 1)))))) bd_nil)
    (bd_cons (sd_if (td_val (pd_isi W.k_int (pd_v 1) (by rfl) W.n_isinstance (by rfl) W.n_int bt_isinstance bt_int)) (bd_one (sd_ret (pd_and (pd_isi W.k_int (pd_v 0) (by rfl) W.n_isinstance (by rfl) W.n_int bt_isinstance bt_int) (pd_and (pd_not (pd_isi W.k_bool (pd_v 0) (by rfl) W.n_isinstance (by rfl) W.n_bool bt_isinstance bt_bool)) (pd_one (pd_cmp (o_eq hr.units) (pd_v 0) (pd_v 1))))))) bd_nil)
    (bd_cons (sd_if (td_val (pd_isi W.k_str (pd_v 1) (by rfl) W.n_isinstance (by rfl) W.n_str bt_isinstance bt_str)) (bd_one (sd_ret (pd_and (pd_isi W.k_str (pd_v 0) (by rfl) W.n_isinstance (by rfl) W.n_str bt_isinstance bt_str) (pd_one (pd_cmp (o_eq hr.units) (pd_v 0) (pd_v 1)))))) bd_nil)
    (bd_cons (sd_if (td_w (wd_and (td_val (pd_isi W.k_tuple (pd_v 1) (by rfl) W.n_isinstance (by rfl) W.n_tuple bt_isinstance bt_tuple)) (wd_and1 (td_not (td_val (pd_isi W.k_tuple (pd_v 0) (by rfl) W.n_isinstance (by rfl) W.n_tuple bt_isinstance bt_tuple)))))) (bd_one (sd_ret pd_bl)) bd_nil)
    (bd_cons (sd_if (td_w (wd_and (td_val (pd_isi W.k_list (pd_v 1) (by rfl) W.n_isinstance (by rfl) W.n_list bt_isinstance bt_list)) (wd_and1 (td_not (td_val (pd_isi W.k_list (pd_v 0) (by rfl) W.n_isinstance (by rfl) W.n_list bt_isinstance bt_list)))))) (bd_one (sd_ret pd_bl)) bd_nil)
    (bd_cons (sd_if (td_cmp (o_ne hr.units) (pd_callB b_len (by rfl) W.n_len bt_len (ad_cons (pd_v 0) ad_nil)) (pd_callB b_len (by rfl) W.n_len bt_len (ad_cons (pd_v 1) ad_nil))) (bd_one (sd_ret pd_bl)) bd_nil)
    (bd_cons (sd_for rfl (id_range1 (by rfl) W.n_range (pd_callB b_len (by rfl) W.n_len bt_len (ad_cons (pd_v 1) ad_nil))) (gd_name 2 NN) (bd_one (sd_if (td_not (td_val (pd_call O.law_same hr (by rfl) (ad_cons (pd_ix (ix_data hr.units) (pd_v 0) (pd_v 2)) (ad_cons (pd_ix (ix_data hr.units) (pd_v 1) (pd_v 2)) ad_nil))))) (bd_one (sd_ret pd_bl)) bd_nil)))
    (bd_one (sd_ret pd_bl))))))))))
theorem ok_law_words_drawn (W : Wh K mg) (O : OkF P w K mg base k R) (F : Fun K "_law_words_drawn" "_law_words_drawn" t_law_words_drawn f fd) : FnOk P w K mg base CX0 (k + 1) f fd ["state", "count"] (spI K (runF 2 5 (m_law_words_drawn R))) := fnI_ok F sc_law_words_drawn fun cdv A outer s H E hr => by
  have NN := sc_law_words_drawn.nd
  exact (bd_cons (sd_set 2 NN (pd_lst ad_nil))
    (bd_cons (sd_for rfl (id_range1 (by rfl) W.n_range (pd_v 1)) (gd_name 3 NN) (bd_cons (sd_set 4 NN (pd_bin o_add (pd_ix (ix_data hr.units) pd_str (pd_callL O.law_next hr (by rfl) (ad_cons (pd_v 0) (ad_cons pd_int ad_nil)))) (pd_ix (ix_data hr.units) (pd_lst (ad_cons pd_str (ad_cons pd_str (ad_cons pd_str (ad_cons pd_str ad_nil))))) (pd_callL O.law_next hr (by rfl) (ad_cons (pd_v 0) (ad_cons pd_int ad_nil))))))
    (bd_cons (sd_while FUEL (td_cmp (o_inA hr.units) (pd_v 4) (pd_v 2)) (bd_one (sd_set 4 NN (pd_bin o_add (pd_v 4) pd_str))))
    (bd_one (sd_expr (pd_mut 2 PySem.F.plainAttrs_list PySem.F.slot_list_append PySem.F.type_list_append mt_append md_append (ad_cons (pd_v 4) ad_nil)))))))
    (bd_one (sd_ret (pd_v 2)))))
theorem ok_law_most (W : Wh K mg) (O : OkF P w K mg base k R) (F : Fun K "_law_most" "_law_most" t_law_most f fd) : FnOk P w K mg base CX0 (k + 1) f fd ["notes", "one", "other"] (spI K (runF 3 4 (m_law_most R))) := fnI_ok F sc_law_most fun cdv A outer s H E hr => by
  have NN := sc_law_most.nd
  exact (bd_cons (sd_set 3 NN (pd_call O.most_apart hr (by rfl) (ad_cons (pd_callTy (b_dictP rfl) (by rfl) W.n_dict bt_dict (ad_cons (pd_v 0) ad_nil)) (ad_cons (pd_v 1) (ad_cons (pd_v 2) ad_nil)))))
    (bd_one (sd_ret (pd_if (td_cmp (o_eq hr.units) (pd_ix (ix_data hr.units) (pd_v 3) pd_int) pd_str) (pd_ix (ix_data hr.units) (pd_v 3) pd_int) pd_non))))
theorem ok_law (W : Wh K mg) (O : OkF P w K mg base k R) (F : Fun K "law" "law" t_law f fd) : FnOk P w K mg base CX0 (k + 1) f fd ["script"] (spI K (runF 1 23 (m_law R))) := fnI_ok F sc_law fun cdv A outer s H E hr => by
  have NN := sc_law.nd
  exact (bd_cons (sd_set 1 NN (pd_lst (ad_cons (pd_scr 0 (by rfl) W.n_list bt_list) (ad_cons pd_int (ad_cons pd_int (ad_cons pd_int ad_nil))))))
    (bd_cons (sd_set 2 NN (pd_callL O.law_words_drawn hr (by rfl) (ad_cons (pd_v 1) (ad_cons (pd_bin o_add pd_int (pd_callL O.law_next hr (by rfl) (ad_cons (pd_v 1) (ad_cons pd_int ad_nil)))) ad_nil))))
    (bd_cons (sd_set 3 NN pd_dict0)
    (bd_cons (sd_for rfl (id_range1 (by rfl) W.n_range (pd_bin o_add pd_int (pd_callL O.law_next hr (by rfl) (ad_cons (pd_v 1) (ad_cons pd_int ad_nil))))) (gd_name 4 NN) (bd_cons (sd_par 6 7 rfl NN (ad_cons (pd_ix (ix_data hr.units) (pd_v 2) (pd_callL O.law_next hr (by rfl) (ad_cons (pd_v 1) (ad_cons (pd_callB b_len (by rfl) W.n_len bt_len (ad_cons (pd_v 2) ad_nil)) ad_nil)))) (ad_cons (pd_ix (ix_data hr.units) (pd_v 2) (pd_callL O.law_next hr (by rfl) (ad_cons (pd_v 1) (ad_cons (pd_callB b_len (by rfl) W.n_len bt_len (ad_cons (pd_v 2) ad_nil)) ad_nil)))) ad_nil)))
    (bd_one (sd_if (td_cmp (o_ne hr.units) (pd_v 6) (pd_v 7)) (bd_one (sd_put 3 hr.units (pd_bin o_add pd_str (pd_callTy b_str (by rfl) W.n_str bt_str (ad_cons (pd_v 4) ad_nil))) (pd_tup (ad_cons (pd_v 6) (ad_cons (pd_v 7) (ad_cons (pd_bin o_sub (pd_callL O.law_next hr (by rfl) (ad_cons (pd_v 1) (ad_cons pd_int ad_nil))) pd_int) ad_nil)))))) bd_nil))))
    (bd_cons (sd_set 5 NN (pd_call O.spread hr (by rfl) (ad_cons (pd_callTy (b_dictP rfl) (by rfl) W.n_dict bt_dict (ad_cons (pd_v 3) ad_nil)) ad_nil)))
    (bd_cons (sd_unp (pd_lc [("k", 4)] rfl NN (id_range1 (by rfl) W.n_range pd_int) (blk_ok n_law (defScope t_law) (by decide +kernel)) rfl (fun _ _ _ _ _ => (gd_name 4 NN)) (fun _ _ _ _ _ => tsd_nil) (fun _ _ _ _ _ => (pd_ix (ix_data hr.units) (pd_v 2) (pd_callL O.law_next hr (by rfl) (ad_cons (pd_v 1) (ad_cons (pd_callB b_len (by rfl) W.n_len bt_len (ad_cons (pd_v 2) ad_nil)) ad_nil)))))) (gd_lst 3 rfl (gds_cons (gd_name 6 NN) (gds_cons (gd_name 7 NN) (gds_cons (gd_name 8 NN) gds_nil))) (gsC_len (gsC_len (gsC_len gsN_len)))))
    (bd_cons (sd_set 9 NN (pd_tup (ad_cons (pd_v 6) (ad_cons (pd_v 7) (ad_cons (pd_bin o_sub (pd_callL O.law_next hr (by rfl) (ad_cons (pd_v 1) (ad_cons pd_int ad_nil))) pd_int) ad_nil)))))
    (bd_cons (sd_if (td_cmp (o_eq hr.units) (pd_ix (ix_data hr.units) (pd_v 5) pd_int) pd_str) (bd_one (sd_ret (pd_and (pd_cmp (o_eq hr.units) (pd_ix (ix_data hr.units) (pd_call O.most_apart hr (by rfl) (ad_cons (pd_callTy (b_dictP rfl) (by rfl) W.n_dict bt_dict (ad_cons (pd_v 3) ad_nil)) (ad_cons (pd_v 6) (ad_cons (pd_v 7) ad_nil)))) pd_int) pd_str) (pd_one (pd_cmp (o_eq hr.units) (pd_ix (ix_data hr.units) (pd_call O.follows hr (by rfl) (ad_cons (pd_callTy (b_dictP rfl) (by rfl) W.n_dict bt_dict (ad_cons (pd_v 3) ad_nil)) (ad_cons (pd_v 9) ad_nil))) pd_int) pd_str))))) bd_nil)
    (bd_cons (sd_set 10 NN (pd_tup (ad_cons pd_str (ad_cons (pd_callTy b_tuple (by rfl) W.n_tuple bt_tuple (ad_cons (pd_lc [("word", 21), ("number", 22)] rfl NN (id_seq (pd_ix (ix_data hr.units) (pd_v 5) pd_int)) (blk_ok n_law (defScope t_law) (by decide +kernel)) rfl (fun _ _ _ _ _ => (gd_tup 2 rfl (gds_cons (gd_name 21 NN) (gds_cons (gd_name 22 NN) gds_nil)) (gsC_len (gsC_len gsN_len)))) (fun _ _ _ _ _ => tsd_nil) (fun _ _ _ _ _ => (pd_tup (ad_cons (pd_v 21) (ad_cons (pd_bin o_add (pd_v 22) pd_int) ad_nil))))) ad_nil)) ad_nil))))
    (bd_cons (sd_if (td_cmp o_notB (pd_call O.judge_spread hr (by rfl) (ad_cons (pd_callTy (b_dictP rfl) (by rfl) W.n_dict bt_dict (ad_cons (pd_v 3) ad_nil)) (ad_cons (pd_v 10) ad_nil))) pd_bl) (bd_one (sd_ret pd_bl)) bd_nil)
    (bd_cons (sd_if (td_w (wd_or (td_cmp (o_eq hr.units) (pd_v 6) (pd_v 7)) (wd_or (td_cmp (o_eq hr.units) (pd_v 7) (pd_v 8)) (wd_or1 (td_cmp (o_eq hr.units) (pd_v 6) (pd_v 8)))))) (bd_one (sd_ret pd_bl)) bd_nil)
    (bd_cons (sd_set 11 NN (pd_lst (ad_cons (pd_call O.law_most hr (by rfl) (ad_cons (pd_v 3) (ad_cons (pd_v 6) (ad_cons (pd_v 7) ad_nil)))) (ad_cons (pd_call O.law_most hr (by rfl) (ad_cons (pd_v 3) (ad_cons (pd_v 7) (ad_cons (pd_v 8) ad_nil)))) (ad_cons (pd_call O.law_most hr (by rfl) (ad_cons (pd_v 3) (ad_cons (pd_v 6) (ad_cons (pd_v 8) ad_nil)))) ad_nil)))))
    (bd_cons (sd_if (td_w (wd_and (td_cmp (o_notInA hr.units) pd_non (pd_sl (pd_v 11) od_none (od_some pd_int))) (wd_and1 (td_w (wd_or (td_cmp o_isN (pd_ix (ix_data hr.units) (pd_v 11) pd_int) pd_non) (wd_or1 (td_cmp o_gt (pd_ix (ix_data hr.units) (pd_v 11) pd_int) (pd_bin o_add (pd_ix (ix_data hr.units) (pd_v 11) pd_int) (pd_ix (ix_data hr.units) (pd_v 11) pd_int))))))))) (bd_one (sd_ret pd_bl)) bd_nil)
    (bd_cons (sd_set 12 NN (pd_and (pd_cmp o_notN (pd_ix (ix_data hr.units) (pd_v 11) pd_int) pd_non) (pd_one (pd_cmp o_le (pd_ix (ix_data hr.units) (pd_v 11) pd_int) (pd_ix (ix_data hr.units) (pd_v 9) pd_int)))))
    (bd_cons (sd_if (td_cmp (o_ne hr.units) (pd_cmp (o_eq hr.units) (pd_ix (ix_data hr.units) (pd_call O.follows hr (by rfl) (ad_cons (pd_callTy (b_dictP rfl) (by rfl) W.n_dict bt_dict (ad_cons (pd_v 3) ad_nil)) (ad_cons (pd_v 9) ad_nil))) pd_int) pd_str) (pd_v 12)) (bd_one (sd_ret pd_bl)) bd_nil)
    (bd_cons (sd_set 13 NN (pd_callTy (b_dictP rfl) (by rfl) W.n_dict bt_dict (ad_cons (pd_bin o_add (pd_items rfl (pd_v 3) W.n_list bt_list) (pd_lst (ad_cons (pd_tup (ad_cons pd_str (ad_cons (pd_v 9) ad_nil))) ad_nil))) ad_nil)))
    (bd_cons (sd_if (td_w (wd_and (td_val (pd_v 12)) (wd_and1 (td_cmp (o_ne hr.units) (pd_lst (ad_cons (pd_call O.law_most hr (by rfl) (ad_cons (pd_v 13) (ad_cons (pd_v 6) (ad_cons (pd_v 7) ad_nil)))) (ad_cons (pd_call O.law_most hr (by rfl) (ad_cons (pd_v 13) (ad_cons (pd_v 7) (ad_cons (pd_v 8) ad_nil)))) (ad_cons (pd_call O.law_most hr (by rfl) (ad_cons (pd_v 13) (ad_cons (pd_v 6) (ad_cons (pd_v 8) ad_nil)))) ad_nil)))) (pd_v 11))))) (bd_one (sd_ret pd_bl)) bd_nil)
    (bd_cons (sd_if (td_cmp (o_eq hr.units) (pd_ix (ix_data hr.units) (pd_call O.spread hr (by rfl) (ad_cons (pd_callTy (b_dictP rfl) (by rfl) W.n_dict bt_dict (ad_cons (pd_v 13) ad_nil)) ad_nil)) pd_int) pd_str) (bd_one (sd_for rfl (id_seq (pd_lst (ad_cons (pd_tup (ad_cons (pd_tup (ad_cons (pd_v 6) (ad_cons (pd_v 7) ad_nil))) (ad_cons (pd_ix (ix_data hr.units) (pd_v 11) pd_int) ad_nil))) (ad_cons (pd_tup (ad_cons (pd_tup (ad_cons (pd_v 7) (ad_cons (pd_v 8) ad_nil))) (ad_cons (pd_ix (ix_data hr.units) (pd_v 11) pd_int) ad_nil))) ad_nil)))) (gd_tup 2 rfl (gds_cons (gd_name 17 NN) (gds_cons (gd_name 18 NN) gds_nil)) (gsC_len (gsC_len gsN_len))) (bd_cons (sd_set 19 NN (pd_call O.law_most hr (by rfl) (ad_cons (pd_v 13) (ad_cons (pd_ix (ix_data hr.units) (pd_v 17) pd_int) (ad_cons (pd_ix (ix_data hr.units) (pd_v 17) pd_int) ad_nil)))))
    (bd_one (sd_if (td_w (wd_and (td_cmp o_notN (pd_v 18) pd_non) (wd_and1 (td_w (wd_or (td_cmp o_isN (pd_v 19) pd_non) (wd_or1 (td_cmp o_gt (pd_v 19) (pd_v 18)))))))) (bd_one (sd_ret pd_bl)) bd_nil))))) bd_nil)
    (bd_cons (sd_set 14 NN (pd_callTy (b_dictP rfl) (by rfl) W.n_dict bt_dict (ad_cons (pd_lc [("name", 20)] rfl NN (id_seq (pd_v 2)) (blk_ok n_law (defScope t_law) (by decide +kernel)) rfl (fun _ _ _ _ _ => (gd_name 20 NN)) (fun _ _ _ _ _ => tsd_nil) (fun _ _ _ _ _ => (pd_tup (ad_cons (pd_v 20) (ad_cons (pd_callL O.law_next hr (by rfl) (ad_cons (pd_v 1) (ad_cons pd_int ad_nil))) ad_nil))))) ad_nil)))
    (bd_cons (sd_set 15 NN (pd_callTy (b_dictP rfl) (by rfl) W.n_dict bt_dict (ad_cons (pd_lcD [("name", 20)] rfl NN (PI.keysV 3) (blk_ok n_law (defScope t_law) (by decide +kernel)) rfl (fun _ _ _ _ _ => (gd_name 20 NN)) (fun _ _ _ _ _ => tsd_nil) (fun _ _ _ _ _ => (pd_tup (ad_cons (pd_v 20) (ad_cons (pd_tup (ad_cons (pd_ix (ix_data hr.units) (pd_ix (ix_data hr.units) (pd_v 3) (pd_v 20)) pd_int) (ad_cons (pd_ix (ix_data hr.units) (pd_ix (ix_data hr.units) (pd_v 3) (pd_v 20)) pd_int) (ad_cons (pd_bin o_sub (pd_bin o_add (pd_ix (ix_data hr.units) (pd_ix (ix_data hr.units) (pd_v 3) (pd_v 20)) pd_int) (pd_ix (ix_data hr.units) (pd_v 14) (pd_ix (ix_data hr.units) (pd_ix (ix_data hr.units) (pd_v 3) (pd_v 20)) pd_int))) (pd_ix (ix_data hr.units) (pd_v 14) (pd_ix (ix_data hr.units) (pd_ix (ix_data hr.units) (pd_v 3) (pd_v 20)) pd_int))) ad_nil)))) ad_nil))))) ad_nil)))
    (bd_cons (sd_set 16 NN (pd_call O.law_most hr (by rfl) (ad_cons (pd_v 15) (ad_cons (pd_v 6) (ad_cons (pd_v 7) ad_nil)))))
    (bd_cons (sd_if (td_cmp o_isN (pd_ix (ix_data hr.units) (pd_v 11) pd_int) pd_non) (bd_one (sd_ret (pd_cmp o_isN (pd_v 16) pd_non))) bd_nil)
    (bd_one (sd_ret (pd_cmp (o_eq hr.units) (pd_v 16) (pd_bin o_sub (pd_bin o_add (pd_ix (ix_data hr.units) (pd_v 11) pd_int) (pd_ix (ix_data hr.units) (pd_v 14) (pd_v 6))) (pd_ix (ix_data hr.units) (pd_v 14) (pd_v 7))))))))))))))))))))))))))))
end
/-- the defs, as objects of the top -/
structure Ob (K : PySem.W.Frag) (mg : Str → Option Value) : Prop where
  words_of : ∃ a fd, Fun K "words_of" "words_of" t_words_of a fd ∧ mg "words_of" = some (.ref a) ∧ Binds K fd ["notes"] []
  denied : ∃ a fd, Fun K "denied" "denied" t_denied a fd ∧ mg "denied" = some (.ref a) ∧ Binds K fd ["note"] []
  spread : ∃ a fd, Fun K "spread" "spread" t_spread a fd ∧ mg "spread" = some (.ref a) ∧ Binds K fd ["notes"] []
  ring : ∃ a fd, Fun K "ring" "ring" t_ring a fd ∧ mg "ring" = some (.ref a) ∧ Binds K fd ["notes", "why", "word"] []
  is_row : ∃ a fd, Fun K "is_row" "is_row" t_is_row a fd ∧ mg "is_row" = some (.ref a) ∧ Binds K fd ["notes", "pairs"] []
  is_path : ∃ a fd, Fun K "is_path" "is_path" t_is_path a fd ∧ mg "is_path" = some (.ref a) ∧ Binds K fd ["notes", "names", "start", "end"] []
  judge_spread : ∃ a fd, Fun K "judge_spread" "judge_spread" t_judge_spread a fd ∧ mg "judge_spread" = some (.ref a) ∧ Binds K fd ["notes", "told"] []
  most_apart : ∃ a fd, Fun K "most_apart" "most_apart" t_most_apart a fd ∧ mg "most_apart" = some (.ref a) ∧ Binds K fd ["notes", "one", "other"] []
  follows : ∃ a fd, Fun K "follows" "follows" t_follows a fd ∧ mg "follows" = some (.ref a) ∧ Binds K fd ["notes", "goal"] []
  law_next : ∃ a fd, Fun K "_law_next" "_law_next" t_law_next a fd ∧ mg "_law_next" = some (.ref a) ∧ Binds K fd ["state", "limit"] []
  law_same : ∃ a fd, Fun K "_law_same" "_law_same" t_law_same a fd ∧ mg "_law_same" = some (.ref a) ∧ Binds K fd ["actual", "expected"] []
  law_words_drawn : ∃ a fd, Fun K "_law_words_drawn" "_law_words_drawn" t_law_words_drawn a fd ∧ mg "_law_words_drawn" = some (.ref a) ∧ Binds K fd ["state", "count"] []
  law_most : ∃ a fd, Fun K "_law_most" "_law_most" t_law_most a fd ∧ mg "_law_most" = some (.ref a) ∧ Binds K fd ["notes", "one", "other"] []
  law : ∃ a fd, Fun K "law" "law" t_law a fd ∧ mg "law" = some (.ref a) ∧ Binds K fd ["script"] []
theorem ok_lvl {P : Program} {w : World} {K : PySem.W.Frag} {mg : Str → Option Value} {base : Heap} (W : Wh K mg) (B : Ob K mg) : ∀ k, OkF P w K mg base k (lvl k)
  | 0 => { words_of := let ⟨_, _, F, m, b⟩ := B.words_of; Cl.of fn_none m F.kp b, denied := let ⟨_, _, F, m, b⟩ := B.denied; Cl.of fn_none m F.kp b, spread := let ⟨_, _, F, m, b⟩ := B.spread; Cl.of fn_none m F.kp b, ring := let ⟨_, _, F, m, b⟩ := B.ring; Cl.of fn_none m F.kp b, is_row := let ⟨_, _, F, m, b⟩ := B.is_row; Cl.of fn_none m F.kp b, is_path := let ⟨_, _, F, m, b⟩ := B.is_path; Cl.of fn_none m F.kp b, judge_spread := let ⟨_, _, F, m, b⟩ := B.judge_spread; Cl.of fn_none m F.kp b, most_apart := let ⟨_, _, F, m, b⟩ := B.most_apart; Cl.of fn_none m F.kp b, follows := let ⟨_, _, F, m, b⟩ := B.follows; Cl.of fn_none m F.kp b, law_next := let ⟨_, _, F, m, b⟩ := B.law_next; Cl.of fn_none m F.kp b, law_same := let ⟨_, _, F, m, b⟩ := B.law_same; Cl.of fn_none m F.kp b, law_words_drawn := let ⟨_, _, F, m, b⟩ := B.law_words_drawn; Cl.of fn_none m F.kp b, law_most := let ⟨_, _, F, m, b⟩ := B.law_most; Cl.of fn_none m F.kp b, law := let ⟨_, _, F, m, b⟩ := B.law; Cl.of fn_none m F.kp b }
  | k + 1 => { words_of := let ⟨_, _, F, m, b⟩ := B.words_of; Cl.of (ok_words_of W (ok_lvl W B k) F) m F.kp b, denied := let ⟨_, _, F, m, b⟩ := B.denied; Cl.of (ok_denied W (ok_lvl W B k) F) m F.kp b, spread := let ⟨_, _, F, m, b⟩ := B.spread; Cl.of (ok_spread W (ok_lvl W B k) F) m F.kp b, ring := let ⟨_, _, F, m, b⟩ := B.ring; Cl.of (ok_ring W (ok_lvl W B k) F) m F.kp b, is_row := let ⟨_, _, F, m, b⟩ := B.is_row; Cl.of (ok_is_row W (ok_lvl W B k) F) m F.kp b, is_path := let ⟨_, _, F, m, b⟩ := B.is_path; Cl.of (ok_is_path W (ok_lvl W B k) F) m F.kp b, judge_spread := let ⟨_, _, F, m, b⟩ := B.judge_spread; Cl.of (ok_judge_spread W (ok_lvl W B k) F) m F.kp b, most_apart := let ⟨_, _, F, m, b⟩ := B.most_apart; Cl.of (ok_most_apart W (ok_lvl W B k) F) m F.kp b, follows := let ⟨_, _, F, m, b⟩ := B.follows; Cl.of (ok_follows W (ok_lvl W B k) F) m F.kp b, law_next := let ⟨_, _, F, m, b⟩ := B.law_next; Cl.of (ok_law_next W (ok_lvl W B k) F) m F.kp b, law_same := let ⟨_, _, F, m, b⟩ := B.law_same; Cl.of (ok_law_same W (ok_lvl W B k) F) m F.kp b, law_words_drawn := let ⟨_, _, F, m, b⟩ := B.law_words_drawn; Cl.of (ok_law_words_drawn W (ok_lvl W B k) F) m F.kp b, law_most := let ⟨_, _, F, m, b⟩ := B.law_most; Cl.of (ok_law_most W (ok_lvl W B k) F) m F.kp b, law := let ⟨_, _, F, m, b⟩ := B.law; Cl.of (ok_law W (ok_lvl W B k) F) m F.kp b }
/-- the script, as the law gets it -/
def spLaw (K : PySem.W.Frag) : Sp := fun vs H Q _ => ∃ (a : Addr) (ns : List Int), vs = [.ref a] ∧ SqL K H a (ns.map V.int) ∧ Only H ∧ ns.length ≤ 63 ∧ ∀ H', Q (.bl true) H'
def Holds : Prop := ∀ ns : List Int, ns.length ≤ 63 → (lvl 30).law [(.scr, .list (ns.map .int))] = some (.kept (.bool true), none)
theorem klst_of {K : PySem.W.Frag} {H : Hp} {a : Addr} {ns : List Int} (h : SqL K H a (ns.map V.int)) (o : Only H) : KLst K H a ns := by
  refine ⟨h, ?_⟩
  rcases h with (h | h) | h
  · rcases o a with z | ⟨_, _, z⟩ <;> (rw [h] at z; cases z)
  · exact .inl h
  · exact .inr fun H' => .inr h
theorem ok_top {P : Program} {w : World} {K : PySem.W.Frag} {mg : Str → Option Value} {base : Heap} {f : Addr} {fd : FuncData} (hl : Holds) (W : Wh K mg) (B : Ob K mg) (F : Fun K "law" "law" t_law f fd) : FnOk P w K mg base CX0 30 f fd ["script"] (spLaw K) :=
  (ok_law W (ok_lvl W B 29) F).imp fun vs H Q E h => by
    obtain ⟨a, ns, rfl, hs, on, hn, q⟩ := h
    refine ⟨fun _ => False, [(.scr, .list (ns.map .int))], .kept (.bool true), none, ⟨rfl, fun i st d h => ?_, fun i j b st d st' d' h1 h2 h3 h4 h5 h6 => ?_, fun _ z => z.elim⟩, hl ns hn, fun v S' H' fc rr _ => ?_⟩
    · cases i with
      | zero =>
        simp at h
        obtain ⟨rfl, rfl⟩ := h
        exact ⟨.ref a, rfl, a, ns, rfl, rfl, klst_of hs on⟩
      | succ i => simp at h
    · cases i with
      | zero => simp at h1; obtain ⟨rfl, rfl⟩ := h1; cases h3
      | succ i => simp at h1
    · cases rr
      exact q H'
set_option maxHeartbeats 0 in
theorem all_mk (hl : Holds) {P : Program} {w : World} {K : PySem.W.Frag} {h : Heap} {mg : Str → Option Value} {fa : Addr} (X : K.In h) (G : h.Ns mainGlobals mg) (hfa : mg "law" = some (.ref fa))
    {oc_words_of kV_words_of dc_words_of pm_words_of cd_words_of ct_words_of : Value} {od_words_of an_words_of : Option Addr} {sl_words_of : Array (Option Value)} {f_words_of : Addr}
    (a_words_of : PySem.W.nsIn K mainGlobals "words_of" = some (some (.ref f_words_of)))
    (l_words_of : K.lookup f_words_of = some ⟨oc_words_of, od_words_of, .func (PySem.W.fnOf "words_of" "words_of" (defArgs t_words_of) (defBody t_words_of) (defScope t_words_of) .none kV_words_of dc_words_of pm_words_of an_words_of cd_words_of ct_words_of), sl_words_of⟩)
    (c_words_of : PySem.W.codeIn K cd_words_of "words_of" = true) (k_words_of : PySem.W.keepIn K (.ref f_words_of) = true)
    {oc_denied kV_denied dc_denied pm_denied cd_denied ct_denied : Value} {od_denied an_denied : Option Addr} {sl_denied : Array (Option Value)} {f_denied : Addr}
    (a_denied : PySem.W.nsIn K mainGlobals "denied" = some (some (.ref f_denied)))
    (l_denied : K.lookup f_denied = some ⟨oc_denied, od_denied, .func (PySem.W.fnOf "denied" "denied" (defArgs t_denied) (defBody t_denied) (defScope t_denied) .none kV_denied dc_denied pm_denied an_denied cd_denied ct_denied), sl_denied⟩)
    (c_denied : PySem.W.codeIn K cd_denied "denied" = true) (k_denied : PySem.W.keepIn K (.ref f_denied) = true)
    {oc_spread kV_spread dc_spread pm_spread cd_spread ct_spread : Value} {od_spread an_spread : Option Addr} {sl_spread : Array (Option Value)} {f_spread : Addr}
    (a_spread : PySem.W.nsIn K mainGlobals "spread" = some (some (.ref f_spread)))
    (l_spread : K.lookup f_spread = some ⟨oc_spread, od_spread, .func (PySem.W.fnOf "spread" "spread" (defArgs t_spread) (defBody t_spread) (defScope t_spread) .none kV_spread dc_spread pm_spread an_spread cd_spread ct_spread), sl_spread⟩)
    (c_spread : PySem.W.codeIn K cd_spread "spread" = true) (k_spread : PySem.W.keepIn K (.ref f_spread) = true)
    {oc_ring kV_ring dc_ring pm_ring cd_ring ct_ring : Value} {od_ring an_ring : Option Addr} {sl_ring : Array (Option Value)} {f_ring : Addr}
    (a_ring : PySem.W.nsIn K mainGlobals "ring" = some (some (.ref f_ring)))
    (l_ring : K.lookup f_ring = some ⟨oc_ring, od_ring, .func (PySem.W.fnOf "ring" "ring" (defArgs t_ring) (defBody t_ring) (defScope t_ring) .none kV_ring dc_ring pm_ring an_ring cd_ring ct_ring), sl_ring⟩)
    (c_ring : PySem.W.codeIn K cd_ring "ring" = true) (k_ring : PySem.W.keepIn K (.ref f_ring) = true)
    {oc_is_row kV_is_row dc_is_row pm_is_row cd_is_row ct_is_row : Value} {od_is_row an_is_row : Option Addr} {sl_is_row : Array (Option Value)} {f_is_row : Addr}
    (a_is_row : PySem.W.nsIn K mainGlobals "is_row" = some (some (.ref f_is_row)))
    (l_is_row : K.lookup f_is_row = some ⟨oc_is_row, od_is_row, .func (PySem.W.fnOf "is_row" "is_row" (defArgs t_is_row) (defBody t_is_row) (defScope t_is_row) .none kV_is_row dc_is_row pm_is_row an_is_row cd_is_row ct_is_row), sl_is_row⟩)
    (c_is_row : PySem.W.codeIn K cd_is_row "is_row" = true) (k_is_row : PySem.W.keepIn K (.ref f_is_row) = true)
    {oc_is_path kV_is_path dc_is_path pm_is_path cd_is_path ct_is_path : Value} {od_is_path an_is_path : Option Addr} {sl_is_path : Array (Option Value)} {f_is_path : Addr}
    (a_is_path : PySem.W.nsIn K mainGlobals "is_path" = some (some (.ref f_is_path)))
    (l_is_path : K.lookup f_is_path = some ⟨oc_is_path, od_is_path, .func (PySem.W.fnOf "is_path" "is_path" (defArgs t_is_path) (defBody t_is_path) (defScope t_is_path) .none kV_is_path dc_is_path pm_is_path an_is_path cd_is_path ct_is_path), sl_is_path⟩)
    (c_is_path : PySem.W.codeIn K cd_is_path "is_path" = true) (k_is_path : PySem.W.keepIn K (.ref f_is_path) = true)
    {oc_judge_spread kV_judge_spread dc_judge_spread pm_judge_spread cd_judge_spread ct_judge_spread : Value} {od_judge_spread an_judge_spread : Option Addr} {sl_judge_spread : Array (Option Value)} {f_judge_spread : Addr}
    (a_judge_spread : PySem.W.nsIn K mainGlobals "judge_spread" = some (some (.ref f_judge_spread)))
    (l_judge_spread : K.lookup f_judge_spread = some ⟨oc_judge_spread, od_judge_spread, .func (PySem.W.fnOf "judge_spread" "judge_spread" (defArgs t_judge_spread) (defBody t_judge_spread) (defScope t_judge_spread) .none kV_judge_spread dc_judge_spread pm_judge_spread an_judge_spread cd_judge_spread ct_judge_spread), sl_judge_spread⟩)
    (c_judge_spread : PySem.W.codeIn K cd_judge_spread "judge_spread" = true) (k_judge_spread : PySem.W.keepIn K (.ref f_judge_spread) = true)
    {oc_most_apart kV_most_apart dc_most_apart pm_most_apart cd_most_apart ct_most_apart : Value} {od_most_apart an_most_apart : Option Addr} {sl_most_apart : Array (Option Value)} {f_most_apart : Addr}
    (a_most_apart : PySem.W.nsIn K mainGlobals "most_apart" = some (some (.ref f_most_apart)))
    (l_most_apart : K.lookup f_most_apart = some ⟨oc_most_apart, od_most_apart, .func (PySem.W.fnOf "most_apart" "most_apart" (defArgs t_most_apart) (defBody t_most_apart) (defScope t_most_apart) .none kV_most_apart dc_most_apart pm_most_apart an_most_apart cd_most_apart ct_most_apart), sl_most_apart⟩)
    (c_most_apart : PySem.W.codeIn K cd_most_apart "most_apart" = true) (k_most_apart : PySem.W.keepIn K (.ref f_most_apart) = true)
    {oc_follows kV_follows dc_follows pm_follows cd_follows ct_follows : Value} {od_follows an_follows : Option Addr} {sl_follows : Array (Option Value)} {f_follows : Addr}
    (a_follows : PySem.W.nsIn K mainGlobals "follows" = some (some (.ref f_follows)))
    (l_follows : K.lookup f_follows = some ⟨oc_follows, od_follows, .func (PySem.W.fnOf "follows" "follows" (defArgs t_follows) (defBody t_follows) (defScope t_follows) .none kV_follows dc_follows pm_follows an_follows cd_follows ct_follows), sl_follows⟩)
    (c_follows : PySem.W.codeIn K cd_follows "follows" = true) (k_follows : PySem.W.keepIn K (.ref f_follows) = true)
    {oc_law_next kV_law_next dc_law_next pm_law_next cd_law_next ct_law_next : Value} {od_law_next an_law_next : Option Addr} {sl_law_next : Array (Option Value)} {f_law_next : Addr}
    (a_law_next : PySem.W.nsIn K mainGlobals "_law_next" = some (some (.ref f_law_next)))
    (l_law_next : K.lookup f_law_next = some ⟨oc_law_next, od_law_next, .func (PySem.W.fnOf "_law_next" "_law_next" (defArgs t_law_next) (defBody t_law_next) (defScope t_law_next) .none kV_law_next dc_law_next pm_law_next an_law_next cd_law_next ct_law_next), sl_law_next⟩)
    (c_law_next : PySem.W.codeIn K cd_law_next "_law_next" = true) (k_law_next : PySem.W.keepIn K (.ref f_law_next) = true)
    {oc_law_same kV_law_same dc_law_same pm_law_same cd_law_same ct_law_same : Value} {od_law_same an_law_same : Option Addr} {sl_law_same : Array (Option Value)} {f_law_same : Addr}
    (a_law_same : PySem.W.nsIn K mainGlobals "_law_same" = some (some (.ref f_law_same)))
    (l_law_same : K.lookup f_law_same = some ⟨oc_law_same, od_law_same, .func (PySem.W.fnOf "_law_same" "_law_same" (defArgs t_law_same) (defBody t_law_same) (defScope t_law_same) .none kV_law_same dc_law_same pm_law_same an_law_same cd_law_same ct_law_same), sl_law_same⟩)
    (c_law_same : PySem.W.codeIn K cd_law_same "_law_same" = true) (k_law_same : PySem.W.keepIn K (.ref f_law_same) = true)
    {oc_law_words_drawn kV_law_words_drawn dc_law_words_drawn pm_law_words_drawn cd_law_words_drawn ct_law_words_drawn : Value} {od_law_words_drawn an_law_words_drawn : Option Addr} {sl_law_words_drawn : Array (Option Value)} {f_law_words_drawn : Addr}
    (a_law_words_drawn : PySem.W.nsIn K mainGlobals "_law_words_drawn" = some (some (.ref f_law_words_drawn)))
    (l_law_words_drawn : K.lookup f_law_words_drawn = some ⟨oc_law_words_drawn, od_law_words_drawn, .func (PySem.W.fnOf "_law_words_drawn" "_law_words_drawn" (defArgs t_law_words_drawn) (defBody t_law_words_drawn) (defScope t_law_words_drawn) .none kV_law_words_drawn dc_law_words_drawn pm_law_words_drawn an_law_words_drawn cd_law_words_drawn ct_law_words_drawn), sl_law_words_drawn⟩)
    (c_law_words_drawn : PySem.W.codeIn K cd_law_words_drawn "_law_words_drawn" = true) (k_law_words_drawn : PySem.W.keepIn K (.ref f_law_words_drawn) = true)
    {oc_law_most kV_law_most dc_law_most pm_law_most cd_law_most ct_law_most : Value} {od_law_most an_law_most : Option Addr} {sl_law_most : Array (Option Value)} {f_law_most : Addr}
    (a_law_most : PySem.W.nsIn K mainGlobals "_law_most" = some (some (.ref f_law_most)))
    (l_law_most : K.lookup f_law_most = some ⟨oc_law_most, od_law_most, .func (PySem.W.fnOf "_law_most" "_law_most" (defArgs t_law_most) (defBody t_law_most) (defScope t_law_most) .none kV_law_most dc_law_most pm_law_most an_law_most cd_law_most ct_law_most), sl_law_most⟩)
    (c_law_most : PySem.W.codeIn K cd_law_most "_law_most" = true) (k_law_most : PySem.W.keepIn K (.ref f_law_most) = true)
    {oc_law kV_law dc_law pm_law cd_law ct_law : Value} {od_law an_law : Option Addr} {sl_law : Array (Option Value)} {f_law : Addr}
    (a_law : PySem.W.nsIn K mainGlobals "law" = some (some (.ref f_law)))
    (l_law : K.lookup f_law = some ⟨oc_law, od_law, .func (PySem.W.fnOf "law" "law" (defArgs t_law) (defBody t_law) (defScope t_law) .none kV_law dc_law pm_law an_law cd_law ct_law), sl_law⟩)
    (c_law : PySem.W.codeIn K cd_law "law" = true) (k_law : PySem.W.keepIn K (.ref f_law) = true)
    (z_bool : PySem.W.nsIn K mainGlobals "bool" = some none)
    (z_dict : PySem.W.nsIn K mainGlobals "dict" = some none)
    (z_int : PySem.W.nsIn K mainGlobals "int" = some none)
    (z_isinstance : PySem.W.nsIn K mainGlobals "isinstance" = some none)
    (z_len : PySem.W.nsIn K mainGlobals "len" = some none)
    (z_list : PySem.W.nsIn K mainGlobals "list" = some none)
    (z_range : PySem.W.nsIn K mainGlobals "range" = some none)
    (z_set : PySem.W.nsIn K mainGlobals "set" = some none)
    (z_sorted : PySem.W.nsIn K mainGlobals "sorted" = some none)
    (z_str : PySem.W.nsIn K mainGlobals "str" = some none)
    (z_tuple : PySem.W.nsIn K mainGlobals "tuple" = some none)
    (t_bool_NoneType : PySem.W.kitOne K (.type "NoneType") (.type "bool") = some false)
    (t_bool_bool : PySem.W.kitOne K (.type "bool") (.type "bool") = some true)
    (t_bool_int : PySem.W.kitOne K (.type "int") (.type "bool") = some false)
    (t_bool_str : PySem.W.kitOne K (.type "str") (.type "bool") = some false)
    (t_bool_list : PySem.W.kitOne K (.type "list") (.type "bool") = some false)
    (t_bool_tuple : PySem.W.kitOne K (.type "tuple") (.type "bool") = some false)
    (t_bool_dict : PySem.W.kitOne K (.type "dict") (.type "bool") = some false)
    (t_int_NoneType : PySem.W.kitOne K (.type "NoneType") (.type "int") = some false)
    (t_int_bool : PySem.W.kitOne K (.type "bool") (.type "int") = some true)
    (t_int_int : PySem.W.kitOne K (.type "int") (.type "int") = some true)
    (t_int_str : PySem.W.kitOne K (.type "str") (.type "int") = some false)
    (t_int_list : PySem.W.kitOne K (.type "list") (.type "int") = some false)
    (t_int_tuple : PySem.W.kitOne K (.type "tuple") (.type "int") = some false)
    (t_int_dict : PySem.W.kitOne K (.type "dict") (.type "int") = some false)
    (t_list_NoneType : PySem.W.kitOne K (.type "NoneType") (.type "list") = some false)
    (t_list_bool : PySem.W.kitOne K (.type "bool") (.type "list") = some false)
    (t_list_int : PySem.W.kitOne K (.type "int") (.type "list") = some false)
    (t_list_str : PySem.W.kitOne K (.type "str") (.type "list") = some false)
    (t_list_list : PySem.W.kitOne K (.type "list") (.type "list") = some true)
    (t_list_tuple : PySem.W.kitOne K (.type "tuple") (.type "list") = some false)
    (t_list_dict : PySem.W.kitOne K (.type "dict") (.type "list") = some false)
    (t_str_NoneType : PySem.W.kitOne K (.type "NoneType") (.type "str") = some false)
    (t_str_bool : PySem.W.kitOne K (.type "bool") (.type "str") = some false)
    (t_str_int : PySem.W.kitOne K (.type "int") (.type "str") = some false)
    (t_str_str : PySem.W.kitOne K (.type "str") (.type "str") = some true)
    (t_str_list : PySem.W.kitOne K (.type "list") (.type "str") = some false)
    (t_str_tuple : PySem.W.kitOne K (.type "tuple") (.type "str") = some false)
    (t_str_dict : PySem.W.kitOne K (.type "dict") (.type "str") = some false)
    (t_tuple_NoneType : PySem.W.kitOne K (.type "NoneType") (.type "tuple") = some false)
    (t_tuple_bool : PySem.W.kitOne K (.type "bool") (.type "tuple") = some false)
    (t_tuple_int : PySem.W.kitOne K (.type "int") (.type "tuple") = some false)
    (t_tuple_str : PySem.W.kitOne K (.type "str") (.type "tuple") = some false)
    (t_tuple_list : PySem.W.kitOne K (.type "list") (.type "tuple") = some false)
    (t_tuple_tuple : PySem.W.kitOne K (.type "tuple") (.type "tuple") = some true)
    (t_tuple_dict : PySem.W.kitOne K (.type "dict") (.type "tuple") = some false) :
    ∃ fd : FuncData, (∀ (s : Shared) (v : Value), BindsTo s fd ⟨[v], []⟩ [("script", v)]) ∧ ∀ base : Heap, K.In base → base.Ns mainGlobals mg → FnOk P w K mg base CX0 30 fa fd ["script"] (spLaw K) := by
  have e := hfa.symm.trans (PySem.W.mg_of X G a_law)
  cases e
  have W : Wh K mg := { n_bool := PySem.W.mg_none_of X G z_bool, n_dict := PySem.W.mg_none_of X G z_dict, n_int := PySem.W.mg_none_of X G z_int, n_isinstance := PySem.W.mg_none_of X G z_isinstance, n_len := PySem.W.mg_none_of X G z_len, n_list := PySem.W.mg_none_of X G z_list, n_range := PySem.W.mg_none_of X G z_range, n_set := PySem.W.mg_none_of X G z_set, n_sorted := PySem.W.mg_none_of X G z_sorted, n_str := PySem.W.mg_none_of X G z_str, n_tuple := PySem.W.mg_none_of X G z_tuple, k_bool := ⟨fun d => by cases d <;> assumption⟩, k_int := ⟨fun d => by cases d <;> assumption⟩, k_list := ⟨fun d => by cases d <;> assumption⟩, k_str := ⟨fun d => by cases d <;> assumption⟩, k_tuple := ⟨fun d => by cases d <;> assumption⟩ }
  have B : Ob K mg := { words_of := ⟨_, _, fun_mk (st := t_words_of) l_words_of c_words_of k_words_of, PySem.W.mg_of X G a_words_of, (fun_mk (st := t_words_of) l_words_of c_words_of k_words_of).binds (ps := ["notes"]) (fun _ _ _ _ _ _ us hl => (match us, hl with | [_], _ => rfl))⟩, denied := ⟨_, _, fun_mk (st := t_denied) l_denied c_denied k_denied, PySem.W.mg_of X G a_denied, (fun_mk (st := t_denied) l_denied c_denied k_denied).binds (ps := ["note"]) (fun _ _ _ _ _ _ us hl => (match us, hl with | [_], _ => rfl))⟩, spread := ⟨_, _, fun_mk (st := t_spread) l_spread c_spread k_spread, PySem.W.mg_of X G a_spread, (fun_mk (st := t_spread) l_spread c_spread k_spread).binds (ps := ["notes"]) (fun _ _ _ _ _ _ us hl => (match us, hl with | [_], _ => rfl))⟩, ring := ⟨_, _, fun_mk (st := t_ring) l_ring c_ring k_ring, PySem.W.mg_of X G a_ring, (fun_mk (st := t_ring) l_ring c_ring k_ring).binds (ps := ["notes", "why", "word"]) (fun _ _ _ _ _ _ us hl => (match us, hl with | [_, _, _], _ => rfl))⟩, is_row := ⟨_, _, fun_mk (st := t_is_row) l_is_row c_is_row k_is_row, PySem.W.mg_of X G a_is_row, (fun_mk (st := t_is_row) l_is_row c_is_row k_is_row).binds (ps := ["notes", "pairs"]) (fun _ _ _ _ _ _ us hl => (match us, hl with | [_, _], _ => rfl))⟩, is_path := ⟨_, _, fun_mk (st := t_is_path) l_is_path c_is_path k_is_path, PySem.W.mg_of X G a_is_path, (fun_mk (st := t_is_path) l_is_path c_is_path k_is_path).binds (ps := ["notes", "names", "start", "end"]) (fun _ _ _ _ _ _ us hl => (match us, hl with | [_, _, _, _], _ => rfl))⟩, judge_spread := ⟨_, _, fun_mk (st := t_judge_spread) l_judge_spread c_judge_spread k_judge_spread, PySem.W.mg_of X G a_judge_spread, (fun_mk (st := t_judge_spread) l_judge_spread c_judge_spread k_judge_spread).binds (ps := ["notes", "told"]) (fun _ _ _ _ _ _ us hl => (match us, hl with | [_, _], _ => rfl))⟩, most_apart := ⟨_, _, fun_mk (st := t_most_apart) l_most_apart c_most_apart k_most_apart, PySem.W.mg_of X G a_most_apart, (fun_mk (st := t_most_apart) l_most_apart c_most_apart k_most_apart).binds (ps := ["notes", "one", "other"]) (fun _ _ _ _ _ _ us hl => (match us, hl with | [_, _, _], _ => rfl))⟩, follows := ⟨_, _, fun_mk (st := t_follows) l_follows c_follows k_follows, PySem.W.mg_of X G a_follows, (fun_mk (st := t_follows) l_follows c_follows k_follows).binds (ps := ["notes", "goal"]) (fun _ _ _ _ _ _ us hl => (match us, hl with | [_, _], _ => rfl))⟩, law_next := ⟨_, _, fun_mk (st := t_law_next) l_law_next c_law_next k_law_next, PySem.W.mg_of X G a_law_next, (fun_mk (st := t_law_next) l_law_next c_law_next k_law_next).binds (ps := ["state", "limit"]) (fun _ _ _ _ _ _ us hl => (match us, hl with | [_, _], _ => rfl))⟩, law_same := ⟨_, _, fun_mk (st := t_law_same) l_law_same c_law_same k_law_same, PySem.W.mg_of X G a_law_same, (fun_mk (st := t_law_same) l_law_same c_law_same k_law_same).binds (ps := ["actual", "expected"]) (fun _ _ _ _ _ _ us hl => (match us, hl with | [_, _], _ => rfl))⟩, law_words_drawn := ⟨_, _, fun_mk (st := t_law_words_drawn) l_law_words_drawn c_law_words_drawn k_law_words_drawn, PySem.W.mg_of X G a_law_words_drawn, (fun_mk (st := t_law_words_drawn) l_law_words_drawn c_law_words_drawn k_law_words_drawn).binds (ps := ["state", "count"]) (fun _ _ _ _ _ _ us hl => (match us, hl with | [_, _], _ => rfl))⟩, law_most := ⟨_, _, fun_mk (st := t_law_most) l_law_most c_law_most k_law_most, PySem.W.mg_of X G a_law_most, (fun_mk (st := t_law_most) l_law_most c_law_most k_law_most).binds (ps := ["notes", "one", "other"]) (fun _ _ _ _ _ _ us hl => (match us, hl with | [_, _, _], _ => rfl))⟩, law := ⟨_, _, fun_mk (st := t_law) l_law c_law k_law, PySem.W.mg_of X G a_law, (fun_mk (st := t_law) l_law c_law k_law).binds (ps := ["script"]) (fun _ _ _ _ _ _ us hl => (match us, hl with | [_], _ => rfl))⟩ }
  exact ⟨_, fun s v => .of_eq rfl, fun base _ _ => ok_top hl W B (fun_mk (st := t_law) l_law c_law k_law)⟩
end PyK79

/-! walks in notes of distances -/
namespace PyK79
open PySem PySem.Spec L2 PyI
abbrev Ed := Str × Str × Int
def tot (es : List Ed) : Int := (es.map fun e => e.2.2).sum
def Wk (E : Ed → Prop) : Str → List Ed → Str → Prop
  | u, [], v => u = v
  | u, e :: es, v => E e ∧ e.1 = u ∧ Wk E e.2.1 es v
def Sat (E : Ed → Prop) (x : Str → Int) : Prop := ∀ e, E e → x e.1 ≤ x e.2.1 + e.2.2
def Feas (E : Ed → Prop) : Prop := ∃ x, Sat E x
@[simp] theorem tot_nil : tot [] = 0 := rfl
@[simp] theorem tot_cons (e : Ed) (es : List Ed) : tot (e :: es) = e.2.2 + tot es := by simp [tot]
@[simp] theorem tot_app (p q : List Ed) : tot (p ++ q) = tot p + tot q := by simp [tot]
section
variable {E E' : Ed → Prop} {x : Str → Int} {u v w : Str}
theorem Wk.app : ∀ {p q : List Ed} {u : Str}, Wk E u (p ++ q) v ↔ ∃ w, Wk E u p w ∧ Wk E w q v
  | [], q, u => ⟨fun h => ⟨u, rfl, h⟩, fun ⟨w, h1, h2⟩ => by cases h1; exact h2⟩
  | e :: p, q, u => by
    constructor
    · rintro ⟨h1, h2, h3⟩
      obtain ⟨w, h4, h5⟩ := Wk.app.mp h3
      exact ⟨w, ⟨h1, h2, h4⟩, h5⟩
    · rintro ⟨w, ⟨h1, h2, h3⟩, h4⟩
      exact ⟨h1, h2, Wk.app.mpr ⟨w, h3, h4⟩⟩
theorem Wk.snoc {p : List Ed} {e : Ed} (h : Wk E u p e.1) (he : E e) : Wk E u (p ++ [e]) e.2.1 := Wk.app.mpr ⟨_, h, he, rfl, rfl⟩
theorem Wk.mono (h : ∀ e, E e → E' e) : ∀ {es : List Ed} {u : Str}, Wk E u es v → Wk E' u es v
  | [], _, r => r
  | _ :: _, _, ⟨h1, h2, h3⟩ => ⟨h _ h1, h2, Wk.mono h h3⟩
theorem Wk.le (s : Sat E x) : ∀ {es : List Ed} {u : Str}, Wk E u es v → x u ≤ x v + tot es
  | [], u, h => by cases h; simp
  | e :: es, u, ⟨h1, h2, h3⟩ => by
    have a := s e h1
    have b := Wk.le s h3
    rw [tot_cons]
    rw [h2] at a
    omega
/-- a row without doubles within another one -/
theorem nodup_le : ∀ {l W : List Str}, l.Nodup → (∀ a ∈ l, a ∈ W) → l.length ≤ W.length
  | [], _, _, _ => Nat.zero_le _
  | a :: l, W, hn, h => by
    obtain ⟨h1, h2⟩ := List.nodup_cons.mp hn
    have hm := h a List.mem_cons_self
    have := nodup_le (l := l) (W := W.erase a) h2 fun b hb => (List.mem_erase_of_ne (by rintro rfl; exact h1 hb)).mpr (h b (List.mem_cons_of_mem _ hb))
    rw [List.length_erase_of_mem hm] at this
    have hp : 0 < W.length := List.length_pos_of_mem hm
    rw [List.length_cons]; omega
theorem not_nodup : ∀ {es : List Ed}, ¬ (es.map (·.1)).Nodup → ∃ p e q e2 r, es = p ++ e :: q ++ e2 :: r ∧ e.1 = e2.1
  | [], h => absurd (by simp) h
  | e :: es, h => by
    by_cases hm : e.1 ∈ es.map (·.1)
    · obtain ⟨e2, h1, h2⟩ := List.mem_map.mp hm
      obtain ⟨q, r, rfl⟩ := List.append_of_mem h1
      exact ⟨[], e, q, e2, r, by simp, h2.symm⟩
    · have : ¬ (es.map (·.1)).Nodup := fun z => h (List.nodup_cons.mpr ⟨hm, z⟩)
      obtain ⟨p, e', q, e2, r, rfl, h2⟩ := not_nodup this
      exact ⟨e :: p, e', q, e2, r, by simp, h2⟩
/-- no walk need be longer than there are starts -/
theorem shorten {W : List Str} (f : Feas E) (hW : ∀ e, E e → e.1 ∈ W) : ∀ (n : Nat) {es : List Ed} {u v : Str}, es.length ≤ n → Wk E u es v → ∃ es', es'.length ≤ W.length ∧ Wk E u es' v ∧ tot es' ≤ tot es
  | 0, es, u, v, hn, h => ⟨es, by omega, h, Int.le_refl _⟩
  | n + 1, es, u, v, hn, h => by
    by_cases hd : (es.map (·.1)).Nodup
    · refine ⟨es, ?_, h, Int.le_refl _⟩
      have starts : ∀ {es : List Ed} {u : Str}, Wk E u es v → ∀ a ∈ es.map (·.1), a ∈ W := fun {es} => by
        induction es with
        | nil => intro u _ a ha; simp at ha
        | cons e es ih =>
          rintro u ⟨h1, h2, h3⟩ a ha
          rcases List.mem_cons.mp ha with rfl | ha
          · exact hW e h1
          · exact ih h3 a ha
      have := nodup_le hd (starts h)
      simpa using this
    · obtain ⟨p, e, q, e2, r, rfl, he⟩ := not_nodup hd
      obtain ⟨w, h1, h2⟩ := Wk.app.mp h
      obtain ⟨z, h3, h4⟩ := Wk.app.mp h1
      obtain ⟨h5, h6, h7⟩ := h4
      obtain ⟨h8, h9, h10⟩ := h2
      obtain ⟨x, s⟩ := f
      have cyc := Wk.le s (es := e :: q) (u := z) (v := w) ⟨h5, h6, h7⟩
      have hzw : z = w := by rw [← h6, he, h9]
      rw [hzw] at cyc
      have new : Wk E u (p ++ e2 :: r) v := Wk.app.mpr ⟨z, h3, h8, by rw [hzw, h9], h10⟩
      obtain ⟨es', a1, a2, a3⟩ := shorten ⟨x, s⟩ hW n (by simp at hn ⊢; omega) new
      refine ⟨es', a1, a2, Int.le_trans a3 ?_⟩
      simp only [tot_app, tot_cons] at cyc ⊢
      omega
/-- the least sum of a walk, or that there is none -/
def IsD (E : Ed → Prop) (u v : Str) : Option Int → Prop
  | some d => (∃ es, Wk E u es v ∧ tot es = d) ∧ ∀ es, Wk E u es v → d ≤ tot es
  | none => ∀ es, ¬ Wk E u es v
theorem IsD.uniq {a b : Option Int} (h1 : IsD E u v a) (h2 : IsD E u v b) : a = b := by
  cases a with
  | none => cases b with
    | none => rfl
    | some d => obtain ⟨⟨es, h, _⟩, _⟩ := h2; exact absurd h (h1 es)
  | some c => cases b with
    | none => obtain ⟨⟨es, h, _⟩, _⟩ := h1; exact absurd h (h2 es)
    | some d =>
      obtain ⟨⟨es, h3, rfl⟩, h4⟩ := h1
      obtain ⟨⟨fs, h5, rfl⟩, h6⟩ := h2
      have := h4 fs h5
      have := h6 es h3
      congr 1
      omega
/-- the sums from u on, as far as there are any: all notes are so with their opposites -/
theorem tri {a b : Int} {w : Str} {c : Option Int} (h1 : IsD E u v (some a)) (h2 : IsD E v w (some b)) (h3 : IsD E u w c) : ∃ d, c = some d ∧ d ≤ a + b := by
  obtain ⟨⟨es, h4, rfl⟩, _⟩ := h1
  obtain ⟨⟨fs, h5, rfl⟩, _⟩ := h2
  have h6 : Wk E u (es ++ fs) w := Wk.app.mpr ⟨v, h4, h5⟩
  cases c with
  | none => exact absurd h6 (h3 _)
  | some d => exact ⟨d, rfl, by have := h3.2 _ h6; rw [tot_app] at this; exact this⟩
def more (E : Ed → Prop) (g : Ed) : Ed → Prop := fun e => E e ∨ e = g
/-- there are least sums wherever there are walks -/
theorem dist_ex (f : Feas E) (u v : Str) : ∃ o, IsD E u v o := by
  obtain ⟨y, s⟩ := f
  by_cases ex : ∃ es, Wk E u es v
  · obtain ⟨es0, h0⟩ := ex
    have low : ∀ (n : Nat) (es : List Ed), Wk E u es v → tot es - (y u - y v) ≤ (n : Int) → ∃ es', Wk E u es' v ∧ ∀ fs, Wk E u fs v → tot es' ≤ tot fs := by
      intro n
      induction n with
      | zero =>
        intro es h1 h2
        refine ⟨es, h1, fun fs h3 => ?_⟩
        have := Wk.le s h3
        omega
      | succ n ih =>
        intro es h1 h2
        by_cases hmin : ∀ fs, Wk E u fs v → tot es ≤ tot fs
        · exact ⟨es, h1, hmin⟩
        · obtain ⟨fs, hf⟩ := Classical.not_forall.mp hmin
          obtain ⟨h3, h4⟩ := Classical.not_imp.mp hf
          exact ih fs h3 (by omega)
    obtain ⟨es', h1, h2⟩ := low (tot es0 - (y u - y v)).toNat es0 h0 (by omega)
    exact ⟨some (tot es'), ⟨es', h1, rfl⟩, h2⟩
  · exact ⟨none, fun es h1 => ex ⟨es, h1⟩⟩
def bnd (f : Ed → Int) (l : List Ed) : Nat := (l.map fun e => (f e).natAbs).sum
theorem bnd_le (f : Ed → Int) : ∀ {l : List Ed} {e : Ed}, e ∈ l → f e ≤ (bnd f l : Int)
  | e0 :: l, e, h => by
    unfold bnd
    rw [List.map_cons, List.sum_cons]
    rcases List.mem_cons.mp h with rfl | h
    · omega
    · have := bnd_le f h
      unfold bnd at this
      omega
/-- the denial of one - other ≤ k cannot be so exactly if there is a walk with such a sum -/
theorem den_feas {l : List Ed} (hE : ∀ e, E e → e ∈ l) (f : Feas E) {one other : Str} {k : Int} {o : Option Int} (ho : IsD E one other o) : Feas (more E (other, one, -1 - k)) ↔ ¬ ∃ d, o = some d ∧ d ≤ k := by
  constructor
  · rintro ⟨x, s⟩ ⟨d, rfl, hd⟩
    obtain ⟨⟨es, h1, rfl⟩, _⟩ := ho
    have a := Wk.le (fun e he => s e (.inl he)) h1
    have b := s _ (.inr rfl)
    simp only at b
    omega
  · intro h
    have key : ∃ dist : Str → Option Int, ∀ v, IsD E one v (dist v) := ⟨fun v => Classical.choose (dist_ex f one v), fun v => Classical.choose_spec (dist_ex f one v)⟩
    obtain ⟨dist, hd⟩ := key
    obtain ⟨y, s⟩ := f
    have hN : ∀ {e : Ed}, e ∈ l → y e.2.1 + (dist e.2.1).getD 0 ≤ (bnd (fun e => y e.2.1 + (dist e.2.1).getD 0) l : Int) := fun {e} he => bnd_le (fun e => y e.2.1 + (dist e.2.1).getD 0) he
    generalize hN0 : (bnd (fun e => y e.2.1 + (dist e.2.1).getD 0) l : Int) = N0 at hN
    have hN0' : 0 ≤ N0 := by omega
    have hk : (0 : Int) ≤ ((k + 1 + y other).natAbs : Int) ∧ k + 1 + y other ≤ ((k + 1 + y other).natAbs : Int) := ⟨by omega, by omega⟩
    generalize ((k + 1 + y other).natAbs : Int) = N1 at hk
    refine ⟨fun v => match dist v with | some d => -d | none => y v - (N0 + N1), fun e he => ?_⟩
    rcases he with he | rfl
    · have a := s e he
      have n := hN (hE e he)
      dsimp only
      cases h1 : dist e.1 with
      | some da =>
        have q1 := hd e.1
        rw [h1] at q1
        obtain ⟨⟨es, w1, rfl⟩, _⟩ := q1
        have w2 := w1.snoc he
        have q2 := hd e.2.1
        cases h2 : dist e.2.1 with
        | none => rw [h2] at q2; exact absurd w2 (q2 _)
        | some db =>
          rw [h2] at q2
          have := q2.2 _ w2
          rw [tot_app, tot_cons, tot_nil] at this
          dsimp only
          omega
      | none =>
        cases h2 : dist e.2.1 with
        | none => dsimp only; omega
        | some db =>
          rw [h2] at n
          simp only [Option.getD_some] at n
          dsimp only
          omega
    · dsimp only
      have q1 := hd one
      cases h1 : dist one with
      | none => rw [h1] at q1; exact absurd (show Wk E one [] one from rfl) (q1 [])
      | some d1 =>
        rw [h1] at q1
        have z1 := q1.2 [] rfl
        rw [tot_nil] at z1
        have q2 := hd other
        cases h2 : dist other with
        | none => dsimp only; omega
        | some d2 =>
          rw [h2] at q2
          have := ho.uniq q2
          have nk : ¬ d2 ≤ k := fun z => h ⟨d2, this, z⟩
          dsimp only
          omega
theorem repl {one other : Str} {k d : Int} (h : IsD E one other (some d)) (hk : d ≤ k) : ∀ {es : List Ed} {u : Str}, Wk (more E (one, other, k)) u es v → ∃ es', Wk E u es' v ∧ tot es' ≤ tot es
  | [], u, w => ⟨[], w, Int.le_refl _⟩
  | e :: es, u, ⟨h1, h2, h3⟩ => by
    obtain ⟨es', a, b⟩ := repl h hk h3
    rcases h1 with h1 | rfl
    · exact ⟨e :: es', ⟨h1, h2, a⟩, by rw [tot_cons, tot_cons]; omega⟩
    · obtain ⟨⟨ds, c1, rfl⟩, _⟩ := h
      simp only at h2 a
      subst h2
      exact ⟨ds ++ es', Wk.app.mpr ⟨_, c1, a⟩, by rw [tot_app, tot_cons]; simp only; omega⟩
theorem add_feas (f : Feas E) {one other : Str} {k d : Int} (h : IsD E one other (some d)) (hk : d ≤ k) : Feas (more E (one, other, k)) := by
  obtain ⟨x, s⟩ := f
  refine ⟨x, fun e he => ?_⟩
  rcases he with he | rfl
  · exact s e he
  · obtain ⟨⟨es, h1, rfl⟩, _⟩ := h
    have := Wk.le s h1
    simp only
    omega
theorem add_same {one other : Str} {k d : Int} (h : IsD E one other (some d)) (hk : d ≤ k) {o : Option Int} (ho : IsD E u v o) : IsD (more E (one, other, k)) u v o := by
  cases o with
  | none =>
    intro es w
    obtain ⟨es', a, _⟩ := repl h hk w
    exact ho es' a
  | some c =>
    obtain ⟨⟨es, a, b⟩, c2⟩ := ho
    refine ⟨⟨es, a.mono fun e he => .inl he, b⟩, fun fs w => ?_⟩
    obtain ⟨es', a', b'⟩ := repl h hk w
    have := c2 _ a'
    omega
theorem mono_le {g : Ed} {a : Int} {o : Option Int} (h1 : IsD E u v (some a)) (h2 : IsD (more E g) u v o) : ∃ b, o = some b ∧ b ≤ a := by
  obtain ⟨⟨es, w1, rfl⟩, _⟩ := h1
  have w2 : Wk (more E g) u es v := w1.mono fun e he => .inl he
  cases o with
  | none => exact absurd w2 (h2 es)
  | some b => exact ⟨b, rfl, h2.2 _ w2⟩
def sh (p : Str → Int) (e : Ed) : Ed := (e.1, e.2.1, e.2.2 + p e.1 - p e.2.1)
def shE (p : Str → Int) (E : Ed → Prop) : Ed → Prop := fun e => ∃ e0, E e0 ∧ e = sh p e0
theorem sh_feas (f : Feas E) (p : Str → Int) : Feas (shE p E) := by
  obtain ⟨x, s⟩ := f
  refine ⟨fun v => x v + p v, ?_⟩
  rintro e ⟨e0, h, rfl⟩
  have := s e0 h
  simp only [sh]
  omega
theorem sh_wk (p : Str → Int) : ∀ {es : List Ed} {u : Str}, Wk E u es v → Wk (shE p E) u (es.map (sh p)) v ∧ tot (es.map (sh p)) = tot es + p u - p v
  | [], u, h => by cases h; exact ⟨rfl, by simp⟩
  | e :: es, u, ⟨h1, h2, h3⟩ => by
    obtain ⟨a, b⟩ := sh_wk p h3
    refine ⟨⟨⟨e, h1, rfl⟩, h2, a⟩, ?_⟩
    rw [List.map_cons, tot_cons, tot_cons, b, ← h2]
    simp only [sh]
    omega
theorem sh_wk' (p : Str → Int) : ∀ {es : List Ed} {u : Str}, Wk (shE p E) u es v → ∃ fs, Wk E u fs v ∧ tot es = tot fs + p u - p v
  | [], u, h => by cases h; exact ⟨[], rfl, by simp⟩
  | e :: es, u, ⟨⟨e0, h1, h1'⟩, h2, h3⟩ => by
    subst h1'
    obtain ⟨fs, a, b⟩ := sh_wk' p h3
    simp only [sh] at h2 a b
    refine ⟨e0 :: fs, ⟨h1, h2, a⟩, ?_⟩
    rw [tot_cons, tot_cons, b, ← h2]
    simp only [sh]
    omega
theorem sh_dist (p : Str → Int) {o : Option Int} (h : IsD E u v o) : IsD (shE p E) u v (o.map fun d => d + p u - p v) := by
  cases o with
  | none =>
    intro es w
    obtain ⟨fs, a, _⟩ := sh_wk' p w
    exact h fs a
  | some d =>
    obtain ⟨⟨es, a, rfl⟩, b⟩ := h
    obtain ⟨c1, c2⟩ := sh_wk p a
    refine ⟨⟨_, c1, c2⟩, fun fs w => ?_⟩
    obtain ⟨gs, x1, x2⟩ := sh_wk' p w
    have := b _ x1
    simp only
    omega
theorem IsD.congr {o : Option Int} (h : ∀ e, E e ↔ E' e) (d : IsD E u v o) : IsD E' u v o := by
  have : E = E' := funext fun e => propext (h e)
  rw [← this]; exact d
theorem Feas.congr (h : ∀ e, E e ↔ E' e) (d : Feas E) : Feas E' := by
  have : E = E' := funext fun e => propext (h e)
  rw [← this]; exact d
end
end PyK79

namespace PyK79
open PySem PySem.Spec L2 PyI
/-- the state of the draws -/
def stD (ns : List Int) (p : Nat) (v s : Int) : PyData := .list [.list (ns.map .int), .int p, .int v, .int s]
theorem pow18 : opPow (.int 10) (.int 18) = some (.int 1000000000000000000) := by
  show (if (0 : Int) ≤ 18 ∧ (18 : Int) ≤ 1000000 ∧ (10 : Int).natAbs < 18446744073709551616 then some (PyData.int (10 ^ (18 : Int).toNat)) else none) = _
  rw [if_pos (by decide)]
  rfl
theorem next_ok (R : Fns) (ns : List Int) (p : Nat) (v s limit : Int) (hl : 0 < limit) (hl2 : limit < 1000) (hs : 0 ≤ s) (hs2 : s < 2147483647) (hv : 0 ≤ v) :
    ∃ out p' v' s', 0 ≤ out ∧ out < limit ∧ 0 ≤ s' ∧ s' < 2147483647 ∧ 0 ≤ v' ∧ runF 2 4 (m_law_next R) [(.lent, stD ns p v s), (.shr, .int limit)] = some (.kept (.int out), some (stD ns p' v' s')) := by
  have hmod : ∀ x : Int, 0 ≤ x % limit ∧ x % limit < limit := fun x => ⟨Int.emod_nonneg _ (by omega), Int.emod_lt_of_pos _ hl⟩
  have hmod2 : ∀ x : Int, 0 ≤ x % 2147483647 ∧ x % 2147483647 < 2147483647 := fun x => ⟨Int.emod_nonneg _ (by omega), Int.emod_lt_of_pos _ (by omega)⟩
  have hm1 : ∀ x : Int, opMod (.int x) (.int limit) = some (.int (x % limit)) := fun x => o_mod1 hl
  have hm2 : ∀ x : Int, opMod (.int x) (.int 2147483647) = some (.int (x % 2147483647)) := fun x => o_mod1 (by omega)
  have hf1 : ∀ x : Int, opFdiv (.int x) (.int limit) = some (.int (x / limit)) := fun x => o_fdiv1 hl (by omega)
  have hf2 : ∀ x : Int, opFdiv (.int x) (.int 7) = some (.int (x / 7)) := fun x => o_fdiv1 (by omega) (by omega)
  have hu1 : ∀ x : Int, opMul (.int x) (.int 48271) = some (.int (x * 48271)) := fun x => o_mul1 (.inr (by omega))
  have hu2 : ∀ x : Int, opMul (.int x) (.int 69621) = some (.int (x * 69621)) := fun x => o_mul1 (.inr (by omega))
  -- the second half
  have half : ∀ (p : Nat) (v s : Int) (c2 : Option (Stt × PyData)), 0 ≤ v → 0 ≤ s → s < 2147483647 → ∃ out p' v' s', 0 ≤ out ∧ out < limit ∧ 0 ≤ s' ∧ s' < 2147483647 ∧ 0 ≤ v' ∧ ∃ y z, 
      sSeq (sIf (tV (x2 (x2i (xV 0) (xC (.int 2)) opIx) (xC (.int 0)) opGt)) (sSeq (sSet 3 (x2 (xB oInt (aC (x2i (xV 0) (xC (.int 2)) opIx) aN)) (xV 1) opMod))
    (sSeq (sPut 0 (xC (.int 2)) (x2 (x2i (xV 0) (xC (.int 2)) opIx) (xV 1) opFdiv))
    (sRet (xV 3)))) sPass)
    (sSeq (sPut 0 (xC (.int 3)) (x2 (xB oInt (aC (x2 (x2 (x2i (xV 0) (xC (.int 3)) opIx) (xC (.int 69621)) opMul) (xC (.int 12345)) opAdd) aN)) (xC (.int 2147483647)) opMod))
    (sRet (x2 (xB oInt (aC (x2 (x2i (xV 0) (xC (.int 3)) opIx) (xC (.int 7)) opFdiv) aN)) (xV 1) opMod))) [some (.lent, stD ns p v s), some (.shr, .int limit), c2, none] = some (.ret y, [some (.lent, stD ns p' v' s'), some (.shr, .int limit), c2, z]) ∧ (y = .kept (.int out) ∨ (y = .slot 3 ∧ z = some (.shr, .int out))) := by
    intro p v s c2 hv hs hs2
    unfold stD
    by_cases h0 : 0 < v
    · refine ⟨v % limit, p, v / limit, s, (hmod v).1, (hmod v).2, hs, hs2, Int.ediv_nonneg hv (by omega), .slot 3, some (.shr, .int (v % limit)), ?_, .inr ⟨rfl, rfl⟩⟩
      simp [h0, hm1, hf1, setD_2]
    · refine ⟨((s * 69621 + 12345) % 2147483647 / 7) % limit, p, v, (s * 69621 + 12345) % 2147483647, (hmod _).1, (hmod _).2, (hmod2 _).1, (hmod2 _).2, hv, .kept (.int (((s * 69621 + 12345) % 2147483647 / 7) % limit)), none, ?_, .inl rfl⟩
      simp [h0, hm1, hm2, hf2, hu2, setD_3]
  rw [runF_def (by rfl)]
  have fin : ∀ (q : Nat) (v' s' : Int) (c2 : Option (Stt × PyData)), 0 ≤ v' → 0 ≤ s' → s' < 2147483647 →
      (sIf (tAndM (tV (x2 (x2i (xV 0) (xC (.int 2)) opIx) (xC (.int 0)) opEq)) (tV (x2 (x2i (xV 0) (xC (.int 1)) opIx) (xB oLen (aC (x2i (xV 0) (xC (.int 0)) opIx) aN)) opLt))) (sSeq (sSet 2 (x2i (x2i (xV 0) (xC (.int 0)) opIx) (x2i (xV 0) (xC (.int 1)) opIx) opIx))
    (sSeq (sAugS 0 (fun i j => i + j) (xC (.int 1)) (xC (.int 1)))
    (sIf (tV (x2 (xV 2) (x2 (xC (.int 10)) (xC (.int 18)) opPow) opGe)) (sPut 0 (xC (.int 2)) (xV 2)) (sPut 0 (xC (.int 3)) (x2 (xB oInt (aC (x2 (x2 (x2 (x2i (xV 0) (xC (.int 3)) opIx) (xC (.int 48271)) opMul) (x2 (xB oInt (aC (xV 2) aN)) (xC (.int 2147483647)) opMod) opAdd) (xC (.int 7)) opAdd) aN)) (xC (.int 2147483647)) opMod))))) sPass) [some (.lent, stD ns p v s), some (.shr, .int limit), none, none] = some (.nx, [some (.lent, stD ns q v' s'), some (.shr, .int limit), c2, none]) →
      ∃ out p' v' s', 0 ≤ out ∧ out < limit ∧ 0 ≤ s' ∧ s' < 2147483647 ∧ 0 ≤ v' ∧ (match m_law_next R ([(.lent, stD ns p v s), (.shr, .int limit)].map some ++ List.replicate (4 - [(Stt.lent, stD ns p v s), (.shr, .int limit)].length) none) with
    | some (fl, ρ') => match retOf ρ' fl with
      | some r => match lentOf ρ' [(.lent, stD ns p v s), (.shr, .int limit)] with
        | some l => some (r, l)
        | none => none
      | none => none
    | none => none) = some (.kept (.int out), some (stD ns p' v' s')) := by
    intro q v' s' c2 h1 h2 h3 e
    obtain ⟨out, p', v2, s2, a1, a2, a3, a4, a5, y, z, e2, hy⟩ := half q v' s' c2 h1 h2 h3
    refine ⟨out, p', v2, s2, a1, a2, a3, a4, a5, ?_⟩
    have e3 : m_law_next R ([(.lent, stD ns p v s), (.shr, .int limit)].map some ++ List.replicate (4 - [(Stt.lent, stD ns p v s), (.shr, .int limit)].length) none) = some (.ret y, [some (.lent, stD ns p' v2 s2), some (.shr, .int limit), c2, z]) := by
      unfold m_law_next
      show sSeq _ _ [some (.lent, stD ns p v s), some (.shr, .int limit), none, none] = _
      rw [e_sq, e, e_sqn]
      exact e2
    rw [e3]
    rcases hy with rfl | ⟨rfl, rfl⟩
    · rfl
    · rfl
  by_cases h0 : v = 0 ∧ p < ns.length
  · obtain ⟨rfl, hp⟩ := h0
    have hp' : (p : Int) < (ns.length : Int) := by omega
    have hget : (ns.map PyData.int)[p]? = some (.int ns[p]) := by rw [List.getElem?_map, List.getElem?_eq_getElem hp]; rfl
    have hp1 : (p : Int) + 1 = ((p + 1 : Nat) : Int) := by omega
    by_cases hc : (1000000000000000000 : Int) ≤ ns[p]
    · refine fin (p + 1) ns[p] s (some (.shr, .int ns[p])) (by omega) hs hs2 ?_
      unfold stD
      simp [hp', hget, pow18, hc, setD_1, setD_2, hp]
    · refine fin (p + 1) 0 ((s * 48271 + ns[p] % 2147483647 + 7) % 2147483647) (some (.shr, .int ns[p])) (by omega) (hmod2 _).1 (hmod2 _).2 ?_
      unfold stD
      simp [hp', hget, pow18, hc, setD_1, setD_3, hp, hm2, hu1]
  · refine fin p v s none hv hs hs2 ?_
    unfold stD
    by_cases h1 : v = 0
    · have hp : ¬ (p : Int) < (ns.length : Int) := fun z => h0 ⟨h1, by omega⟩
      simp [h1, hp]
    · have hb : (v == 0) = false := by simp [h1]
      simp [hb]
end PyK79

/-! dicts with texts as keys, by rows of pairs -/
namespace PyK79
open PySem PySem.Spec L2 PyI
section
variable {α : Type}
def lookS : List (Str × α) → Str → Option α
  | [], _ => none
  | p :: r, k => if p.1 = k then some p.2 else lookS r k
theorem look_cons (p : Str × α) (r : List (Str × α)) (k : Str) : lookS (p :: r) k = if p.1 = k then some p.2 else lookS r k := rfl
def putS (l : List (Str × α)) (k : Str) (v : α) : List (Str × α) := if k ∈ l.map (·.1) then l.map (fun p => if p.1 = k then (p.1, v) else p) else l ++ [(k, v)]
def dE (enc : α → PyData) (l : List (Str × α)) : List (PyData × PyData) := l.map fun p => (.str p.1, enc p.2)
theorem keyEq_str (x y : Str) : keyEq (.str x) (.str y) = (x == y) := rfl
@[simp] theorem look_dE (enc : α → PyData) (k : Str) : ∀ l : List (Str × α), lookD (.str k) (dE enc l) = (lookS l k).map enc
  | [] => rfl
  | p :: r => by
    show (if keyEq (.str p.1) (.str k) = true then some (enc p.2) else lookD (.str k) (dE enc r)) = _
    rw [look_dE enc k r, look_cons]
    by_cases h : p.1 = k
    · rw [if_pos (by rw [keyEq_str]; simpa using h), if_pos h]; rfl
    · rw [if_neg (by rw [keyEq_str]; simpa using h), if_neg h]
@[simp] theorem len_dE (enc : α → PyData) (l : List (Str × α)) : (dE enc l).length = l.length := by simp [dE]
@[simp] theorem put_dE (enc : α → PyData) (l : List (Str × α)) (k : Str) (v : α) : putD (dE enc l) (.str k) (enc v) = dE enc (putS l k v) := by
  unfold putD putS
  have hh : hasD (dE enc l) (.str k) = decide (k ∈ l.map (·.1)) := by
    unfold hasD dE
    induction l with
    | nil => rfl
    | cons p r ih =>
      rw [List.map_cons, List.any_cons, ih, keyEq_str, List.map_cons]
      by_cases h : p.1 = k
      · subst h; simp
      · have h2 : ¬ k = p.1 := fun z => h z.symm
        have h3 : (p.1 == k) = false := by simpa using h
        rw [h3, Bool.false_or]
        congr 1
        exact propext ⟨fun z => List.mem_cons_of_mem _ z, fun z => (List.mem_cons.mp z).resolve_left h2⟩
  rw [hh]
  by_cases hm : k ∈ l.map (·.1)
  · rw [if_pos (by simpa using hm), if_pos hm]
    unfold dE
    rw [List.map_map, List.map_map]
    apply List.map_congr_left
    intro p _
    show (if keyEq (.str p.1) (.str k) = true then (PyData.str p.1, enc v) else (PyData.str p.1, enc p.2)) = (PyData.str (if p.1 = k then (p.1, v) else p).1, enc (if p.1 = k then (p.1, v) else p).2)
    by_cases h : p.1 = k
    · rw [if_pos (by rw [keyEq_str]; simpa using h), if_pos h]
    · rw [if_neg (by rw [keyEq_str]; simpa using h), if_neg h]
  · rw [if_neg (by simpa using hm), if_neg hm]
    unfold dE
    rw [List.map_append]; rfl
theorem look_app (l m : List (Str × α)) (k : Str) : lookS (l ++ m) k = (lookS l k).or (lookS m k) := by
  induction l with
  | nil => rfl
  | cons p r ih =>
    rw [List.cons_append, look_cons, look_cons, ih]
    split <;> rfl
theorem look_none {l : List (Str × α)} {k : Str} : lookS l k = none ↔ k ∉ l.map (·.1) := by
  induction l with
  | nil => simp [lookS]
  | cons p r ih =>
    rw [look_cons, List.map_cons, List.mem_cons, not_or]
    by_cases h : p.1 = k
    · rw [if_pos h]; simp [h]
    · rw [if_neg h, ih]
      exact ⟨fun z => ⟨fun y => h y.symm, z⟩, fun z => z.2⟩
theorem look_some {l : List (Str × α)} {k : Str} (h : k ∈ l.map (·.1)) : ∃ v, lookS l k = some v := by
  cases e : lookS l k with
  | none => exact absurd h (look_none.mp e)
  | some v => exact ⟨v, rfl⟩
theorem look_mem {l : List (Str × α)} {k : Str} {v : α} (h : lookS l k = some v) : (k, v) ∈ l := by
  induction l with
  | nil => cases h
  | cons p r ih =>
    rw [look_cons] at h
    split at h
    · rename_i hp; cases h; rw [← hp]; exact List.mem_cons_self
    · exact List.mem_cons_of_mem _ (ih h)
theorem look_of_mem {l : List (Str × α)} {k : Str} {v : α} (nd : (l.map (·.1)).Nodup) (h : (k, v) ∈ l) : lookS l k = some v := by
  induction l with
  | nil => cases h
  | cons p r ih =>
    rw [List.map_cons, List.nodup_cons] at nd
    rw [look_cons]
    rcases List.mem_cons.mp h with e | h
    · rw [← e, if_pos rfl]
    · rw [if_neg fun z => nd.1 (by rw [z]; exact List.mem_map.mpr ⟨_, h, rfl⟩), ih nd.2 h]
theorem look_put (l : List (Str × α)) (k k' : Str) (v : α) : lookS (putS l k v) k' = if k' = k then some v else lookS l k' := by
  unfold putS
  by_cases hm : k ∈ l.map (·.1)
  · rw [if_pos hm]
    induction l with
    | nil => simp at hm
    | cons p r ih =>
      rw [List.map_cons]
      by_cases hp : p.1 = k
      · rw [if_pos hp, look_cons, look_cons]
        by_cases hk : k' = k
        · rw [if_pos hk, if_pos (hp.trans hk.symm)]
        · rw [if_neg hk, if_neg (fun z => hk (z.symm.trans hp)), if_neg (fun z : p.1 = k' => hk (z.symm.trans hp))]
          by_cases hr : k ∈ r.map (·.1)
          · rw [ih hr, if_neg hk]
          · have : r.map (fun p => if p.1 = k then (p.1, v) else p) = r := by
              conv => rhs; rw [← List.map_id r]
              apply List.map_congr_left
              intro q hq
              rw [if_neg fun z => hr (List.mem_map.mpr ⟨q, hq, z⟩)]; rfl
            rw [this]
      · rw [if_neg hp]
        have hr : k ∈ r.map (·.1) := (List.mem_cons.mp hm).resolve_left fun z => hp z.symm
        rw [look_cons, look_cons, ih hr]
        by_cases hk : k' = k
        · rw [if_pos hk, if_pos hk, if_neg (fun z => hp (z.trans hk))]
        · rw [if_neg hk, if_neg hk]
  · rw [if_neg hm, look_app]
    by_cases hk : k' = k
    · rw [if_pos hk, hk, look_none.mpr hm]
      show (if k = k then some v else none) = _
      rw [if_pos rfl]
    · rw [if_neg hk]
      have : lookS [(k, v)] k' = none := if_neg fun z => hk z.symm
      rw [this]; cases lookS l k' <;> rfl
theorem keys_put_mem {l : List (Str × α)} {k : Str} (v : α) (h : k ∈ l.map (·.1)) : (putS l k v).map (·.1) = l.map (·.1) := by
  unfold putS
  rw [if_pos h, List.map_map]
  apply List.map_congr_left
  intro p _
  simp only [Function.comp]
  split <;> rfl
theorem keys_put_new {l : List (Str × α)} {k : Str} (v : α) (h : k ∉ l.map (·.1)) : putS l k v = l ++ [(k, v)] := if_neg h
theorem nodup_put {l : List (Str × α)} {k : Str} (v : α) (nd : (l.map (·.1)).Nodup) : ((putS l k v).map (·.1)).Nodup := by
  by_cases h : k ∈ l.map (·.1)
  · rw [keys_put_mem v h]; exact nd
  · rw [keys_put_new v h, List.map_append, List.nodup_append]
    refine ⟨nd, by simp, fun a ha b hb => ?_⟩
    simp at hb
    rw [hb]
    exact fun z => h (z ▸ ha)
theorem mem_put {l : List (Str × α)} {k k' : Str} {v : α} : k' ∈ (putS l k v).map (·.1) ↔ k' = k ∨ k' ∈ l.map (·.1) := by
  by_cases h : k ∈ l.map (·.1)
  · rw [keys_put_mem v h]
    exact ⟨.inr, fun z => z.elim (fun e => e ▸ h) id⟩
  · rw [keys_put_new v h, List.map_append, List.mem_append]
    simp [or_comm]
/-- pairs put one after another, all new -/
theorem merge_new (enc : α → PyData) : ∀ {m l : List (Str × α)}, ((l ++ m).map (·.1)).Nodup → mergeD (dE enc l) (dE enc m) = dE enc (l ++ m)
  | [], l, _ => by rw [List.append_nil]; rfl
  | p :: m, l, nd => by
    have hn : p.1 ∉ l.map (·.1) := by
      rw [List.map_append, List.map_cons, List.nodup_append] at nd
      exact fun z => nd.2.2 _ z _ List.mem_cons_self rfl
    show mergeD (putD (dE enc l) (.str p.1) (enc p.2)) (dE enc m) = _
    rw [put_dE, keys_put_new _ hn, merge_new enc (by simpa using nd)]
    simp
theorem merge_one (enc : α → PyData) (l : List (Str × α)) (k : Str) (v : α) : mergeD (dE enc l) [(.str k, enc v)] = dE enc (putS l k v) := put_dE enc l k v
/-- a function on a row of different keys -/
def tab (W : List Str) (f : Str → α) : List (Str × α) := W.map fun w => (w, f w)
@[simp] theorem tab_keys (W : List Str) (f : Str → α) : (tab W f).map (·.1) = W := by
  unfold tab
  rw [List.map_map]
  conv => rhs; rw [← List.map_id W]
  rfl
theorem look_tab (W : List Str) (f : Str → α) {k : Str} (h : k ∈ W) : lookS (tab W f) k = some (f k) := by
  induction W with
  | nil => cases h
  | cons w W ih =>
    show (if w = k then some (f w) else lookS (tab W f) k) = _
    by_cases e : w = k
    · rw [if_pos e, e]
    · rw [if_neg e]
      exact ih ((List.mem_cons.mp h).resolve_left fun z => e z.symm)
theorem put_tab {W : List Str} (f : Str → α) {k : Str} (v : α) (h : k ∈ W) : putS (tab W f) k v = tab W fun w => if w = k then v else f w := by
  unfold putS
  rw [if_pos (by rw [tab_keys]; exact h)]
  unfold tab
  rw [List.map_map]
  apply List.map_congr_left
  intro w _
  simp only [Function.comp]
  split <;> rfl
end
end PyK79

/-! words_of -/
namespace PyK79
open PySem PySem.Spec L2 PyI
abbrev Nt := List (Str × Ed)
def encN (e : Ed) : PyData := .tuple [.str e.1, .str e.2.1, .int e.2.2]
def noteD (nt : Nt) : PyData := .dict (dE encN nt)
def rawW (nt : Nt) : List Str := nt.flatMap fun p => [p.2.1, p.2.2.1]
def Wd (nt : Nt) : List Str := sortS (dedupS (rawW nt))
theorem raw_len (nt : Nt) : (rawW nt).length = 2 * nt.length := by
  unfold rawW
  induction nt with
  | nil => rfl
  | cons p r ih => rw [List.flatMap_cons, List.length_append, ih]; simp; omega
theorem words_lc (nt : Nt) (s : Stt) (h : Rdg s) (hl : nt.length ≤ 20) : xLc2 [1, 2, 3, 4] [4] (iDict .vals 0) (gT (gsC (gN 1) (gsC (gN 2) (gsC (gN 3) gsN)))) tYesM (iK (xTup (aC (xV 1) (aC (xV 2) aN)))) (gN 4) tYesM (xV 4) [some (s, noteD nt), none, none, none, none] = some (.fresh (.list ((rawW nt).map .str)), [some (s, noteD nt), none, none, none, none]) := by
  have hf : (nt.flatMap fun p => ([.str p.2.1, .str p.2.2.1] : List PyData)) = (rawW nt).map .str := by
    unfold rawW
    rw [List.map_flatMap]; rfl
  have := lc2_evalT (vs := [1, 2, 3, 4]) (vs1 := [4]) (fi := iDict .vals 0) (g := gT (gsC (gN 1) (gsC (gN 2) (gsC (gN 3) gsN)))) (t := tYesM) (fi1 := iK (xTup (aC (xV 1) (aC (xV 2) aN)))) (g1 := gN 4) (t1 := tYesM) (fe := xV 4)
    (ρ := [some (s, noteD nt), none, none, none, none]) (ρ1 := [some (s, noteD nt), none, none, none, none]) (l := nt) (e := fun p => encN p.2) (fun p => [.str p.2.1, .str p.2.2.1])
    (by rcases h with rfl | rfl <;> simp [noteD, selD_vals, dE, Function.comp_def]) (by rw [hf, List.length_map, raw_len]; exact Nat.le_trans (show 2 * nt.length ≤ 40 by omega) (by decide)) (fun p hp => ?_)
  · rw [this, hf]
    simp [restE, wipeE]
  · refine ⟨[some (s, noteD nt), some (.shr, .str p.2.1), some (.shr, .str p.2.2.1), some (.shr, .int p.2.2.2), none], [some (s, noteD nt), some (.shr, .str p.2.1), some (.shr, .str p.2.2.1), some (.shr, .int p.2.2.2), none], [.str p.2.1, .str p.2.2.1],
      [some (s, noteD nt), some (.shr, .str p.2.1), some (.shr, .str p.2.2.1), some (.shr, .int p.2.2.2), none], [some (s, noteD nt), some (.shr, .str p.2.1), some (.shr, .str p.2.2.1), some (.shr, .int p.2.2.2), none], ?_, rfl, ?_, fun acc ha => ?_, ?_⟩
    · generalize noteD nt = d0
      simp [encN, wipeE]
    · generalize noteD nt = d0
      simp
    · generalize noteD nt = d0
      have q := lc_mapT (vs := [4]) (g := gN 4) (t := tYesM) (fe := xV 4) (ρ0 := [some (s, d0), some (.shr, .str p.2.1), some (.shr, .str p.2.2.1), some (.shr, .int p.2.2.2), none]) (e := fun x : Str => .str x) (p := fun _ => true) (f := fun x => .str x) [p.2.1, p.2.2.1] acc (by simpa using ha) (fun a _ => ?_)
      · simpa [wipeE] using q
      · exact ⟨[some (s, d0), some (.shr, .str p.2.1), some (.shr, .str p.2.2.1), some (.shr, .int p.2.2.2), some (.shr, .str a)], by simp, [some (s, d0), some (.shr, .str p.2.1), some (.shr, .str p.2.2.1), some (.shr, .int p.2.2.2), some (.shr, .str a)], rfl, fun z => absurd z (by decide), fun _ => ⟨.slot 4, _, _, by simp; rfl, by simp; rfl, by simp [wipeE]⟩⟩
    · simp [wipeE, restE]
theorem words_ok (R : Fns) (nt : Nt) (s : Stt) (h : Rdg s) (hl : nt.length ≤ 20) : runF 1 5 (m_words_of R) [(s, noteD nt)] = some (.fresh (.list ((Wd nt).map .str)), none) := by
  have lc := words_lc nt s h hl
  have hd : (dedupS (rawW nt)).length < 64 := by
    have h1 : (dedupS (rawW nt)).length ≤ (rawW nt).length := dedup_len _
    rw [raw_len] at h1
    omega
  have hso : soSet (.list ((rawW nt).map .str)) = some (.list ((Wd nt).map .str)) := by
    unfold soSet
    dsimp only
    rw [strsD_map]
    show (if _ then _ else _) = _
    rw [if_pos ⟨hd, by rw [raw_len]; omega⟩]
    rfl
  have ev : m_words_of R [some (s, noteD nt), none, none, none, none] = some (.ret (.fresh (.list ((Wd nt).map .str))), [some (s, noteD nt), none, none, none, none]) := by
    unfold m_words_of
    simp [lc, hso]
  refine run_fresh ?_ ?_ ev rfl
  · rcases h with rfl | rfl <;> rfl
  · rcases h with rfl | rfl <;> rfl
end PyK79

/-! spread: one note -/
namespace PyK79
open PySem PySem.Spec L2 PyI
def laD : Option Str → PyData
  | none => .none
  | some w => .str w
def bP : Mo Fl := sSeq (sUnp (x2i (xV 0) (xV 6) opIx) (gT (gsC (gN 8) (gsC (gN 9) (gsC (gN 10) gsN)))))
    (sIf (tV (x2 (x2i (xV 2) (xV 8) opIx) (x2 (x2i (xV 2) (xV 9) opIx) (xV 10) opAdd) opGt)) (sSeq (sPut 2 (xV 8) (x2 (x2i (xV 2) (xV 9) opIx) (xV 10) opAdd))
    (sSeq (sPut 3 (xV 8) (xV 6))
    (sSet 5 (xV 8)))) sPass)
abbrev Sl := Option (Stt × PyData)
def stP (s : Stt) (nt : Nt) (W : List Str) (f : Str → Int) (wy : List (Str × Str)) (la : Option Str) (x4 x6 x7 x8 x9 x10 : Sl) : Rho :=
  [some (s, noteD nt), some (.shr, .list (W.map .str)), some (.own, .dict (dE .int (tab W f))), some (.own, .dict (dE .str wy)), x4, some (.shr, laD la), x6, x7, x8, x9, x10]
/-- what a note does -/
def rel1 (e : Ed) (n : Str) (q : (Str → Int) × List (Str × Str) × Option Str) : (Str → Int) × List (Str × Str) × Option Str :=
  if q.1 e.2.1 + e.2.2 < q.1 e.1 then (fun w => if w = e.1 then q.1 e.2.1 + e.2.2 else q.1 w, putS q.2.1 e.1 n, some e.1) else q
theorem setD_dE {α : Type} (enc : α → PyData) (l : List (Str × α)) (k : Str) (v : α) (h : l.length ≤ 1000) : setD (.dict (dE enc l)) (.str k) (enc v) = some (.dict (dE enc (putS l k v))) := by
  show (if (dE enc l).length < sizeLine then some (PyData.dict (putD (dE enc l) (keyD (.inr k)) (enc v))) else none) = _
  rw [if_pos (by rw [len_dE, sizeLine_eq]; omega)]
  show some (PyData.dict (putD (dE enc l) (.str k) (enc v))) = _
  rw [put_dE]
theorem look_tabD {W : List Str} (f : Str → Int) {k : Str} (h : k ∈ W) : lookD (.str k) (dE .int (tab W f)) = some (.int (f k)) := by
  rw [look_dE, look_tab W f h]; rfl
theorem bP_ok (s : Stt) (h : Rdg s) (nt : Nt) (W : List Str) (f : Str → Int) (wy : List (Str × Str)) (la : Option Str) (x4 x7 x8 x9 x10 : Sl) (n : Str) (e : Ed) (hn : lookS nt n = some e) (ha : e.1 ∈ W) (hb : e.2.1 ∈ W) (hW : W.length ≤ 100) (hw : wy.length ≤ 100) :
    bP (stP s nt W f wy la x4 (some (.shr, .str n)) x7 x8 x9 x10) = some (.nx, stP s nt W (rel1 e n (f, wy, la)).1 (rel1 e n (f, wy, la)).2.1 (rel1 e n (f, wy, la)).2.2 x4 (some (.shr, .str n)) x7 (some (.shr, .str e.1)) (some (.shr, .str e.2.1)) (some (.shr, .int e.2.2))) := by
  have l1 := look_tabD f ha
  have l2 := look_tabD f hb
  have l3 : lookD (.str n) (dE encN nt) = some (encN e) := by rw [look_dE, hn]; rfl
  have p1 : setD (.dict (dE .int (tab W f))) (.str e.1) (.int (f e.2.1 + e.2.2)) = some (.dict (dE .int (tab W fun w => if w = e.1 then f e.2.1 + e.2.2 else f w))) := by
    rw [setD_dE PyData.int (tab W f) e.1 (f e.2.1 + e.2.2) (by unfold tab; rw [List.length_map]; omega), put_tab f _ ha]
  have p2 : setD (.dict (dE .str wy)) (.str e.1) (.str n) = some (.dict (dE .str (putS wy e.1 n))) := setD_dE PyData.str wy e.1 n (by omega)
  unfold rel1
  by_cases hlt : f e.2.1 + e.2.2 < f e.1
  · rw [if_pos hlt]
    dsimp only
    unfold bP stP noteD
    generalize dE .int (tab W f) = df at *
    generalize dE .str wy = dw at *
    generalize dE encN nt = dn at *
    rcases h with rfl | rfl <;> simp [l1, l2, l3, encN, hlt, p1, p2, laD]
  · rw [if_neg hlt]
    dsimp only
    unfold bP stP noteD
    generalize dE .int (tab W f) = df at *
    generalize dE .str wy = dw at *
    generalize dE encN nt = dn at *
    rcases h with rfl | rfl <;> simp [l1, l2, l3, encN, hlt]
end PyK79

/-! spread: what holds while notes are looked at one after another -/
namespace PyK79
open PySem PySem.Spec L2 PyI
structure Cas (nt : Nt) : Prop where
  nd : (nt.map (·.1)).Nodup
  few : nt.length ≤ 20
def EE (nt : Nt) : Ed → Prop := fun e => ∃ n, lookS nt n = some e
def ks (nt : Nt) : List Str := sortS (nt.map (·.1))
theorem ks_mem {nt : Nt} {n : Str} : n ∈ ks nt ↔ n ∈ nt.map (·.1) := (sortS_perm _).mem_iff
theorem wd_mem {nt : Nt} {e : Ed} (h : EE nt e) : e.1 ∈ Wd nt ∧ e.2.1 ∈ Wd nt := by
  obtain ⟨n, h⟩ := h
  have hm := look_mem h
  constructor
  · exact sod_mem.mpr (List.mem_flatMap.mpr ⟨_, hm, by simp⟩)
  · exact sod_mem.mpr (List.mem_flatMap.mpr ⟨_, hm, by simp⟩)
theorem wd_nodup (nt : Nt) : (Wd nt).Nodup := (sortS_perm _).nodup_iff.mpr (dedup_nodup _)
theorem wd_len {nt : Nt} (h : nt.length ≤ 20) : (Wd nt).length ≤ 40 := by
  have h1 : (Wd nt).length = (dedupS (rawW nt)).length := (sortS_perm _).length_eq
  have h2 := dedup_len (rawW nt)
  rw [raw_len] at h2
  omega
/-- e was looked at -/
def Done (nt : Nt) (i : Nat) (e : Ed) : Prop := ∃ n ∈ (ks nt).take i, lookS nt n = some e
structure Ps (nt : Nt) (k : Nat) (g : Str → Int) (i : Nat) (f : Str → Int) (wy : List (Str × Str)) (la : Option Str) (L : Str → Nat) : Prop where
  wt : ∀ w ∈ Wd nt, ∃ es v, Wk (EE nt) w es v ∧ tot es = f w
  dec : ∀ w, f w ≤ g w
  low : ∀ e, Done nt i e → ∀ es v, Wk (EE nt) e.2.1 es v → es.length ≤ k → f e.1 ≤ e.2.2 + tot es
  edge : ∀ e, EE nt e → f e.1 ≤ f e.2.1 + e.2.2 ∨ (k ≤ L e.2.1 ∧ (Done nt i e → k + 1 ≤ L e.2.1))
  why : ∀ w, 1 ≤ L w → ∃ n e, lookS wy w = some n ∧ lookS nt n = some e ∧ e.1 = w ∧ L w ≤ L e.2.1 + 1
  lk : ∀ w, L w ≤ k + 1
  laN : la = none → (∀ w, f w = g w) ∧ ∀ e, Done nt i e → f e.1 ≤ f e.2.1 + e.2.2
  laS : ∀ w, la = some w → w ∈ Wd nt ∧ L w = k + 1 ∧ ∃ u ∈ Wd nt, f u < g u
  nd : (wy.map (·.1)).Nodup
  kw : ∀ w ∈ wy.map (·.1), w ∈ Wd nt
/-- pass k + 1 begins with sums that are no more than those of walks with up to k notes -/
def GLow (nt : Nt) (k : Nat) (g : Str → Int) : Prop := ∀ w ∈ Wd nt, ∀ es v, Wk (EE nt) w es v → es.length ≤ k → g w ≤ tot es
theorem done_succ {nt : Nt} {i : Nat} {n : Str} {e e2 : Ed} (hi : (ks nt)[i]? = some n) (hn : lookS nt n = some e) : Done nt (i + 1) e2 ↔ Done nt i e2 ∨ e2 = e := by
  have ht : (ks nt).take (i + 1) = (ks nt).take i ++ [n] := by rw [List.take_succ, hi]; rfl
  unfold Done
  rw [ht]
  constructor
  · rintro ⟨m, hm, h⟩
    rcases List.mem_append.mp hm with hm | hm
    · exact .inl ⟨m, hm, h⟩
    · rw [List.mem_singleton] at hm
      subst hm
      rw [hn] at h; cases h; exact .inr rfl
  · rintro (⟨m, hm, h⟩ | rfl)
    · exact ⟨m, List.mem_append_left _ hm, h⟩
    · exact ⟨n, List.mem_append_right _ (by simp), hn⟩
theorem done_all {nt : Nt} (nd : (nt.map (·.1)).Nodup) {e : Ed} (h : EE nt e) : Done nt (ks nt).length e := by
  obtain ⟨n, h⟩ := h
  refine ⟨n, ?_, h⟩
  rw [List.take_length]
  exact ks_mem.mpr (List.mem_map.mpr ⟨_, look_mem h, rfl⟩)
theorem done_zero {nt : Nt} {e : Ed} : ¬ Done nt 0 e := by
  rintro ⟨n, hn, _⟩
  simp at hn
theorem ps_step {nt : Nt} {k i : Nat} {g f : Str → Int} {wy : List (Str × Str)} {la : Option Str} {L : Str → Nat} {n : Str} {e : Ed} (p : Ps nt k g i f wy la L) (gl : GLow nt k g) (hi : (ks nt)[i]? = some n) (hn : lookS nt n = some e) :
    ∃ L', Ps nt k g (i + 1) (rel1 e n (f, wy, la)).1 (rel1 e n (f, wy, la)).2.1 (rel1 e n (f, wy, la)).2.2 L' := by
  have he : EE nt e := ⟨n, hn⟩
  obtain ⟨ha, hb⟩ := wd_mem he
  have lowE : ∀ es v, Wk (EE nt) e.2.1 es v → es.length ≤ k → f e.2.1 ≤ tot es := fun es v w hl => Int.le_trans (p.dec _) (gl _ hb es v w hl)
  unfold rel1
  by_cases hlt : f e.2.1 + e.2.2 < f e.1
  · rw [if_pos hlt]
    dsimp only
    have lb : k ≤ L e.2.1 := by
      rcases p.edge e he with h | h
      · omega
      · exact h.1
    have fle : ∀ w, (if w = e.1 then f e.2.1 + e.2.2 else f w) ≤ f w := fun w => by
      split
      · rename_i h; rw [h]; omega
      · exact Int.le_refl _
    have Lle : ∀ w, L w ≤ if w = e.1 then k + 1 else L w := fun w => by
      split
      · exact p.lk w
      · exact Nat.le_refl _
    refine ⟨fun w => if w = e.1 then k + 1 else L w, ⟨fun w hw => ?_, fun w => Int.le_trans (fle w) (p.dec w), fun e2 h2 es v w hl => ?_, fun e2 h2 => ?_, fun w hw => ?_, fun w => ?_, (fun z => by cases z), fun w hw => ?_, nodup_put _ p.nd, fun w hw => ?_⟩⟩
    · by_cases hwa : w = e.1
      · obtain ⟨es, v, h1, h2⟩ := p.wt _ hb
        refine ⟨e :: es, v, ⟨he, hwa.symm, h1⟩, ?_⟩
        rw [if_pos hwa, tot_cons, h2]; omega
      · rw [if_neg hwa]; exact p.wt w hw
    · rcases (done_succ hi hn).mp h2 with h2 | rfl
      · exact Int.le_trans (fle _) (p.low e2 h2 es v w hl)
      · rw [if_pos rfl]
        have := lowE es v w hl
        omega
    · by_cases hh : e2.2.1 = e.1
      · right
        rw [if_pos hh]
        exact ⟨by omega, fun _ => Nat.le_refl _⟩
      · rw [if_neg hh]
        by_cases hee : e2 = e
        · left
          rw [hee, if_pos rfl]; exact Int.le_refl _
        · rcases p.edge e2 h2 with h | ⟨h, h'⟩
          · left; exact Int.le_trans (fle _) h
          · right
            rw [if_neg hh]
            refine ⟨h, fun d => h' ?_⟩
            rcases (done_succ hi hn).mp d with d | d
            · exact d
            · exact absurd d hee
    · by_cases hwa : w = e.1
      · refine ⟨n, e, by rw [look_put, if_pos hwa], hn, hwa.symm, ?_⟩
        rw [if_pos hwa]
        have := Lle e.2.1
        omega
      · rw [if_neg hwa] at hw ⊢
        obtain ⟨m, e', h1, h2, h3, h4⟩ := p.why w hw
        refine ⟨m, e', by rw [look_put, if_neg hwa]; exact h1, h2, h3, ?_⟩
        have := Lle e'.2.1
        omega
    · split
      · exact Nat.le_refl _
      · exact p.lk w
    · cases hw
      refine ⟨ha, if_pos rfl, e.1, ha, ?_⟩
      rw [if_pos rfl]
      have := p.dec e.1
      omega
    · rcases mem_put.mp hw with rfl | hw
      · exact ha
      · exact p.kw w hw
  · rw [if_neg hlt]
    dsimp only
    refine ⟨L, ⟨p.wt, p.dec, fun e2 h2 es v w hl => ?_, fun e2 h2 => ?_, p.why, p.lk, fun z => ⟨(p.laN z).1, fun e2 h2 => ?_⟩, p.laS, p.nd, p.kw⟩⟩
    · rcases (done_succ hi hn).mp h2 with h2 | rfl
      · exact p.low e2 h2 es v w hl
      · have := lowE es v w hl
        omega
    · by_cases hee : e2 = e
      · left; rw [hee]; omega
      · rcases p.edge e2 h2 with h | ⟨h, h'⟩
        · exact .inl h
        · right
          refine ⟨h, fun d => h' ?_⟩
          rcases (done_succ hi hn).mp d with d | d
          · exact d
          · exact absurd d hee
    · rcases (done_succ hi hn).mp h2 with h2 | rfl
      · exact (p.laN z).2 e2 h2
      · omega
/-- a pass at its end -/
theorem ps_end {nt : Nt} (C : Cas nt) {k : Nat} {g f : Str → Int} {wy : List (Str × Str)} {la : Option Str} {L : Str → Nat} (p : Ps nt k g (ks nt).length f wy la L) (gl : GLow nt k g) :
    (la = none → Sat (EE nt) f) ∧ GLow nt (k + 1) f ∧ Ps nt (k + 1) f 0 f wy none L := by
  refine ⟨fun z e he => (p.laN z).2 e (done_all C.nd he), fun w hw es v h hl => ?_, ⟨p.wt, fun _ => Int.le_refl _, fun e d => absurd d done_zero, fun e he => ?_, p.why, fun w => Nat.le_succ_of_le (p.lk w), fun _ => ⟨fun _ => rfl, fun e d => absurd d done_zero⟩, (fun w z => by cases z), p.nd, p.kw⟩⟩
  · cases es with
    | nil =>
      have a := p.dec w
      have b := gl w hw [] w rfl (Nat.zero_le _)
      rw [tot_nil] at b ⊢
      omega
    | cons e es =>
      obtain ⟨h1, h2, h3⟩ := h
      have := p.low e (done_all C.nd h1) es v h3 (by simpa using hl)
      rw [tot_cons, ← h2]
      exact this
  · rcases p.edge e he with h | ⟨_, h⟩
    · exact .inl h
    · exact .inr ⟨h (done_all C.nd he), fun d => absurd d done_zero⟩
theorem ps_start {nt : Nt} : GLow nt 0 (fun _ => 0) ∧ Ps nt 0 (fun _ => 0) 0 (fun _ => 0) [] none (fun _ => 0) := by
  refine ⟨fun w hw es v h hl => ?_, ⟨fun w hw => ⟨[], w, rfl, rfl⟩, fun _ => Int.le_refl _, fun e d => absurd d done_zero, fun e he => .inr ⟨Nat.le_refl _, fun d => absurd d done_zero⟩, fun w h => absurd h (by decide), fun w => Nat.zero_le _, fun _ => ⟨fun _ => rfl, fun e d => absurd d done_zero⟩, (fun w z => by cases z), List.nodup_nil, (fun w z => by simp at z)⟩⟩
  cases es with
  | nil => exact Int.le_refl _
  | cons e es => simp at hl
/-- the last pass turned something: not all can be so -/
theorem ps_last {nt : Nt} {k : Nat} {g f : Str → Int} {i : Nat} {wy : List (Str × Str)} {w : Str} {L : Str → Nat} (p : Ps nt k g i f wy (some w) L) (gl : GLow nt k g) (hk : (Wd nt).length ≤ k) : ¬ Feas (EE nt) := by
  intro fe
  obtain ⟨_, _, u, hu, hlt⟩ := p.laS w rfl
  obtain ⟨es, v, h1, h2⟩ := p.wt u hu
  obtain ⟨es', a, b, c⟩ := shorten (W := Wd nt) fe (fun e he => (wd_mem he).1) es.length (Nat.le_refl _) h1
  have := gl u hu es' v b (by omega)
  omega
end PyK79

/-! spread: a pass, all passes -/
namespace PyK79
open PySem PySem.Spec L2 PyI
def stQ (s : Stt) (nt : Nt) (W : List Str) (f : Str → Int) (wy : List (Str × Str)) (x4 x5 x6 x7 x8 x9 x10 : Sl) : Rho :=
  [some (s, noteD nt), some (.shr, .list (W.map .str)), some (.own, .dict (dE .int (tab W f))), some (.own, .dict (dE .str wy)), x4, x5, x6, x7, x8, x9, x10]
theorem stP_eq (s : Stt) (nt : Nt) (W : List Str) (f : Str → Int) (wy : List (Str × Str)) (la : Option Str) (x4 x6 x7 x8 x9 x10 : Sl) : stP s nt W f wy la x4 x6 x7 x8 x9 x10 = stQ s nt W f wy x4 (some (.shr, laD la)) x6 x7 x8 x9 x10 := rfl
theorem sorted_ok {nt : Nt} (h : nt.length ≤ 20) : oSorted [noteD nt] = some (.list ((ks nt).map .str)) := by
  unfold oSorted noteD
  dsimp only
  have : keysD (dE encN nt) = (nt.map (·.1)).map .str := by
    unfold keysD dE
    rw [List.map_map, List.map_map]; rfl
  rw [this, strsD_map]
  exact if_pos (by rw [List.length_map]; omega)
theorem map_get {l : List Str} {i : Nat} {d : PyData} (h : (l.map PyData.str)[i]? = some d) : ∃ n, l[i]? = some n ∧ d = .str n := by
  rw [List.getElem?_map] at h
  obtain ⟨n, hn, rfl⟩ := Option.map_eq_some_iff.mp h
  exact ⟨n, hn, rfl⟩
def itK : Mo (List PyData) := iS (xB oSorted (aC (xV 0) aN))
theorem itK_ok (s : Stt) (h : Rdg s) {nt : Nt} (C : Cas nt) (ρ : Rho) : itK (some (s, noteD nt) :: ρ) = some ((ks nt).map .str, some (s, noteD nt) :: ρ) := by
  have e := sorted_ok C.few
  unfold itK
  generalize noteD nt = d at *
  rcases h with rfl | rfl <;> simp [e]
theorem wy_len {nt : Nt} {k i : Nat} {g f : Str → Int} {wy : List (Str × Str)} {la : Option Str} {L : Str → Nat} (p : Ps nt k g i f wy la L) (h : nt.length ≤ 20) : wy.length ≤ 100 := by
  have := nodup_le p.nd p.kw
  have h2 := wd_len h
  rw [List.length_map] at this
  omega
theorem pass_ok (s : Stt) (h : Rdg s) {nt : Nt} (C : Cas nt) {k : Nat} {g f : Str → Int} {wy : List (Str × Str)} {L : Str → Nat} (p : Ps nt k g 0 f wy none L) (gl : GLow nt k g) (x4 x6 x7 x8 x9 x10 : Sl) :
    ∃ f' wy' la' L' y6 y8 y9 y10, sFor itK (gN 6) bP (stP s nt (Wd nt) f wy none x4 x6 x7 x8 x9 x10) = some (.nx, stP s nt (Wd nt) f' wy' la' x4 y6 x7 y8 y9 y10) ∧ Ps nt k g (ks nt).length f' wy' la' L' := by
  have loop := for_all (ds := (ks nt).map .str) (g := gN 6) (b := bP) (fun i ρ => ∃ f' wy' la' L' y6 y8 y9 y10, ρ = stP s nt (Wd nt) f' wy' la' x4 y6 x7 y8 y9 y10 ∧ Ps nt k g i f' wy' la' L')
    (fun i d ρ hd hi => by
      obtain ⟨f', wy', la', L', y6, y8, y9, y10, rfl, q⟩ := hi
      obtain ⟨n, hn, rfl⟩ := map_get hd
      obtain ⟨e, he⟩ := look_some (ks_mem.mp (List.mem_of_getElem? hn))
      obtain ⟨ha, hb⟩ := wd_mem ⟨n, he⟩
      obtain ⟨L2, q2⟩ := ps_step q gl hn he
      refine ⟨stP s nt (Wd nt) f' wy' la' x4 (some (.shr, .str n)) x7 y8 y9 y10, _, rfl, bP_ok s h nt (Wd nt) f' wy' la' x4 x7 y8 y9 y10 n e he ha hb (by have := wd_len C.few; omega) (wy_len q C.few), _, _, _, L2, _, _, _, _, rfl, q2⟩)
    (ρ := stP s nt (Wd nt) f wy none x4 x6 x7 x8 x9 x10) ⟨f, wy, none, L, x6, x8, x9, x10, rfl, p⟩
  obtain ⟨ρ', e1, f', wy', la', L', y6, y8, y9, y10, rfl, q⟩ := loop
  refine ⟨f', wy', la', L', y6, y8, y9, y10, ?_, by simpa using q⟩
  rw [e_for, show itK (stP s nt (Wd nt) f wy none x4 x6 x7 x8 x9 x10) = _ from itK_ok s h C _, e_fora]
  exact e1
def rowD (W : List Str) (f : Str → Int) : PyData := .tuple (W.map fun w => .tuple [.str w, .int (f w)])
theorem filt_true {α : Type} (l : List α) : l.filter (fun _ => true) = l := List.filter_eq_self.mpr fun _ _ => rfl
def rowM : Mo Rs := xLc [7] (iS (xV 1)) (gN 7) tYesM (xTup (aC (xV 7) (aC (x2i (xV 2) (xV 7) opIx) aN)))
theorem rowM_ok (s : Stt) (nt : Nt) (W : List Str) (f : Str → Int) (wy : List (Str × Str)) (la : Option Str) (x4 x6 x7 x8 x9 x10 : Sl) (hW : W.length ≤ 100) :
    rowM (stP s nt W f wy la x4 x6 x7 x8 x9 x10) = some (.fresh (.list (W.map fun w => .tuple [.str w, .int (f w)])), stP s nt W f wy la x4 x6 x7 x8 x9 x10) := by
  unfold rowM
  have := lc_evalT (vs := [7]) (fi := iS (xV 1)) (g := gN 7) (t := tYesM) (fe := xTup (aC (xV 7) (aC (x2i (xV 2) (xV 7) opIx) aN))) (ρ := stP s nt W f wy la x4 x6 x7 x8 x9 x10) (ρ1 := stP s nt W f wy la x4 x6 x7 x8 x9 x10) (l := W) (e := fun w => .str w)
    (fun _ => true) (fun w => .tuple [.str w, .int (f w)]) (by unfold stP; simp) (Nat.le_trans hW (by decide)) (fun w hw => ?_)
  · rw [this, filt_true]
    unfold stP
    simp [restE, wipeE]
  · have l1 := look_tabD f hw
    refine ⟨stP s nt W f wy la x4 x6 (some (.shr, .str w)) x8 x9 x10, by unfold stP; simp [wipeE], stP s nt W f wy la x4 x6 (some (.shr, .str w)) x8 x9 x10, rfl, fun z => absurd z (by decide), fun _ => ⟨.kept (.tuple [.str w, .int (f w)]), stP s nt W f wy la x4 x6 (some (.shr, .str w)) x8 x9 x10, stP s nt W f wy la x4 x6 (some (.shr, .str w)) x8 x9 x10, ?_, rfl, by unfold stP; simp [wipeE]⟩⟩
    unfold stP
    generalize dE .int (tab W f) = df at *
    simp [l1]
def bO : Mo Fl := sSeq (sSet 5 (xC .none)) (sSeq (sFor itK (gN 6) bP) (sIf (tV (x2 (xV 5) (xC .none) opIsN)) (sRet (xTup (aC (xC (.str "row")) (aC (xB oTuple (aC rowM aN)) aN)))) sPass))
theorem bO_ok (s : Stt) (h : Rdg s) {nt : Nt} (C : Cas nt) {k : Nat} {f : Str → Int} {wy : List (Str × Str)} {L : Str → Nat} (p : Ps nt k f 0 f wy none L) (gl : GLow nt k f) (x4 x5 x6 x7 x8 x9 x10 : Sl) :
    (∃ f' ρ', bO (stQ s nt (Wd nt) f wy x4 x5 x6 x7 x8 x9 x10) = some (.ret (.kept (.tuple [.str "row", rowD (Wd nt) f'])), ρ') ∧ ρ'.head? = some (some (s, noteD nt)) ∧ Sat (EE nt) f') ∨
    ∃ f' wy' w L' y6 y8 y9 y10, bO (stQ s nt (Wd nt) f wy x4 x5 x6 x7 x8 x9 x10) = some (.nx, stP s nt (Wd nt) f' wy' (some w) x4 y6 x7 y8 y9 y10) ∧ Ps nt (k + 1) f' 0 f' wy' none L' ∧ GLow nt (k + 1) f' ∧ w ∈ Wd nt ∧ L' w = k + 1 ∧ ((Wd nt).length ≤ k → ¬ Feas (EE nt)) := by
  obtain ⟨f', wy', la', L', y6, y8, y9, y10, e1, q⟩ := pass_ok s h C p gl x4 x6 x7 x8 x9 x10
  obtain ⟨r1, r2, r3⟩ := ps_end C q gl
  have e0 : sSet 5 (xC .none) (stQ s nt (Wd nt) f wy x4 x5 x6 x7 x8 x9 x10) = some (.nx, stP s nt (Wd nt) f wy none x4 x6 x7 x8 x9 x10) := by
    unfold stQ stP laD
    generalize noteD nt = d
    simp
  cases la' with
  | none =>
    left
    have er := rowM_ok s nt (Wd nt) f' wy' none x4 y6 x7 y8 y9 y10 (by have := wd_len C.few; omega)
    refine ⟨f', stP s nt (Wd nt) f' wy' none x4 y6 x7 y8 y9 y10, ?_, rfl, r1 rfl⟩
    unfold bO
    rw [e_sq, e0, e_sqn, e_sq, e1, e_sqn]
    generalize rowM = rm at *
    unfold rowD
    unfold stP laD at *
    generalize noteD nt = d at *
    simp [er, isNone]
  | some w =>
    right
    obtain ⟨z1, z2, _⟩ := q.laS w rfl
    refine ⟨f', wy', w, L', y6, y8, y9, y10, ?_, r3, r2, z1, z2, fun hk => ps_last q gl hk⟩
    unfold bO
    rw [e_sq, e0, e_sqn, e_sq, e1, e_sqn]
    generalize rowM = rm at *
    unfold stP laD at *
    generalize noteD nt = d at *
    simp [isNone]
end PyK79

/-! ring -/
namespace PyK79
open PySem PySem.Spec L2 PyI
theorem inD_strs (w : Str) (xs : List Str) : inD (.str w) (.list (xs.map .str)) = some (decide (w ∈ xs)) := by
  have pl : PyData.plainAll (xs.map .str) = true := by
    induction xs with
    | nil => rfl
    | cons x r ih => rw [List.map_cons, PyData.plainAll, ih]; rfl
  show (if (PyData.str w).plain = true ∧ PyData.plainAll (xs.map .str) = true ∧ (PyData.str w).depth ≤ 50 then some ((xs.map PyData.str).any fun y => PyData.eqv y (.str w)) else none) = _
  rw [if_pos ⟨rfl, pl, by simp [PyData.depth]⟩]
  congr 1
  induction xs with
  | nil => rfl
  | cons x r ih =>
    have ih := ih (by rw [List.map_cons, PyData.plainAll, Bool.and_eq_true] at pl; exact pl.2)
    rw [List.map_cons, List.any_cons, ih]
    have e1 : PyData.eqv (.str x) (.str w) = decide (x = w) := by
      show (x == w) = _
      by_cases h : x = w
      · simp [h]
      · simp [h]
    rw [e1]
    by_cases h : x = w
    · subst h; simp
    · have h2 : ¬ w = x := fun z => h z.symm
      simp [h, h2]
theorem nin_strs (w : Str) (xs : List Str) : opNotInA (.str w) (.list (xs.map .str)) = some (.bool (!decide (w ∈ xs))) := by
  unfold opNotInA
  show Option.map _ (inD (.str w) (.list (xs.map .str))) = _
  rw [inD_strs]; rfl
theorem in_strs (w : Str) (xs : List Str) : opInA (.str w) (.list (xs.map .str)) = some (.bool (decide (w ∈ xs))) := by
  unfold opInA
  show Option.map _ (inD (.str w) (.list (xs.map .str))) = _
  rw [inD_strs]; rfl
def stR (s s1 : Stt) (nt : Nt) (wy : List (Str × Str)) (w : Str) (met : List Str) (x4 : Sl) : Rho := [some (s, noteD nt), some (s1, .dict (dE .str wy)), some (.shr, .str w), some (.own, .list (met.map .str)), x4]
def bR : Mo Fl := sSeq (sDrop (xMut "list" 3 mAppend (aC (xV 2) aN))) (sSet 2 (x2i (x2i (xV 0) (x2i (xV 1) (xV 2) opIx) opIx) (xC (.int 1)) opIx))
def tR : Mo Bool := tV (x2 (xV 2) (xV 3) opNotInA)
theorem tR_ok (s s1 : Stt) (nt : Nt) (wy : List (Str × Str)) (w : Str) (met : List Str) (x4 : Sl) : tR (stR s s1 nt wy w met x4) = some (!decide (w ∈ met), stR s s1 nt wy w met x4) := by
  unfold tR stR
  simp [nin_strs]
theorem bR_ok (s s1 : Stt) (h : Rdg s) (h1 : Rdg s1) (nt : Nt) (wy : List (Str × Str)) (w n : Str) (e : Ed) (met : List Str) (x4 : Sl) (hw : lookS wy w = some n) (hn : lookS nt n = some e) (hl : met.length < 1000) : bR (stR s s1 nt wy w met x4) = some (.nx, stR s s1 nt wy e.2.1 (met ++ [w]) x4) := by
  have l1 : lookD (.str w) (dE .str wy) = some (.str n) := by rw [look_dE, hw]; rfl
  have l2 : lookD (.str n) (dE encN nt) = some (encN e) := by rw [look_dE, hn]; rfl
  have l3 : mAppend (.list (met.map .str)) [.str w] = some (.list ((met ++ [w]).map .str), .none) := by
    show (if (met.map PyData.str).length < LIM then _ else _) = _
    rw [if_pos (by rw [List.length_map]; exact Nat.lt_of_lt_of_le hl (by decide)), List.map_append]; rfl
  unfold bR stR noteD
  generalize dE .str wy = dw at *
  generalize dE encN nt = dn at *
  generalize (met ++ [w]).map PyData.str = m2 at *
  generalize met.map PyData.str = m1 at *
  rcases h with rfl | rfl <;> rcases h1 with rfl | rfl <;> simp [l1, l2, l3, encN]
/-- where a walk back along why leads -/
structure Chain (nt : Nt) (wy : List (Str × Str)) (L : Str → Nat) : Prop where
  why : ∀ w, 1 ≤ L w → ∃ n e, lookS wy w = some n ∧ lookS nt n = some e ∧ e.1 = w ∧ L w ≤ L e.2.1 + 1
theorem ring_loop (s s1 : Stt) (h : Rdg s) (h1 : Rdg s1) {nt : Nt} (C : Cas nt) {wy : List (Str × Str)} {L : Str → Nat} (c : Chain nt wy L) : ∀ (n : Nat) (met : List Str) (w : Str) (x4 : Sl), (Wd nt).length + 1 ≤ n + met.length → met.Nodup → (∀ m ∈ met, m ∈ Wd nt ∧ ∃ r, lookS wy m = some r) → (Wd nt).length + 1 ≤ L w + met.length →
    ∃ w' met', whileM (n + 1) tR bR (stR s s1 nt wy w met x4) = some (.nx, stR s s1 nt wy w' met' x4) ∧ w' ∈ met' ∧ (∀ m ∈ met', ∃ r, lookS wy m = some r) ∧ met'.length ≤ 100
  | n, met, w, x4, hn, nd, hm, hL => by
    have hl := nodup_le nd fun a ha => (hm a ha).1
    have h40 := wd_len C.few
    unfold whileM
    rw [tR_ok]
    by_cases hw : w ∈ met
    · refine ⟨w, met, by simp [hw], hw, fun m z => (hm m z).2, by omega⟩
    · have hd : (!decide (w ∈ met)) = true := by simp [hw]
      rw [hd]
      dsimp only
      obtain ⟨r, e, a1, a2, a3, a4⟩ := c.why w (by omega)
      rw [bR_ok s s1 h h1 nt wy w r e met x4 a1 a2 (by omega)]
      dsimp only
      have nd2 : (met ++ [w]).Nodup := List.nodup_append.mpr ⟨nd, by simp, fun a ha b hb z => by rw [List.mem_singleton] at hb; exact hw (hb ▸ z ▸ ha)⟩
      have hm2 : ∀ m ∈ met ++ [w], m ∈ Wd nt ∧ ∃ r, lookS wy m = some r := fun m hz => by
        rcases List.mem_append.mp hz with hz | hz
        · exact hm m hz
        · rw [List.mem_singleton] at hz
          subst hz
          exact ⟨by rw [← a3]; exact (wd_mem ⟨r, a2⟩).1, r, a1⟩
      have hl2 := nodup_le nd2 fun a ha => (hm2 a ha).1
      rw [List.length_append, List.length_singleton] at hl2
      cases n with
      | zero => omega
      | succ n =>
        exact ring_loop s s1 h h1 C c n (met ++ [w]) e.2.1 x4 (by rw [List.length_append, List.length_singleton]; omega) nd2 hm2 (by rw [List.length_append, List.length_singleton]; omega)
theorem idxS_mem : ∀ {xs : List Str} {w : Str}, w ∈ xs → ∃ j, idxS xs w = some j
  | x :: r, w, h => by
    unfold idxS
    by_cases e : x = w
    · exact ⟨0, if_pos e⟩
    · obtain ⟨j, hj⟩ := idxS_mem ((List.mem_cons.mp h).resolve_left fun z => e z.symm)
      exact ⟨j + 1, by rw [if_neg e, hj]; rfl⟩
theorem cut_map {α β : Type} (f : α → β) (l : List α) (lo hi : Option Int) : cutD (l.map f) lo hi = (cutD l lo hi).map f := by
  unfold cutD
  rw [List.length_map, List.map_take, List.map_drop]
theorem cut_mem {α : Type} {l : List α} {lo hi : Option Int} {a : α} (h : a ∈ cutD l lo hi) : a ∈ l := List.mem_of_mem_drop (List.mem_of_mem_take h)
theorem cut_len {α : Type} (l : List α) (lo hi : Option Int) : (cutD l lo hi).length ≤ l.length := by
  unfold cutD
  rw [List.length_take, List.length_drop]; omega
def rM : Mo Rs := xLc [4] (iS (xSl (xV 3) (oS (xIdx (xV 3) (xV 2))) oN)) (gN 4) tYesM (x2i (xV 1) (xV 4) opIx)
theorem rM_ok (s s1 : Stt) (h1 : Rdg s1) (nt : Nt) (wy : List (Str × Str)) {w : Str} {met : List Str} (hw : w ∈ met) (hm : ∀ m ∈ met, ∃ r, lookS wy m = some r) (hl : met.length ≤ 100) : ∃ ds, rM (stR s s1 nt wy w met none) = some (.fresh (.list ds), stR s s1 nt wy w met none) := by
  obtain ⟨j, hj⟩ := idxS_mem hw
  have hx : idxD (.list (met.map .str)) (.str w) = some j := by
    show (strsD (met.map .str)).bind _ = _
    rw [strsD_map]; exact hj
  have hc : opSl (.list (met.map .str)) (some (j : Int)) none = some (.list ((cutD met (some (j : Int)) none).map .str)) := by
    show some (PyData.list (cutD (met.map PyData.str) (some (j : Int)) none)) = _
    rw [cut_map]
  have hlen := cut_len met (some (j : Int)) none
  have hsub : ∀ m ∈ cutD met (some (j : Int)) none, ∃ r, lookS wy m = some r := fun m z => hm m (cut_mem z)
  generalize cutD met (some (j : Int)) none = sub at *
  have := lc_evalT (vs := [4]) (fi := iS (xSl (xV 3) (oS (xIdx (xV 3) (xV 2))) oN)) (g := gN 4) (t := tYesM) (fe := x2i (xV 1) (xV 4) opIx) (ρ := stR s s1 nt wy w met none) (ρ1 := stR s s1 nt wy w met none) (l := sub) (e := fun m => .str m)
    (fun _ => true) (fun m => .str ((lookS wy m).getD "")) (by
      unfold stR
      generalize met.map PyData.str = m1 at *
      simp [hx, hc]) (Nat.le_trans (Nat.le_trans hlen hl) (by decide)) (fun m hz => ?_)
  · refine ⟨sub.map fun m => .str ((lookS wy m).getD ""), ?_⟩
    unfold rM
    rw [this, filt_true]
    unfold stR
    simp [restE, wipeE]
  · obtain ⟨r, hr⟩ := hsub m hz
    have l1 : lookD (.str m) (dE .str wy) = some (.str r) := by rw [look_dE, hr]; rfl
    have hg : (lookS wy m).getD "" = r := by rw [hr]; rfl
    rw [hg]
    obtain ⟨q, hq⟩ : ∃ q : Rho, q = [some (s, noteD nt), some (s1, .dict (dE .str wy)), some (.shr, .str w), some (.own, .list (met.map .str)), some (.shr, .str m)] := ⟨_, rfl⟩
    refine ⟨q, by unfold stR; simp [wipeE, hq], q, rfl, fun z => absurd z (by decide), fun _ => ⟨.kept (.str r), q, q, ?_, rfl, by unfold stR; simp [wipeE, hq]⟩⟩
    subst hq
    generalize dE PyData.str wy = dw at *
    rcases h1 with rfl | rfl <;> simp [l1]
theorem ring_ok (R : Fns) (s s1 : Stt) (h : Rdg s) (h1 : Rdg s1) {nt : Nt} (C : Cas nt) {wy : List (Str × Str)} {L : Str → Nat} (c : Chain nt wy L) {w : Str} (hw : L w = (Wd nt).length + 1) :
    ∃ ds, runF 3 5 (m_ring R) [(s, noteD nt), (s1, .dict (dE .str wy)), (.shr, .str w)] = some (.kept (.tuple ds), none) := by
  have h40 := wd_len C.few
  obtain ⟨w', met, e1, e2, e3, e4⟩ := ring_loop s s1 h h1 C c 199 [] w none (by simp; omega) List.nodup_nil (by simp) (by simp; omega)
  obtain ⟨ds, e5⟩ := rM_ok s s1 h1 nt wy e2 e3 e4
  refine ⟨ds, ?_⟩
  have ev : m_ring R [some (s, noteD nt), some (s1, .dict (dE .str wy)), some (.shr, .str w), none, none] = some (.ret (.kept (.tuple ds)), stR s s1 nt wy w' met none) := by
    show sSeq (sSet 3 (xLst aN)) (sSeq (whileM 200 tR bR) (sRet (xB oTuple (aC rM aN)))) _ = _
    have e0 : sSet 3 (xLst aN) [some (s, noteD nt), some (s1, .dict (dE .str wy)), some (.shr, .str w), none, none] = some (.nx, stR s s1 nt wy w [] none) := by
      unfold stR
      generalize noteD nt = d
      simp
    rw [e_sq, e0, e_sqn, e_sq, e1, e_sqn]
    generalize rM = rm at *
    generalize stR s s1 nt wy w' met none = st at *
    simp [e5]
  refine run_ret ?_ ?_ ev rfl
  · rcases h with rfl | rfl <;> rcases h1 with rfl | rfl <;> rfl
  · rcases h with rfl | rfl <;> rcases h1 with rfl | rfl <;> rfl
end PyK79

/-! spread whole -/
namespace PyK79
open PySem PySem.Spec L2 PyI
/-- what the functions that spread calls tell -/
structure SpR (R : Fns) (nt : Nt) : Prop where
  words : ∀ s, Rdg s → R.words_of [(s, noteD nt)] = some (.fresh (.list ((Wd nt).map .str)), none)
  ring : ∀ {s s1 : Stt} {wy : List (Str × Str)} {L : Str → Nat} {w : Str}, Rdg s → Rdg s1 → Chain nt wy L → L w = (Wd nt).length + 1 → ∃ ds, R.ring [(s, noteD nt), (s1, .dict (dE .str wy)), (.shr, .str w)] = some (.kept (.tuple ds), none)
theorem zero_tab (W : List Str) (nd : W.Nodup) : W.foldl (fun d a => putD d (.str a) (.int 0)) [] = dE .int (tab W fun _ => 0) := by
  have := merge_new (PyData.int) (m := tab W fun _ => (0 : Int)) (l := []) (by simpa using nd)
  rw [List.nil_append] at this
  rw [← this]
  unfold mergeD dE tab
  rw [List.foldl_map, List.foldl_map]
  rfl
def dcZ : Mo Rs := xDc [7] (iS (xV 1)) (gN 7) tYesM (xV 7) (xC (.int 0))
theorem dcZ_ok (d0 : Sl) (W : List Str) (nd : W.Nodup) (hW : W.length ≤ 100) : dcZ [d0, some (.own, .list (W.map .str)), none, none, none, none, none, none, none, none, none] = some (.fresh (.dict (dE .int (tab W fun _ => 0))), [d0, some (.shr, .list (W.map .str)), none, none, none, none, none, none, none, none, none]) := by
  have := dc_evalT (vs := [7]) (fi := iS (xV 1)) (g := gN 7) (t := tYesM) (fk := xV 7) (fv := xC (.int 0)) (ρ := [d0, some (.own, .list (W.map .str)), none, none, none, none, none, none, none, none, none]) (ρ1 := [d0, some (.shr, .list (W.map .str)), none, none, none, none, none, none, none, none, none]) (l := W) (e := fun w => .str w)
    (fun w => w) (fun _ => .int 0) (by simp) (Nat.le_trans hW (by decide)) (fun w hw => ?_)
  · unfold dcZ
    rw [this, zero_tab W nd]
    simp [restE, wipeE]
  · obtain ⟨q, hq⟩ : ∃ q : Rho, q = [d0, some (.shr, .list (W.map .str)), none, none, none, none, none, some (.shr, .str w), none, none, none] := ⟨_, rfl⟩
    refine ⟨q, q, q, by simp [wipeE, hq], rfl, ?_, by simp [wipeE, hq]⟩
    subst hq
    rfl
def rngM : Mo (List PyData) := iR1 (x2 (xB oLen (aC (xV 1) aN)) (xC (.int 1)) opAdd)
theorem rngM_ok (d0 : Sl) (W : List Str) (hW : W.length ≤ 100) (ρ : Rho) : rngM (d0 :: some (.shr, .list (W.map .str)) :: ρ) = some (rngD 0 (W.length + 1), d0 :: some (.shr, .list (W.map .str)) :: ρ) := by
  have e := e_irb (W.length + 1) (d0 :: some (.shr, .list (W.map .str)) :: ρ) (by omega)
  unfold rngM
  simpa using e
theorem m_spread_eq (R : Fns) : m_spread R = sSeq (sSet 1 (xCall R.words_of (aC (xV 0) aN))) (sSeq (sSet 2 dcZ) (sSeq (sSet 3 xDict0) (sSeq (sFor rngM (gN 4) bO) (sRet (xTup (aC (xC (.str "ring")) (aC (xCall R.ring (aC (xV 0) (aC (xV 3) (aC (xV 5) aN)))) aN))))))) := rfl
theorem spread_loop (s : Stt) (h : Rdg s) {nt : Nt} (C : Cas nt) :
    (∃ f' ρ', sFor rngM (gN 4) bO (stQ s nt (Wd nt) (fun _ => 0) [] none none none none none none none) = some (.ret (.kept (.tuple [.str "row", rowD (Wd nt) f'])), ρ') ∧ Sat (EE nt) f') ∨
    ∃ f wy L w x4 x6 x7 x8 x9 x10, sFor rngM (gN 4) bO (stQ s nt (Wd nt) (fun _ => 0) [] none none none none none none none) = some (.nx, stQ s nt (Wd nt) f wy x4 (some (.shr, .str w)) x6 x7 x8 x9 x10) ∧ Chain nt wy L ∧ L w = (Wd nt).length + 1 ∧ ¬ Feas (EE nt) := by
  have h40 := wd_len C.few
  have loop := for_inv (ds := rngD 0 ((Wd nt).length + 1)) (g := gN 4) (b := bO)
    (fun j ρ => ∃ f wy L x4 x5 x6 x7 x8 x9 x10, ρ = stQ s nt (Wd nt) f wy x4 x5 x6 x7 x8 x9 x10 ∧ Ps nt j f 0 f wy none L ∧ GLow nt j f ∧ (j = 0 ∨ ∃ w, x5 = some (.shr, .str w) ∧ L w = j ∧ ((Wd nt).length < j → ¬ Feas (EE nt))))
    (fun r => ∃ f', r = .kept (.tuple [.str "row", rowD (Wd nt) f']) ∧ Sat (EE nt) f')
    (fun j d ρ hd hj => by
      obtain ⟨f, wy, L, x4, x5, x6, x7, x8, x9, x10, rfl, p, gl, _⟩ := hj
      refine ⟨stQ s nt (Wd nt) f wy (some (.shr, d)) x5 x6 x7 x8 x9 x10, ?_⟩
      rcases bO_ok s h C p gl (some (.shr, d)) x5 x6 x7 x8 x9 x10 with ⟨f', ρ', e, _, q⟩ | ⟨f', wy', w, L', y6, y8, y9, y10, e, p', gl', hw, hL, hn⟩
      · exact ⟨_, ρ', rfl, e, .inr ⟨_, rfl, f', rfl, q⟩⟩
      · exact ⟨_, _, rfl, e, .inl ⟨.inl rfl, f', wy', L', some (.shr, d), some (.shr, .str w), y6, x7, y8, y9, y10, rfl, p', gl', .inr ⟨w, rfl, hL, fun z => hn (by omega)⟩⟩⟩)
    (stQ s nt (Wd nt) (fun _ => 0) [] none none none none none none none)
    (by
      obtain ⟨gl, p⟩ := ps_start (nt := nt)
      exact ⟨_, _, _, _, _, _, _, _, _, _, rfl, p, gl, .inl rfl⟩)
  have e0 : sFor rngM (gN 4) bO (stQ s nt (Wd nt) (fun _ => 0) [] none none none none none none none) = forM (rngD 0 ((Wd nt).length + 1)) (gN 4) bO (stQ s nt (Wd nt) (fun _ => 0) [] none none none none none none none) := by
    rw [e_for, show rngM (stQ s nt (Wd nt) (fun _ => 0) [] none none none none none none none) = _ from rngM_ok _ (Wd nt) (by omega) _, e_fora]
    rfl
  rw [e0]
  rcases loop with ⟨ρ', e, hI⟩ | ⟨r, ρ', e, f', rfl, q⟩
  · right
    obtain ⟨f, wy, L, x4, x5, x6, x7, x8, x9, x10, rfl, p, gl, hz⟩ := hI
    rw [rngD_len] at p gl hz
    rcases hz with hz | ⟨w, rfl, hL, hn⟩
    · cases hz
    · exact ⟨f, wy, L, w, x4, x6, x7, x8, x9, x10, e, ⟨p.why⟩, hL, hn (by omega)⟩
  · exact .inl ⟨f', ρ', e, q⟩
theorem spread_ok (R : Fns) (s : Stt) (h : Rdg s) {nt : Nt} (C : Cas nt) (hR : SpR R nt) :
    (∃ f, runF 1 11 (m_spread R) [(s, noteD nt)] = some (.kept (.tuple [.str "row", rowD (Wd nt) f]), none) ∧ Sat (EE nt) f) ∨
    ∃ ds, runF 1 11 (m_spread R) [(s, noteD nt)] = some (.kept (.tuple [.str "ring", .tuple ds]), none) ∧ ¬ Feas (EE nt) := by
  have h40 := wd_len C.few
  have hw := hR.words s h
  have e1 : sSet 1 (xCall R.words_of (aC (xV 0) aN)) [some (s, noteD nt), none, none, none, none, none, none, none, none, none, none] = some (.nx, [some (s, noteD nt), some (.own, .list ((Wd nt).map .str)), none, none, none, none, none, none, none, none, none]) := by
    generalize noteD nt = d at *
    rcases h with rfl | rfl <;> simp [hw]
  have e2 : sSet 2 dcZ [some (s, noteD nt), some (.own, .list ((Wd nt).map .str)), none, none, none, none, none, none, none, none, none] = some (.nx, [some (s, noteD nt), some (.shr, .list ((Wd nt).map .str)), some (.own, .dict (dE .int (tab (Wd nt) fun _ => 0))), none, none, none, none, none, none, none, none]) := by
    have := dcZ_ok (some (s, noteD nt)) (Wd nt) (wd_nodup nt) (by omega)
    generalize dcZ = z at *
    generalize noteD nt = d at *
    simp [this]
  have e3 : sSet 3 xDict0 [some (s, noteD nt), some (.shr, .list ((Wd nt).map .str)), some (.own, .dict (dE .int (tab (Wd nt) fun _ => 0))), none, none, none, none, none, none, none, none] = some (.nx, stQ s nt (Wd nt) (fun _ => 0) [] none none none none none none none) := by
    unfold stQ
    generalize noteD nt = d
    simp [dE]
  have fit : argsFit 1 [(s, noteD nt)] = true := by rcases h with rfl | rfl <;> rfl
  have len0 : ∀ ρ', lentOf ρ' [(s, noteD nt)] = some none := fun ρ' => by rcases h with rfl | rfl <;> rfl
  rcases spread_loop s h C with ⟨f, ρ', e4, q⟩ | ⟨f, wy, L, w, x4, x6, x7, x8, x9, x10, e4, c, hL, nf⟩
  · left
    refine ⟨f, ?_, q⟩
    have ev : m_spread R [some (s, noteD nt), none, none, none, none, none, none, none, none, none, none] = some (.ret (.kept (.tuple [.str "row", rowD (Wd nt) f])), ρ') := by
      rw [m_spread_eq, e_sq, e1, e_sqn, e_sq, e2, e_sqn, e_sq, e3, e_sqn, e_sq, e4]; rfl
    exact run_ret fit (len0 ρ') ev rfl
  · right
    obtain ⟨ds, er⟩ := hR.ring (s := s) (s1 := .bor) h (.inr rfl) c hL
    refine ⟨ds, ?_, nf⟩
    have e5 : sRet (xTup (aC (xC (.str "ring")) (aC (xCall R.ring (aC (xV 0) (aC (xV 3) (aC (xV 5) aN)))) aN))) (stQ s nt (Wd nt) f wy x4 (some (.shr, .str w)) x6 x7 x8 x9 x10) = some (.ret (.kept (.tuple [.str "ring", .tuple ds])), stQ s nt (Wd nt) f wy x4 (some (.shr, .str w)) x6 x7 x8 x9 x10) := by
      unfold stQ
      generalize noteD nt = d at *
      generalize dE PyData.str wy = dw at *
      rcases h with rfl | rfl <;> simp [er]
    have ev : m_spread R [some (s, noteD nt), none, none, none, none, none, none, none, none, none, none] = some (.ret (.kept (.tuple [.str "ring", .tuple ds])), stQ s nt (Wd nt) f wy x4 (some (.shr, .str w)) x6 x7 x8 x9 x10) := by
      rw [m_spread_eq, e_sq, e1, e_sqn, e_sq, e2, e_sqn, e_sq, e3, e_sqn, e_sq, e4, e_sqn, e5]
    exact run_ret fit (len0 _) ev rfl
end PyK79

/-! most_apart: least sums from one word on -/
namespace PyK79
open PySem PySem.Spec L2 PyI
abbrev Pa := List (Str × (Int × List Str))
def encP (p : Int × List Str) : PyData := .tuple [.int p.1, .tuple (p.2.map .str)]
def rel2 (e : Ed) (n : Str) (pa : Pa) : Pa := match lookS pa e.1 with
  | none => pa
  | some p => match lookS pa e.2.1 with
    | none => putS pa e.2.1 (p.1 + e.2.2, p.2 ++ [n])
    | some q => if p.1 + e.2.2 < q.1 then putS pa e.2.1 (p.1 + e.2.2, p.2 ++ [n]) else pa
structure Ms (nt : Nt) (one : Str) (k i : Nat) (pa : Pa) (c : Nat) : Prop where
  wt : ∀ v p, lookS pa v = some p → ∃ es, Wk (EE nt) one es v ∧ tot es = p.1
  low : ∀ es v, Wk (EE nt) one es v → es.length ≤ k → ∃ p, lookS pa v = some p ∧ p.1 ≤ tot es
  don : ∀ e, Done nt i e → ∀ es, Wk (EE nt) one es e.1 → es.length ≤ k → ∃ p, lookS pa e.2.1 = some p ∧ p.1 ≤ tot es + e.2.2
  nd : (pa.map (·.1)).Nodup
  kw : ∀ w ∈ pa.map (·.1), w ∈ one :: Wd nt
  ln : ∀ v p, lookS pa v = some p → p.2.length ≤ c
theorem ms_put {nt : Nt} {one : Str} {k i : Nat} {pa : Pa} {c : Nat} {n : Str} {e : Ed} {p : Int × List Str} (m : Ms nt one k i pa c) (hi : (ks nt)[i]? = some n) (hn : lookS nt n = some e) (hp : lookS pa e.1 = some p) (hq : ∀ q, lookS pa e.2.1 = some q → p.1 + e.2.2 < q.1) :
    Ms nt one k (i + 1) (putS pa e.2.1 (p.1 + e.2.2, p.2 ++ [n])) (c + 1) := by
  have he : EE nt e := ⟨n, hn⟩
  obtain ⟨ha, hb⟩ := wd_mem he
  have mono : ∀ v q, lookS pa v = some q → ∃ q', lookS (putS pa e.2.1 (p.1 + e.2.2, p.2 ++ [n])) v = some q' ∧ q'.1 ≤ q.1 := fun v q h => by
    rw [look_put]
    by_cases hv : v = e.2.1
    · rw [if_pos hv]
      have := hq q (hv ▸ h)
      exact ⟨_, rfl, by simp only; omega⟩
    · rw [if_neg hv]; exact ⟨q, h, Int.le_refl _⟩
  refine ⟨fun v q h => ?_, fun es v w hl => ?_, fun e2 d es w hl => ?_, nodup_put _ m.nd, fun w hw => ?_, fun v q h => ?_⟩
  · rw [look_put] at h
    by_cases hv : v = e.2.1
    · rw [if_pos hv] at h
      cases h
      obtain ⟨es, w1, w2⟩ := m.wt _ p hp
      rw [hv]
      exact ⟨es ++ [e], w1.snoc he, by rw [tot_app, tot_cons, tot_nil, w2]; simp⟩
    · rw [if_neg hv] at h; exact m.wt v q h
  · obtain ⟨q, h1, h2⟩ := m.low es v w hl
    obtain ⟨q', h3, h4⟩ := mono v q h1
    exact ⟨q', h3, Int.le_trans h4 h2⟩
  · rcases (done_succ hi hn).mp d with d | rfl
    · obtain ⟨q, h1, h2⟩ := m.don e2 d es w hl
      obtain ⟨q', h3, h4⟩ := mono _ q h1
      exact ⟨q', h3, Int.le_trans h4 h2⟩
    · obtain ⟨q, h1, h2⟩ := m.low es _ w hl
      rw [hp] at h1; cases h1
      exact ⟨_, by rw [look_put, if_pos rfl], by simp only; omega⟩
  · rcases mem_put.mp hw with rfl | hw
    · exact List.mem_cons_of_mem _ hb
    · exact m.kw w hw
  · rw [look_put] at h
    by_cases hv : v = e.2.1
    · rw [if_pos hv] at h
      cases h
      have := m.ln _ p hp
      simp only [List.length_append, List.length_singleton]
      omega
    · rw [if_neg hv] at h
      exact Nat.le_succ_of_le (m.ln v q h)
theorem ms_skip {nt : Nt} {one : Str} {k i : Nat} {pa : Pa} {c : Nat} {n : Str} {e : Ed} (m : Ms nt one k i pa c) (hi : (ks nt)[i]? = some n) (hn : lookS nt n = some e) (hq : ∀ p, lookS pa e.1 = some p → ∃ q, lookS pa e.2.1 = some q ∧ q.1 ≤ p.1 + e.2.2) : Ms nt one k (i + 1) pa (c + 1) := by
  refine ⟨m.wt, m.low, fun e2 d es w hl => ?_, m.nd, m.kw, fun v q h => Nat.le_succ_of_le (m.ln v q h)⟩
  rcases (done_succ hi hn).mp d with d | rfl
  · exact m.don e2 d es w hl
  · obtain ⟨p, h1, h2⟩ := m.low es _ w hl
    obtain ⟨q, h3, h4⟩ := hq p h1
    exact ⟨q, h3, by omega⟩
theorem ms_step {nt : Nt} {one : Str} {k i : Nat} {pa : Pa} {c : Nat} {n : Str} {e : Ed} (m : Ms nt one k i pa c) (hi : (ks nt)[i]? = some n) (hn : lookS nt n = some e) : Ms nt one k (i + 1) (rel2 e n pa) (c + 1) := by
  unfold rel2
  cases h1 : lookS pa e.1 with
  | none => exact ms_skip m hi hn fun p z => by rw [h1] at z; cases z
  | some p =>
    dsimp only
    cases h2 : lookS pa e.2.1 with
    | none => exact ms_put m hi hn h1 fun q z => by rw [h2] at z; cases z
    | some q =>
      dsimp only
      by_cases hlt : p.1 + e.2.2 < q.1
      · rw [if_pos hlt]
        exact ms_put m hi hn h1 fun q' z => by rw [h2] at z; cases z; exact hlt
      · rw [if_neg hlt]
        exact ms_skip m hi hn fun p' z => by rw [h1] at z; cases z; exact ⟨q, h2, by omega⟩
theorem ms_end {nt : Nt} (C : Cas nt) {one : Str} {k : Nat} {pa : Pa} {c : Nat} (m : Ms nt one k (ks nt).length pa c) : Ms nt one (k + 1) 0 pa c := by
  refine ⟨m.wt, fun es v w hl => ?_, fun e d => absurd d done_zero, m.nd, m.kw, m.ln⟩
  rcases List.eq_nil_or_concat es with rfl | ⟨p, e, rfl⟩
  · exact m.low [] v w (Nat.zero_le _)
  · rw [List.concat_eq_append] at w hl ⊢
    obtain ⟨z, w1, w2⟩ := Wk.app.mp w
    obtain ⟨h1, h2, h3⟩ := w2
    subst h2
    cases h3
    obtain ⟨q, a, b⟩ := m.don e (done_all C.nd h1) p w1 (by simpa using hl)
    exact ⟨q, a, by rw [tot_app, tot_cons, tot_nil]; omega⟩
theorem ms_start {nt : Nt} {one : Str} : Ms nt one 0 0 [(one, (0, []))] 0 := by
  refine ⟨fun v p h => ?_, fun es v w hl => ?_, fun e d => absurd d done_zero, by simp, fun w hw => ?_, fun v p h => ?_⟩
  · rw [look_cons] at h
    split at h
    · rename_i hv; cases h; exact ⟨[], hv, rfl⟩
    · cases h
  · cases es with
    | nil => cases w; exact ⟨_, if_pos rfl, Int.le_refl _⟩
    | cons e es => simp at hl
  · simp at hw; rw [hw]; exact List.mem_cons_self
  · rw [look_cons] at h
    split at h
    · cases h; exact Nat.le_refl _
    · cases h
theorem ms_dist {nt : Nt} {one : Str} {k c : Nat} {pa : Pa} (m : Ms nt one k 0 pa c) (hk : (Wd nt).length ≤ k) (fe : Feas (EE nt)) (v : Str) : IsD (EE nt) one v ((lookS pa v).map (·.1)) := by
  have sh : ∀ es, Wk (EE nt) one es v → ∃ p, lookS pa v = some p ∧ p.1 ≤ tot es := fun es w => by
    obtain ⟨es', a, b, c'⟩ := shorten (W := Wd nt) fe (fun e he => (wd_mem he).1) es.length (Nat.le_refl _) w
    obtain ⟨p, h1, h2⟩ := m.low es' v b (by omega)
    exact ⟨p, h1, by omega⟩
  cases h : lookS pa v with
  | none =>
    intro es w
    obtain ⟨p, h1, _⟩ := sh es w
    rw [h] at h1; cases h1
  | some p =>
    refine ⟨m.wt v p h, fun es w => ?_⟩
    obtain ⟨q, h1, h2⟩ := sh es w
    rw [h] at h1; cases h1
    exact h2
/-! ### the loops -/
def bM : Mo Fl := sSeq (sUnp (x2i (xV 0) (xV 9) opIx) (gT (gsC (gN 10) (gsC (gN 11) (gsC (gN 12) gsN)))))
    (sIf (tAndM (tV (x2 (xV 10) (xV 4) opInA)) (tOrM (tV (x2 (xV 11) (xV 4) opNotInA)) (tV (x2 (x2 (x2i (x2i (xV 4) (xV 10) opIx) (xC (.int 0)) opIx) (xV 12) opAdd) (x2i (x2i (xV 4) (xV 11) opIx) (xC (.int 0)) opIx) opLt)))) (sPut 4 (xV 11) (xTup (aC (x2 (x2i (x2i (xV 4) (xV 10) opIx) (xC (.int 0)) opIx) (xV 12) opAdd) (aC (x2 (x2i (x2i (xV 4) (xV 10) opIx) (xC (.int 1)) opIx) (xTup (aC (xV 9) aN)) opAdd) aN)))) sPass)
def stM (s : Stt) (nt : Nt) (x1 x2 x3 : Sl) (pa : Pa) (x5 x6 x7 x8 x9 x10 x11 x12 : Sl) : Rho := [some (s, noteD nt), x1, x2, x3, some (.own, .dict (dE encP pa)), x5, x6, x7, x8, x9, x10, x11, x12]
theorem bM_ok (s : Stt) (h : Rdg s) (nt : Nt) (x1 x2 x3 : Sl) (pa : Pa) (x5 x6 x7 x8 x10 x11 x12 : Sl) (n : Str) (e : Ed) (hn : lookS nt n = some e) (hl : pa.length ≤ 900) (hln : ∀ v p, lookS pa v = some p → p.2.length ≤ 100000) :
    bM (stM s nt x1 x2 x3 pa x5 x6 x7 x8 (some (.shr, .str n)) x10 x11 x12) = some (.nx, stM s nt x1 x2 x3 (rel2 e n pa) x5 x6 x7 x8 (some (.shr, .str n)) (some (.shr, .str e.1)) (some (.shr, .str e.2.1)) (some (.shr, .int e.2.2))) := by
  have l3 : lookD (.str n) (dE encN nt) = some (encN e) := by rw [look_dE, hn]; rfl
  have p1 : ∀ p : Int × List Str, setD (.dict (dE encP pa)) (.str e.2.1) (encP (p.1 + e.2.2, p.2 ++ [n])) = some (.dict (dE encP (putS pa e.2.1 (p.1 + e.2.2, p.2 ++ [n])))) := fun p => setD_dE encP pa e.2.1 _ (by omega)
  unfold rel2
  cases h1 : lookS pa e.1 with
  | none =>
    have l1 : lookD (.str e.1) (dE encP pa) = none := by rw [look_dE, h1]; rfl
    dsimp only
    unfold bM stM noteD
    generalize dE encP pa = dp at *
    generalize dE encN nt = dn at *
    rcases h with rfl | rfl <;> simp [l1, l3, encN]
  | some p =>
    have l1 : lookD (.str e.1) (dE encP pa) = some (encP p) := by rw [look_dE, h1]; rfl
    have hc : opAdd (.tuple (p.2.map .str)) (.tuple [.str n]) = some (.tuple ((p.2 ++ [n]).map .str)) := by
      show (if (p.2.map PyData.str).length + [PyData.str n].length ≤ sizeLine then some (PyData.tuple (p.2.map .str ++ [PyData.str n])) else none) = _
      rw [if_pos (by rw [List.length_map, sizeLine_eq]; have := hln _ p h1; simp; omega), List.map_append]; rfl
    have q1 := p1 p
    unfold encP at q1
    dsimp only at q1 ⊢
    cases h2 : lookS pa e.2.1 with
    | none =>
      have l2 : lookD (.str e.2.1) (dE encP pa) = none := by rw [look_dE, h2]; rfl
      dsimp only
      unfold bM stM noteD
      unfold encP at *
      generalize dE (fun p : Int × List Str => PyData.tuple [.int p.1, .tuple (p.2.map .str)]) (putS pa e.2.1 (p.1 + e.2.2, p.2 ++ [n])) = dq at *
      generalize dE (fun p : Int × List Str => PyData.tuple [.int p.1, .tuple (p.2.map .str)]) pa = dp at *
      generalize dE encN nt = dn at *
      generalize (p.2 ++ [n]).map PyData.str = m2 at *
      generalize p.2.map PyData.str = m1 at *
      rcases h with rfl | rfl <;> simp [l1, l2, l3, encN, hc, q1]
    | some q =>
      have l2 : lookD (.str e.2.1) (dE encP pa) = some (encP q) := by rw [look_dE, h2]; rfl
      dsimp only
      by_cases hlt : p.1 + e.2.2 < q.1
      · rw [if_pos hlt]
        unfold bM stM noteD
        unfold encP at *
        generalize dE (fun p : Int × List Str => PyData.tuple [.int p.1, .tuple (p.2.map .str)]) (putS pa e.2.1 (p.1 + e.2.2, p.2 ++ [n])) = dq at *
        generalize dE (fun p : Int × List Str => PyData.tuple [.int p.1, .tuple (p.2.map .str)]) pa = dp at *
        generalize dE encN nt = dn at *
        generalize (p.2 ++ [n]).map PyData.str = m2 at *
        generalize p.2.map PyData.str = m1 at *
        rcases h with rfl | rfl <;> simp [l1, l2, l3, encN, hc, q1, hlt]
      · rw [if_neg hlt]
        unfold bM stM noteD
        unfold encP at *
        generalize hdp : dE (fun p : Int × List Str => PyData.tuple [.int p.1, .tuple (p.2.map .str)]) pa = dp at *
        generalize dE encN nt = dn at *
        generalize p.2.map PyData.str = m1 at *
        rcases h with rfl | rfl <;> simp [l1, l2, l3, encN, hlt]
end PyK79

/-! most_apart whole -/
namespace PyK79
open PySem PySem.Spec L2 PyI
theorem pa_len {nt : Nt} {one : Str} {k i c : Nat} {pa : Pa} (m : Ms nt one k i pa c) (h : nt.length ≤ 20) : pa.length ≤ 900 := by
  have := nodup_le m.nd m.kw
  have h2 := wd_len h
  rw [List.length_map, List.length_cons] at this
  omega
theorem ms_c {nt : Nt} {one : Str} {k i c c' : Nat} {pa : Pa} (m : Ms nt one k i pa c) (h : c ≤ c') : Ms nt one k i pa c' := ⟨m.wt, m.low, m.don, m.nd, m.kw, fun v p z => Nat.le_trans (m.ln v p z) h⟩
theorem ks_len (nt : Nt) : (ks nt).length = nt.length := by
  have := (sortS_perm (nt.map (·.1))).length_eq
  rw [List.length_map] at this
  exact this
theorem mpass_ok (s : Stt) (h : Rdg s) {nt : Nt} (C : Cas nt) {one : Str} {k c : Nat} {pa : Pa} (m : Ms nt one k 0 pa c) (hc : c ≤ 10000) (x1 x2 x3 x5 x6 x7 x8 x9 x10 x11 x12 : Sl) :
    ∃ pa' y9 y10 y11 y12, sFor itK (gN 9) bM (stM s nt x1 x2 x3 pa x5 x6 x7 x8 x9 x10 x11 x12) = some (.nx, stM s nt x1 x2 x3 pa' x5 x6 x7 x8 y9 y10 y11 y12) ∧ Ms nt one k (ks nt).length pa' (c + 20) := by
  have loop := for_all (ds := (ks nt).map .str) (g := gN 9) (b := bM) (fun i ρ => ∃ pa' y9 y10 y11 y12, ρ = stM s nt x1 x2 x3 pa' x5 x6 x7 x8 y9 y10 y11 y12 ∧ Ms nt one k i pa' (c + i) ∧ i ≤ 20)
    (fun i d ρ hd hi => by
      obtain ⟨pa', y9, y10, y11, y12, rfl, q, hi20⟩ := hi
      obtain ⟨n, hn, rfl⟩ := map_get hd
      obtain ⟨e, he⟩ := look_some (ks_mem.mp (List.mem_of_getElem? hn))
      have hlt := (List.getElem?_eq_some_iff.mp hn).1
      rw [ks_len] at hlt
      have hf := C.few
      refine ⟨stM s nt x1 x2 x3 pa' x5 x6 x7 x8 (some (.shr, .str n)) y10 y11 y12, _, rfl, bM_ok s h nt x1 x2 x3 pa' x5 x6 x7 x8 y10 y11 y12 n e he (pa_len q C.few) (fun v p z => Nat.le_trans (q.ln v p z) (by omega)), _, _, _, _, _, rfl, ms_step q hn he, by omega⟩)
    (ρ := stM s nt x1 x2 x3 pa x5 x6 x7 x8 x9 x10 x11 x12) ⟨pa, x9, x10, x11, x12, rfl, m, by omega⟩
  obtain ⟨ρ', e1, pa', y9, y10, y11, y12, rfl, q, _⟩ := loop
  rw [List.length_map] at q
  refine ⟨pa', y9, y10, y11, y12, ?_, ms_c q (by rw [ks_len]; have := C.few; omega)⟩
  rw [e_for, show itK (stM s nt x1 x2 x3 pa x5 x6 x7 x8 x9 x10 x11 x12) = _ from itK_ok s h C _, e_fora]
  exact e1
def wM (R : Fns) : Mo (List PyData) := iS (xCall R.words_of (aC (xV 0) aN))
theorem mloop_ok (R : Fns) (s : Stt) (h : Rdg s) {nt : Nt} (C : Cas nt) (hw : R.words_of [(s, noteD nt)] = some (.fresh (.list ((Wd nt).map .str)), none)) (one : Str) (x1 x2 x3 : Sl) :
    ∃ pa c x5 x6 x7 x8 x9 x10 x11 x12, sFor (wM R) (gN 5) (sFor itK (gN 9) bM) (stM s nt x1 x2 x3 [(one, (0, []))] none none none none none none none none) = some (.nx, stM s nt x1 x2 x3 pa x5 x6 x7 x8 x9 x10 x11 x12) ∧ Ms nt one (Wd nt).length 0 pa c := by
  have h40 := wd_len C.few
  have e0 : wM R (stM s nt x1 x2 x3 [(one, (0, []))] none none none none none none none none) = some ((Wd nt).map .str, stM s nt x1 x2 x3 [(one, (0, []))] none none none none none none none none) := by
    unfold wM stM
    generalize noteD nt = d at *
    rcases h with rfl | rfl <;> simp [hw]
  have loop := for_all (ds := (Wd nt).map .str) (g := gN 5) (b := sFor itK (gN 9) bM) (fun j ρ => ∃ pa x5 x9 x10 x11 x12, ρ = stM s nt x1 x2 x3 pa x5 none none none x9 x10 x11 x12 ∧ Ms nt one j 0 pa (20 * j) ∧ j ≤ (Wd nt).length)
    (fun j d ρ hd hj => by
      obtain ⟨pa, x5, x9, x10, x11, x12, rfl, q, hj40⟩ := hj
      have hlt := (List.getElem?_eq_some_iff.mp hd).1
      rw [List.length_map] at hlt
      obtain ⟨pa', y9, y10, y11, y12, e, q'⟩ := mpass_ok s h C q (by omega) x1 x2 x3 (some (.shr, d)) none none none x9 x10 x11 x12
      exact ⟨stM s nt x1 x2 x3 pa (some (.shr, d)) none none none x9 x10 x11 x12, _, rfl, e, pa', _, y9, y10, y11, y12, rfl, ms_c (ms_end C q') (by omega), hlt⟩)
    (ρ := stM s nt x1 x2 x3 [(one, (0, []))] none none none none none none none none) ⟨_, _, _, _, _, _, rfl, ms_start, Nat.zero_le _⟩
  obtain ⟨ρ', e1, pa, x5, x9, x10, x11, x12, rfl, q, _⟩ := loop
  rw [List.length_map] at q
  refine ⟨pa, _, x5, none, none, none, x9, x10, x11, x12, ?_, q⟩
  rw [e_for, e0, e_fora]
  exact e1
/-! ### notes with more -/
theorem ee_app {nt m : Nt} (hd : ∀ k ∈ m.map (·.1), k ∉ nt.map (·.1)) (e : Ed) : EE (nt ++ m) e ↔ EE nt e ∨ EE m e := by
  constructor
  · rintro ⟨n, h⟩
    rw [look_app] at h
    cases h1 : lookS nt n with
    | none => rw [h1] at h; exact .inr ⟨n, h⟩
    | some e' => rw [h1] at h; cases h; exact .inl ⟨n, h1⟩
  · rintro (⟨n, h⟩ | ⟨n, h⟩)
    · exact ⟨n, by rw [look_app, h]; rfl⟩
    · refine ⟨n, ?_⟩
      rw [look_app, look_none.mpr (hd n (List.mem_map.mpr ⟨_, look_mem h, rfl⟩)), h]; rfl
theorem cas_app {nt m : Nt} (C : (nt.map (·.1)).Nodup) (hm : (m.map (·.1)).Nodup) (hd : ∀ k ∈ m.map (·.1), k ∉ nt.map (·.1)) (hl : nt.length + m.length ≤ 20) : Cas (nt ++ m) := by
  refine ⟨?_, by rw [List.length_append]; exact hl⟩
  rw [List.map_append, List.nodup_append]
  exact ⟨C, hm, fun a ha b hb z => hd b hb (z ▸ ha)⟩
theorem star_data {nt m : Nt} (C : (nt.map (·.1)).Nodup) (hm : (m.map (·.1)).Nodup) (hd : ∀ k ∈ m.map (·.1), k ∉ nt.map (·.1)) : mergeD (mergeD [] (dE encN nt)) (mergeD [] (dE encN m)) = dE encN (nt ++ m) := by
  have a1 := merge_new encN (m := nt) (l := []) (by simpa using C)
  have a2 := merge_new encN (m := m) (l := []) (by simpa using hm)
  rw [List.nil_append] at a1 a2
  have z : dE encN ([] : Nt) = [] := rfl
  rw [z] at a1 a2
  rw [a1, a2]
  refine merge_new encN ?_
  rw [List.map_append, List.nodup_append]
  exact ⟨C, hm, fun a ha b hb z => hd b hb (z ▸ ha)⟩
/-- what spread tells -/
def SpS (R : Fns) : Prop := ∀ s, Rdg s → ∀ nt : Nt, Cas nt → (∃ f, R.spread [(s, noteD nt)] = some (.kept (.tuple [.str "row", rowD (Wd nt) f]), none) ∧ Sat (EE nt) f) ∨ ∃ ds, R.spread [(s, noteD nt)] = some (.kept (.tuple [.str "ring", .tuple ds]), none) ∧ ¬ Feas (EE nt)
/-- keys that the program adds are none of the notes' -/
structure Own (nt : Nt) : Prop where
  nd : (nt.map (·.1)).Nodup
  few : nt.length ≤ 18
  fr : ("" : Str) ∉ nt.map (·.1) ∧ (" " : Str) ∉ nt.map (·.1) ∧ ("not" : Str) ∉ nt.map (·.1)
theorem Own.cas {nt : Nt} (o : Own nt) : Cas nt := ⟨o.nd, by have := o.few; omega⟩
def selfs (one other : Str) : Nt := [("", (one, one, 0)), (" ", (other, other, 0))]
theorem selfs_ok {nt : Nt} (o : Own nt) (one other : Str) : Cas (nt ++ selfs one other) ∧ (Feas (EE (nt ++ selfs one other)) ↔ Feas (EE nt)) ∧ mergeD (mergeD [] (dE encN nt)) (mergeD [] (dE encN (selfs one other))) = dE encN (nt ++ selfs one other) := by
  have hm : ((selfs one other).map (·.1)).Nodup := by
    show (["", " "] : List Str).Nodup
    decide
  have hd : ∀ k ∈ (selfs one other).map (·.1), k ∉ nt.map (·.1) := fun k hk => by
    have hk : k ∈ (["", " "] : List Str) := hk
    simp at hk
    rcases hk with rfl | rfl
    · exact o.fr.1
    · exact o.fr.2.1
  refine ⟨cas_app o.nd hm hd (by have := o.few; show nt.length + 2 ≤ 20; omega), ⟨fun ⟨x, sx⟩ => ⟨x, fun e he => sx e ((ee_app hd e).mpr (.inl he))⟩, fun ⟨x, sx⟩ => ⟨x, fun e he => ?_⟩⟩, star_data o.nd hm hd⟩
  rcases (ee_app hd e).mp he with he | ⟨n, he⟩
  · exact sx e he
  · have := look_mem he
    simp [selfs] at this
    rcases this with ⟨_, rfl⟩ | ⟨_, rfl⟩
    · simp
    · simp
end PyK79

/-! most_apart: the parts together -/
namespace PyK79
open PySem PySem.Spec L2 PyI
def star2 : Mo Rs := xStar (xV 0) [((xC (.str "")), (xTup (aC (xV 1) (aC (xV 1) (aC (xC (.int 0)) aN))))), ((xC (.str " ")), (xTup (aC (xV 2) (aC (xV 2) (aC (xC (.int 0)) aN)))))]
def star1 : Mo Rs := xStar (xV 0) [((xC (.str "")), (xTup (aC (xV 2) (aC (xV 1) (aC (x1 opNeg (xV 6)) aN)))))]
def P1 (R : Fns) : Mo Fl := sSet 3 (xCall R.spread (aC star2 aN))
def P2 : Mo Fl := sIf (tV (x2 (x2i (xV 3) (xC (.int 0)) opIx) (xC (.str "ring")) opEq)) (sRet (xV 3)) sPass
def P3 : Mo Fl := sSet 4 (xDisp [((xV 1), (xTup (aC (xC (.int 0)) (aC (xTup aN) aN))))])
def P5 : Mo Fl := sIf (tV (x2 (xV 2) (xV 4) opNotInA)) (sRet (xTup (aC (xC (.str "any")) aN))) sPass
def P6 : Mo Fl := sUnp (x2i (xV 4) (xV 2) opIx) (gT (gsC (gN 6) (gsC (gN 7) gsN)))
def P7 (R : Fns) : Mo Fl := sSet 8 (xCall R.spread (aC star1 aN))
def P8 : Mo Fl := sRet (xTup (aC (xC (.str "most")) (aC (xV 6) (aC (xV 7) (aC (x2i (xV 8) (xC (.int 1)) opIx) aN)))))
theorem m_most_eq (R : Fns) : m_most_apart R = sSeq (P1 R) (sSeq P2 (sSeq P3 (sSeq (sFor (wM R) (gN 5) (sFor itK (gN 9) bM)) (sSeq P5 (sSeq P6 (sSeq (P7 R) P8)))))) := rfl
theorem lim_dE {nt : Nt} (h : nt.length ≤ 20) : (dE encN nt).length ≤ LIM := by
  rw [len_dE]; exact Nat.le_trans h (by decide)
theorem star2_ok (s : Stt) (h : Rdg s) (dn : List (PyData × PyData)) (hl : dn.length ≤ LIM) (one other : Str) (ρ : Rho) : star2 (some (s, .dict dn) :: some (.shr, .str one) :: some (.shr, .str other) :: ρ) =
    some (.fresh (.dict (mergeD (mergeD [] dn) (mergeD [] (dE encN (selfs one other))))), some (s, .dict dn) :: some (.shr, .str one) :: some (.shr, .str other) :: ρ) := by
  unfold star2
  have e : dE encN (selfs one other) = [(.str "", .tuple [.str one, .str one, .int 0]), (.str " ", .tuple [.str other, .str other, .int 0])] := rfl
  rw [e]
  rcases h with rfl | rfl <;> simp [e_stb _ _ _ hl]
def back1 (one other : Str) (d : Int) : Nt := [("", (other, one, -d))]
theorem star1_ok (s : Stt) (h : Rdg s) (dn : List (PyData × PyData)) (hl : dn.length ≤ LIM) (one other : Str) (d : Int) (x3 x4 x5 : Sl) (ρ : Rho) : star1 (some (s, .dict dn) :: some (.shr, .str one) :: some (.shr, .str other) :: x3 :: x4 :: x5 :: some (.shr, .int d) :: ρ) =
    some (.fresh (.dict (mergeD (mergeD [] dn) (mergeD [] (dE encN (back1 one other d))))), some (s, .dict dn) :: some (.shr, .str one) :: some (.shr, .str other) :: x3 :: x4 :: x5 :: some (.shr, .int d) :: ρ) := by
  unfold star1
  have e : dE encN (back1 one other d) = [(.str "", .tuple [.str other, .str one, .int (-d)])] := rfl
  rw [e]
  rcases h with rfl | rfl <;> simp [e_stb _ _ _ hl]
theorem SpS.two {R : Fns} (S : SpS R) {s : Stt} (h : Rdg s) {nt : Nt} (C : Cas nt) : ∃ t z, R.spread [(s, noteD nt)] = some (.kept (.tuple [.str t, z]), none) := by
  rcases S s h nt C with ⟨f, e, _⟩ | ⟨ds, e, _⟩
  · exact ⟨_, _, e⟩
  · exact ⟨_, _, e⟩
theorem P1_ok (R : Fns) (s : Stt) (h : Rdg s) {nt : Nt} (o : Own nt) (one other : Str) {t : Str} {z : PyData} (ρ : Rho) (x3 : Sl) (e : R.spread [(.shr, noteD (nt ++ selfs one other))] = some (.kept (.tuple [.str t, z]), none)) :
    P1 R (some (s, noteD nt) :: some (.shr, .str one) :: some (.shr, .str other) :: x3 :: ρ) = some (.nx, some (s, noteD nt) :: some (.shr, .str one) :: some (.shr, .str other) :: some (.shr, .tuple [.str t, z]) :: ρ) := by
  have q := star2_ok s h (dE encN nt) (lim_dE o.cas.few) one other (x3 :: ρ)
  rw [(selfs_ok o one other).2.2] at q
  unfold P1
  unfold noteD at *
  generalize star2 = st at *
  generalize dE encN (nt ++ selfs one other) = d2 at *
  generalize dE encN nt = d1 at *
  simp [q, e]
theorem P7_ok (R : Fns) (S : SpS R) (s : Stt) (h : Rdg s) {nt : Nt} (o : Own nt) (one other : Str) (d : Int) (x3 x4 x5 x7 x8 : Sl) (ρ : Rho) :
    ∃ t z, P7 R (some (s, noteD nt) :: some (.shr, .str one) :: some (.shr, .str other) :: x3 :: x4 :: x5 :: some (.shr, .int d) :: x7 :: x8 :: ρ) = some (.nx, some (s, noteD nt) :: some (.shr, .str one) :: some (.shr, .str other) :: x3 :: x4 :: x5 :: some (.shr, .int d) :: x7 :: some (.shr, .tuple [.str t, z]) :: ρ) := by
  have q := star1_ok s h (dE encN nt) (lim_dE o.cas.few) one other d x3 x4 x5 (x7 :: x8 :: ρ)
  have hd : ∀ k ∈ (back1 one other d).map (·.1), k ∉ nt.map (·.1) := fun k hk => by
    have hk : k ∈ ([""] : List Str) := hk
    simp at hk
    rw [hk]; exact o.fr.1
  have hm : ((back1 one other d).map (·.1)).Nodup := by
    show ([""] : List Str).Nodup
    decide
  obtain ⟨t, z, e⟩ := S.two (s := .shr) (.inl rfl) (cas_app o.nd hm hd (by have := o.few; show nt.length + 1 ≤ 20; omega))
  rw [star_data o.nd hm hd] at q
  refine ⟨t, z, ?_⟩
  unfold P7
  unfold noteD at *
  generalize star1 = st at *
  generalize dE encN (nt ++ back1 one other d) = d2 at *
  generalize dE encN nt = d1 at *
  simp [q, e]
theorem most_ok (R : Fns) (S : SpS R) (hw : ∀ s, Rdg s → ∀ nt : Nt, Cas nt → R.words_of [(s, noteD nt)] = some (.fresh (.list ((Wd nt).map .str)), none)) (s : Stt) (h : Rdg s) {nt : Nt} (o : Own nt) (one other : Str) :
    (¬ Feas (EE nt) ∧ ∃ ds, runF 3 13 (m_most_apart R) [(s, noteD nt), (.shr, .str one), (.shr, .str other)] = some (.kept (.tuple [.str "ring", .tuple ds]), none)) ∨
    (Feas (EE nt) ∧ ∃ dd, IsD (EE nt) one other dd ∧ ((dd = none ∧ runF 3 13 (m_most_apart R) [(s, noteD nt), (.shr, .str one), (.shr, .str other)] = some (.kept (.tuple [.str "any"]), none)) ∨
      ∃ d x y, dd = some d ∧ runF 3 13 (m_most_apart R) [(s, noteD nt), (.shr, .str one), (.shr, .str other)] = some (.kept (.tuple [.str "most", .int d, x, y]), none))) := by
  obtain ⟨C1, f1, _⟩ := selfs_ok o one other
  have fit : argsFit 3 [(s, noteD nt), (.shr, .str one), (.shr, .str other)] = true := by rcases h with rfl | rfl <;> rfl
  have len0 : ∀ ρ', lentOf ρ' [(s, noteD nt), (.shr, .str one), (.shr, .str other)] = some none := fun ρ' => by rcases h with rfl | rfl <;> rfl
  rcases S .shr (.inl rfl) _ C1 with ⟨f, e, sat⟩ | ⟨ds, e, nf⟩
  · right
    have fe : Feas (EE nt) := f1.mp ⟨f, sat⟩
    refine ⟨fe, ?_⟩
    have p1 := P1_ok R s h o one other [none, none, none, none, none, none, none, none, none] none e
    obtain ⟨pa, c, x5, x6, x7, x8, x9, x10, x11, x12, e4, m⟩ := mloop_ok R s h o.cas (hw s h nt o.cas) one (some (.shr, .str one)) (some (.shr, .str other)) (some (.shr, .tuple [.str "row", rowD (Wd (nt ++ selfs one other)) f]))
    have dist := ms_dist m (Nat.le_refl _) fe other
    have p2 : P2 [some (s, noteD nt), some (.shr, .str one), some (.shr, .str other), some (.shr, .tuple [.str "row", rowD (Wd (nt ++ selfs one other)) f]), none, none, none, none, none, none, none, none, none] = some (.nx, [some (s, noteD nt), some (.shr, .str one), some (.shr, .str other), some (.shr, .tuple [.str "row", rowD (Wd (nt ++ selfs one other)) f]), none, none, none, none, none, none, none, none, none]) := by
      unfold P2
      generalize noteD nt = d1
      generalize rowD (Wd (nt ++ selfs one other)) f = r1
      have : (("row" : Str) == ("ring" : Str)) = false := by decide
      simp [this]
    have p3 : P3 [some (s, noteD nt), some (.shr, .str one), some (.shr, .str other), some (.shr, .tuple [.str "row", rowD (Wd (nt ++ selfs one other)) f]), none, none, none, none, none, none, none, none, none] = some (.nx, stM s nt (some (.shr, .str one)) (some (.shr, .str other)) (some (.shr, .tuple [.str "row", rowD (Wd (nt ++ selfs one other)) f])) [(one, (0, []))] none none none none none none none none) := by
      unfold P3 stM
      generalize noteD nt = d1
      generalize rowD (Wd (nt ++ selfs one other)) f = r1
      have : dE encP [(one, ((0 : Int), ([] : List Str)))] = mergeD [] [(.str one, .tuple [.int 0, .tuple []])] := rfl
      rw [this]
      simp
    refine ⟨_, dist, ?_⟩
    cases hp : lookS pa other with
    | none =>
      left
      refine ⟨rfl, ?_⟩
      have p5 : P5 (stM s nt (some (.shr, .str one)) (some (.shr, .str other)) (some (.shr, .tuple [.str "row", rowD (Wd (nt ++ selfs one other)) f])) pa x5 x6 x7 x8 x9 x10 x11 x12) = some (.ret (.kept (.tuple [.str "any"])), stM s nt (some (.shr, .str one)) (some (.shr, .str other)) (some (.shr, .tuple [.str "row", rowD (Wd (nt ++ selfs one other)) f])) pa x5 x6 x7 x8 x9 x10 x11 x12) := by
        have l1 : lookD (.str other) (dE encP pa) = none := by rw [look_dE, hp]; rfl
        unfold P5 stM
        generalize noteD nt = d1
        generalize rowD (Wd (nt ++ selfs one other)) f = r1
        generalize dE encP pa = dp at *
        simp [l1]
      have ev : ∃ ρ', m_most_apart R [some (s, noteD nt), some (.shr, .str one), some (.shr, .str other), none, none, none, none, none, none, none, none, none, none] = some (.ret (.kept (.tuple [.str "any"])), ρ') := by
        rw [m_most_eq, e_sq, p1, e_sqn, e_sq, p2, e_sqn, e_sq, p3, e_sqn, e_sq, e4, e_sqn, e_sq, p5, e_sqr]
        exact ⟨_, rfl⟩
      obtain ⟨ρ', ev⟩ := ev
      exact run_ret fit (len0 _) ev rfl
    | some p =>
      right
      obtain ⟨t, z, p7⟩ := P7_ok R S s h o one other p.1 (some (.shr, .tuple [.str "row", rowD (Wd (nt ++ selfs one other)) f])) (some (.own, .dict (dE encP pa))) x5 (some (.shr, .tuple (p.2.map .str))) x8 [x9, x10, x11, x12]
      refine ⟨p.1, .tuple (p.2.map .str), z, rfl, ?_⟩
      have l1 : lookD (.str other) (dE encP pa) = some (.tuple [.int p.1, .tuple (p.2.map .str)]) := by rw [look_dE, hp]; rfl
      have p5 : P5 (stM s nt (some (.shr, .str one)) (some (.shr, .str other)) (some (.shr, .tuple [.str "row", rowD (Wd (nt ++ selfs one other)) f])) pa x5 x6 x7 x8 x9 x10 x11 x12) = some (.nx, stM s nt (some (.shr, .str one)) (some (.shr, .str other)) (some (.shr, .tuple [.str "row", rowD (Wd (nt ++ selfs one other)) f])) pa x5 x6 x7 x8 x9 x10 x11 x12) := by
        unfold P5 stM
        generalize noteD nt = d1
        generalize rowD (Wd (nt ++ selfs one other)) f = r1
        generalize dE encP pa = dp at *
        simp [l1]
      have p6 : P6 (stM s nt (some (.shr, .str one)) (some (.shr, .str other)) (some (.shr, .tuple [.str "row", rowD (Wd (nt ++ selfs one other)) f])) pa x5 x6 x7 x8 x9 x10 x11 x12) = some (.nx, stM s nt (some (.shr, .str one)) (some (.shr, .str other)) (some (.shr, .tuple [.str "row", rowD (Wd (nt ++ selfs one other)) f])) pa x5 (some (.shr, .int p.1)) (some (.shr, .tuple (p.2.map .str))) x8 x9 x10 x11 x12) := by
        unfold P6 stM
        generalize noteD nt = d1
        generalize rowD (Wd (nt ++ selfs one other)) f = r1
        generalize dE encP pa = dp at *
        generalize p.2.map PyData.str = m1 at *
        simp [l1]
      have p8 : P8 [some (s, noteD nt), some (.shr, .str one), some (.shr, .str other), some (.shr, .tuple [.str "row", rowD (Wd (nt ++ selfs one other)) f]), some (.own, .dict (dE encP pa)), x5, some (.shr, .int p.1), some (.shr, .tuple (p.2.map .str)), some (.shr, .tuple [.str t, z]), x9, x10, x11, x12] = some (.ret (.kept (.tuple [.str "most", .int p.1, .tuple (p.2.map .str), z])), [some (s, noteD nt), some (.shr, .str one), some (.shr, .str other), some (.shr, .tuple [.str "row", rowD (Wd (nt ++ selfs one other)) f]), some (.own, .dict (dE encP pa)), x5, some (.shr, .int p.1), some (.shr, .tuple (p.2.map .str)), some (.shr, .tuple [.str t, z]), x9, x10, x11, x12]) := by
        unfold P8
        generalize noteD nt = d1
        generalize rowD (Wd (nt ++ selfs one other)) f = r1
        generalize dE encP pa = dp at *
        generalize p.2.map PyData.str = m1 at *
        simp
      have ev : ∃ ρ', m_most_apart R [some (s, noteD nt), some (.shr, .str one), some (.shr, .str other), none, none, none, none, none, none, none, none, none, none] = some (.ret (.kept (.tuple [.str "most", .int p.1, .tuple (p.2.map .str), z])), ρ') := by
        rw [m_most_eq, e_sq, p1, e_sqn, e_sq, p2, e_sqn, e_sq, p3, e_sqn, e_sq, e4, e_sqn, e_sq, p5, e_sqn, e_sq, p6, e_sqn, e_sq, show P7 R (stM s nt (some (.shr, .str one)) (some (.shr, .str other)) (some (.shr, .tuple [.str "row", rowD (Wd (nt ++ selfs one other)) f])) pa x5 (some (.shr, .int p.1)) (some (.shr, .tuple (p.2.map .str))) x8 x9 x10 x11 x12) = _ from p7, e_sqn]
        exact ⟨_, p8⟩
      obtain ⟨ρ', ev⟩ := ev
      exact run_ret fit (len0 _) ev rfl
  · left
    refine ⟨fun z => nf (f1.mpr z), ds, ?_⟩
    have p1 := P1_ok R s h o one other [none, none, none, none, none, none, none, none, none] none e
    have p2 : P2 [some (s, noteD nt), some (.shr, .str one), some (.shr, .str other), some (.shr, .tuple [.str "ring", .tuple ds]), none, none, none, none, none, none, none, none, none] = some (.ret (.slot 3), [some (s, noteD nt), some (.shr, .str one), some (.shr, .str other), some (.shr, .tuple [.str "ring", .tuple ds]), none, none, none, none, none, none, none, none, none]) := by
      unfold P2
      generalize noteD nt = d1
      simp
    have ev : m_most_apart R [some (s, noteD nt), some (.shr, .str one), some (.shr, .str other), none, none, none, none, none, none, none, none, none, none] = some (.ret (.slot 3), [some (s, noteD nt), some (.shr, .str one), some (.shr, .str other), some (.shr, .tuple [.str "ring", .tuple ds]), none, none, none, none, none, none, none, none, none]) := by
      rw [m_most_eq, e_sq, p1, e_sqn, e_sq, p2, e_sqr]
    exact run_ret fit (len0 _) ev rfl
end PyK79

/-! follows, and what the law asks of most_apart -/
namespace PyK79
open PySem PySem.Spec L2 PyI
theorem denied_ok (R : Fns) (g : Ed) : runF 1 1 (m_denied R) [(.shr, encN g)] = some (.kept (encN (g.2.1, g.1, -1 - g.2.2)), none) := by
  have ev : m_denied R [some (.shr, encN g)] = some (.ret (.kept (encN (g.2.1, g.1, -1 - g.2.2))), [some (.shr, encN g)]) := by
    unfold m_denied encN
    simp
  exact run_ret rfl rfl ev rfl
def starN (R : Fns) : Mo Rs := xStar (xV 0) [((xC (.str "not")), (xCall R.denied (aC (xV 1) aN)))]
def notN (g : Ed) : Nt := [("not", (g.2.1, g.1, -1 - g.2.2))]
theorem starN_ok (R : Fns) (hd : ∀ g, R.denied [(.shr, encN g)] = some (.kept (encN (g.2.1, g.1, -1 - g.2.2)), none)) (s : Stt) (h : Rdg s) (dn : List (PyData × PyData)) (hl : dn.length ≤ LIM) (g : Ed) : starN R [some (s, .dict dn), some (.shr, encN g)] =
    some (.fresh (.dict (mergeD (mergeD [] dn) (mergeD [] (dE encN (notN g))))), [some (s, .dict dn), some (.shr, encN g)]) := by
  have hd := hd g
  have e : dE encN (notN g) = [(.str "not", encN (g.2.1, g.1, -1 - g.2.2))] := rfl
  rw [e]
  unfold starN
  generalize encN (g.2.1, g.1, -1 - g.2.2) = d1 at *
  generalize encN g = d2 at *
  rcases h with rfl | rfl <;> simp [e_stb _ _ _ hl, hd]
theorem ee_one (n : Str) (g e : Ed) : EE [(n, g)] e ↔ e = g := by
  constructor
  · rintro ⟨k, h⟩
    have := look_mem h
    simp at this
    exact this.2
  · rintro rfl
    exact ⟨n, if_pos rfl⟩
theorem follows_ok (R : Fns) (S : SpS R) (hd : ∀ g, R.denied [(.shr, encN g)] = some (.kept (encN (g.2.1, g.1, -1 - g.2.2)), none)) (s : Stt) (h : Rdg s) {nt : Nt} (o : Own nt) (g : Ed) :
    ∃ t x, runF 2 2 (m_follows R) [(s, noteD nt), (.shr, encN g)] = some (.kept (.tuple [.str t, x]), none) ∧ ((t = "row" ∧ Feas (more (EE nt) (g.2.1, g.1, -1 - g.2.2))) ∨ (t = "ring" ∧ ¬ Feas (more (EE nt) (g.2.1, g.1, -1 - g.2.2)))) := by
  have hdn : ∀ k ∈ (notN g).map (·.1), k ∉ nt.map (·.1) := fun k hk => by
    have hk : k ∈ (["not"] : List Str) := hk
    simp at hk
    rw [hk]; exact o.fr.2.2
  have hm : ((notN g).map (·.1)).Nodup := by
    show (["not"] : List Str).Nodup
    decide
  have C := cas_app o.nd hm hdn (by have := o.few; show nt.length + 1 ≤ 20; omega)
  have eq : ∀ e, EE (nt ++ notN g) e ↔ more (EE nt) (g.2.1, g.1, -1 - g.2.2) e := fun e => by
    rw [ee_app hdn]
    unfold more notN
    rw [ee_one]
  have q := starN_ok R hd s h (dE encN nt) (lim_dE o.cas.few) g
  rw [star_data o.nd hm hdn] at q
  have key : ∀ {t : Str} {x : PyData}, R.spread [(.shr, noteD (nt ++ notN g))] = some (.kept (.tuple [.str t, x]), none) → runF 2 2 (m_follows R) [(s, noteD nt), (.shr, encN g)] = some (.kept (.tuple [.str t, x]), none) := fun {t x} e => by
    have ev : m_follows R [some (s, noteD nt), some (.shr, encN g)] = some (.ret (.kept (.tuple [.str t, x])), [some (s, noteD nt), some (.shr, encN g)]) := by
      show sRet (xCall R.spread (aC (starN R) aN)) _ = _
      generalize encN g = d2 at *
      unfold noteD at *
      generalize starN R = st at *
      generalize dE encN (nt ++ notN g) = d3 at *
      generalize dE encN nt = d1 at *
      simp [q, e]
    refine run_ret ?_ ?_ ev rfl
    · rcases h with rfl | rfl <;> rfl
    · rcases h with rfl | rfl <;> rfl
  rcases S .shr (.inl rfl) _ C with ⟨f, e, sat⟩ | ⟨ds, e, nf⟩
  · exact ⟨_, _, key e, .inl ⟨rfl, f, fun e he => sat e ((eq e).mpr he)⟩⟩
  · exact ⟨_, _, key e, .inr ⟨rfl, fun z => nf (z.congr fun e => (eq e).symm)⟩⟩
/-- the greatest distance as data -/
def oD : Option Int → PyData
  | some d => .int d
  | none => .none
/-- what most_apart tells -/
def MoR (R : Fns) : Prop := ∀ s, Rdg s → ∀ nt : Nt, Own nt → ∀ one other : Str,
    (¬ Feas (EE nt) ∧ ∃ ds, R.most_apart [(s, noteD nt), (.shr, .str one), (.shr, .str other)] = some (.kept (.tuple [.str "ring", .tuple ds]), none)) ∨
    (Feas (EE nt) ∧ ∃ dd, IsD (EE nt) one other dd ∧ ((dd = none ∧ R.most_apart [(s, noteD nt), (.shr, .str one), (.shr, .str other)] = some (.kept (.tuple [.str "any"]), none)) ∨
      ∃ d x y, dd = some d ∧ R.most_apart [(s, noteD nt), (.shr, .str one), (.shr, .str other)] = some (.kept (.tuple [.str "most", .int d, x, y]), none)))
theorem lawmost_ok (R : Fns) (M : MoR R) (s : Stt) (h : Rdg s) {nt : Nt} (o : Own nt) (one other : Str) :
    (¬ Feas (EE nt) ∧ runF 3 4 (m_law_most R) [(s, noteD nt), (.shr, .str one), (.shr, .str other)] = some (.kept .none, none)) ∨
    (Feas (EE nt) ∧ ∃ dd, IsD (EE nt) one other dd ∧ runF 3 4 (m_law_most R) [(s, noteD nt), (.shr, .str one), (.shr, .str other)] = some (.kept (oD dd), none)) := by
  have key : ∀ {t : Str} {l : List PyData} {r : PyData}, R.most_apart [(.shr, noteD nt), (.shr, .str one), (.shr, .str other)] = some (.kept (.tuple (.str t :: l)), none) → (if t = "most" then l[0]? else some .none) = some r → runF 3 4 (m_law_most R) [(s, noteD nt), (.shr, .str one), (.shr, .str other)] = some (.kept r, none) := fun {t l r} e hr => by
    have ev : m_law_most R [some (s, noteD nt), some (.shr, .str one), some (.shr, .str other), none] = some (.ret (.kept r), [some (s, noteD nt), some (.shr, .str one), some (.shr, .str other), some (.shr, .tuple (.str t :: l))]) := by
      have hD : oDictP [noteD nt] = some (noteD nt) := rfl
      unfold m_law_most
      unfold noteD at e hD ⊢
      generalize dE encN nt = kvs at e hD ⊢
      by_cases ht : t = "most"
      · rw [if_pos ht] at hr
        subst ht
        rcases h with rfl | rfl <;> simp [e, hD, hr]
      · rw [if_neg ht] at hr
        cases hr
        have hb : (t == Str.ofString "most") = false := by simpa using ht
        rcases h with rfl | rfl <;> simp [e, hD, hb]
    refine run_ret ?_ ?_ ev rfl
    · rcases h with rfl | rfl <;> rfl
    · rcases h with rfl | rfl <;> rfl
  rcases M .shr (.inl rfl) nt o one other with ⟨nf, ds, e⟩ | ⟨f, dd, isd, ⟨rfl, e⟩ | ⟨d, x, y, rfl, e⟩⟩
  · exact .inl ⟨nf, key e rfl⟩
  · exact .inr ⟨f, _, isd, key e rfl⟩
  · exact .inr ⟨f, _, isd, key e rfl⟩
end PyK79

/-! judge_spread of a row -/
namespace PyK79
open PySem PySem.Spec L2 PyI
theorem plain_bools : ∀ xs : List Bool, PyData.plainAll (xs.map .bool) = true
  | [] => by simp [PyData.plainAll]
  | x :: xs => by simp [PyData.plainAll, PyData.plain, plain_bools xs]
theorem inD_bools (x : Bool) (xs : List Bool) : inD (.bool x) (.list (xs.map .bool)) = some (xs.any fun y => y == x) := by
  show (if (PyData.bool x).plain = true ∧ PyData.plainAll (xs.map .bool) = true ∧ (PyData.bool x).depth ≤ 50 then some ((xs.map PyData.bool).any fun y => y.eqv (.bool x)) else none) = _
  rw [if_pos ⟨by simp [PyData.plain], plain_bools xs, by simp [PyData.depth]⟩, List.any_map]
  rfl
theorem in_trues {α : Type} (l : List α) : opInA (.bool false) (.list (l.map fun _ => PyData.bool true)) = some (.bool false) := by
  have : (l.map fun _ => PyData.bool true) = (l.map fun _ => true).map .bool := by rw [List.map_map]; rfl
  rw [this]
  unfold opInA
  unfold anyIn
  dsimp only
  rw [inD_bools]
  simp
theorem nin_trues {α : Type} (l : List α) : opNotInA (.bool false) (.list (l.map fun _ => PyData.bool true)) = some (.bool true) := by
  have : (l.map fun _ => PyData.bool true) = (l.map fun _ => true).map .bool := by rw [List.map_map]; rfl
  rw [this]
  unfold opNotInA
  unfold anyIn
  dsimp only
  rw [inD_bools]
  simp
theorem plain_strs' : ∀ xs : List Str, PyData.plainAll (xs.map .str) = true
  | [] => by simp [PyData.plainAll]
  | x :: xs => by simp [PyData.plainAll, PyData.plain, plain_strs' xs]
theorem depth_strs : ∀ xs : List Str, PyData.depthAll (xs.map .str) ≤ 50
  | [] => by simp [PyData.depthAll]
  | x :: xs => by
    have := depth_strs xs
    simp only [List.map_cons, PyData.depthAll, PyData.depth]
    omega
theorem eqD_self {l : List PyData} (h : PyData.plainAll l = true) (hd : PyData.depthAll l ≤ 50) : eqD (.list l) (.list l) = some true := by
  show (if (PyData.list l).plain = true ∧ (PyData.list l).plain = true ∧ min (PyData.list l).depth (PyData.list l).depth ≤ 60 then some ((PyData.list l).eqv (.list l)) else none) = _
  have pl : (PyData.list l).plain = true := by simp [PyData.plain, h]
  rw [if_pos ⟨pl, pl, Nat.le_trans (Nat.min_le_left _ _) (by simp only [PyData.depth]; omega)⟩, SeqAt.eqv_refl_plain _ pl]
theorem ne_list {l : List PyData} (h : PyData.plainAll l = true) (hd : PyData.depthAll l ≤ 50) : opNe (.list l) (.list l) = some (.bool false) := by
  unfold opNe
  rw [eqD_self h hd]; rfl
theorem ne_strs (xs : List Str) : opNe (.list (xs.map .str)) (.list (xs.map .str)) = some (.bool false) := ne_list (plain_strs' xs) (depth_strs xs)
def c1 : Mo Rs := xLc [9] (iS (xV 1)) (gN 9) tYesM (xAnd (xIsi "tuple" (xV 9)) (x2 (xB oLen (aC (xV 9) aN)) (xC (.int 2)) opEq))
def c2 : Mo Rs := xLc [3, 4] (iS (xV 1)) (gT (gsC (gN 3) (gsC (gN 4) gsN))) tYesM (xV 3)
def c3 : Mo Rs := xLc [4, 5] (iS (xV 1)) (gT (gsC (gN 4) (gsC (gN 5) gsN))) tYesM (xAnd (xIsi "int" (xV 5)) (xNot (xIsi "bool" (xV 5))))
def c4 : Mo Rs := xLc [6, 7, 8] (iDict .vals 0) (gT (gsC (gN 6) (gsC (gN 7) (gsC (gN 8) gsN)))) tYesM (x2 (x2 (x2i (xV 2) (xV 6) opIx) (x2i (xV 2) (xV 7) opIx) opSub) (xV 8) opLe)
theorem m_is_row_eq (R : Fns) : m_is_row R = sSeq (sIf (tOrM (tNotM (tV (xIsi "tuple" (xV 1)))) (tV (x2 (xC (.bool false)) c1 opInA))) (sRet (xC (.bool false))) sPass)
    (sSeq (sIf (tV (x2 c2 (xCall R.words_of (aC (xV 0) aN)) opNe)) (sRet (xC (.bool false))) sPass)
    (sSeq (sIf (tV (x2 (xC (.bool false)) c3 opInA)) (sRet (xC (.bool false))) sPass)
    (sSeq (sSet 2 (xB oDictP (aC (xV 1) aN)))
    (sRet (x2 (xC (.bool false)) c4 opNotInA))))) := rfl
def stI (d : PyData) (s : Stt) (rw' : List PyData) (x2 x3 x4 x5 x6 x7 x8 x9 : Sl) : Rho := [some (s, d), some (.shr, .tuple rw'), x2, x3, x4, x5, x6, x7, x8, x9]
def rowL (W : List Str) (f : Str → Int) : List PyData := W.map fun w => .tuple [.str w, .int (f w)]
theorem c1_ok (d : PyData) (s : Stt) (W : List Str) (f : Str → Int) (hW : W.length ≤ 100) : c1 (stI d s (rowL W f) none none none none none none none none) = some (.fresh (.list (W.map fun _ => .bool true)), stI d s (rowL W f) none none none none none none none none) := by
  have := lc_evalT (vs := [9]) (fi := iS (xV 1)) (g := gN 9) (t := tYesM) (fe := xAnd (xIsi "tuple" (xV 9)) (x2 (xB oLen (aC (xV 9) aN)) (xC (.int 2)) opEq)) (ρ := stI d s (rowL W f) none none none none none none none none) (ρ1 := stI d s (rowL W f) none none none none none none none none) (l := W) (e := fun w => .tuple [.str w, .int (f w)])
    (fun _ => true) (fun _ => .bool true) (by unfold stI rowL; simp) (Nat.le_trans hW (by decide)) (fun w hw => ?_)
  · unfold c1
    rw [this, filt_true]
    unfold stI
    simp [restE, wipeE]
  · refine ⟨stI d s (rowL W f) none none none none none none none (some (.shr, .tuple [.str w, .int (f w)])), by unfold stI; simp [wipeE], _, rfl, fun z => absurd z (by decide), fun _ => ⟨.kept (.bool true), stI d s (rowL W f) none none none none none none none (some (.shr, .tuple [.str w, .int (f w)])), stI d s (rowL W f) none none none none none none none (some (.shr, .tuple [.str w, .int (f w)])), ?_, rfl, by unfold stI; simp [wipeE]⟩⟩
    unfold stI
    have ht : isSub (tyD (.tuple [.str w, .int (f w)])) "tuple" = true := rfl
    simp [ht]
theorem c2_ok (d : PyData) (s : Stt) (W : List Str) (f : Str → Int) (hW : W.length ≤ 100) : c2 (stI d s (rowL W f) none none none none none none none none) = some (.fresh (.list (W.map .str)), stI d s (rowL W f) none none none none none none none none) := by
  have := lc_evalT (vs := [3, 4]) (fi := iS (xV 1)) (g := gT (gsC (gN 3) (gsC (gN 4) gsN))) (t := tYesM) (fe := xV 3) (ρ := stI d s (rowL W f) none none none none none none none none) (ρ1 := stI d s (rowL W f) none none none none none none none none) (l := W) (e := fun w => .tuple [.str w, .int (f w)])
    (fun _ => true) (fun w => .str w) (by unfold stI rowL; simp) (Nat.le_trans hW (by decide)) (fun w hw => ?_)
  · unfold c2
    rw [this, filt_true]
    unfold stI
    simp [restE, wipeE]
  · refine ⟨stI d s (rowL W f) none (some (.shr, .str w)) (some (.shr, .int (f w))) none none none none none, by unfold stI; simp [wipeE], _, rfl, fun z => absurd z (by decide), fun _ => ⟨.slot 3, stI d s (rowL W f) none (some (.shr, .str w)) (some (.shr, .int (f w))) none none none none none, stI d s (rowL W f) none (some (.shr, .str w)) (some (.shr, .int (f w))) none none none none none, ?_, ?_, by unfold stI; simp [wipeE]⟩⟩
    · unfold stI; simp
    · unfold stI; simp
theorem c3_ok (d : PyData) (s : Stt) (W : List Str) (f : Str → Int) (hW : W.length ≤ 100) : c3 (stI d s (rowL W f) none none none none none none none none) = some (.fresh (.list (W.map fun _ => .bool true)), stI d s (rowL W f) none none none none none none none none) := by
  have := lc_evalT (vs := [4, 5]) (fi := iS (xV 1)) (g := gT (gsC (gN 4) (gsC (gN 5) gsN))) (t := tYesM) (fe := xAnd (xIsi "int" (xV 5)) (xNot (xIsi "bool" (xV 5)))) (ρ := stI d s (rowL W f) none none none none none none none none) (ρ1 := stI d s (rowL W f) none none none none none none none none) (l := W) (e := fun w => .tuple [.str w, .int (f w)])
    (fun _ => true) (fun _ => .bool true) (by unfold stI rowL; simp) (Nat.le_trans hW (by decide)) (fun w hw => ?_)
  · unfold c3
    rw [this, filt_true]
    unfold stI
    simp [restE, wipeE]
  · refine ⟨stI d s (rowL W f) none none (some (.shr, .str w)) (some (.shr, .int (f w))) none none none none, by unfold stI; simp [wipeE], _, rfl, fun z => absurd z (by decide), fun _ => ⟨.kept (.bool true), stI d s (rowL W f) none none (some (.shr, .str w)) (some (.shr, .int (f w))) none none none none, stI d s (rowL W f) none none (some (.shr, .str w)) (some (.shr, .int (f w))) none none none none, ?_, rfl, by unfold stI; simp [wipeE]⟩⟩
    have h1 : isSub (tyD (.int (f w))) "int" = true := rfl
    have h2 : isSub (tyD (.int (f w))) "bool" = false := rfl
    unfold stI
    simp [h1, h2]
theorem dict_rowL (W : List Str) (nd : W.Nodup) (f : Str → Int) : oDictP [.tuple (rowL W f)] = some (.dict (dE .int (tab W f))) := by
  have h1 : pairsB (rowL W f) = true := by
    unfold pairsB rowL
    rw [List.all_map]
    exact List.all_eq_true.mpr fun w _ => rfl
  have h2 : pairsD (rowL W f) = some (dE .int (tab W f)) := by
    unfold rowL tab dE
    clear h1 nd
    induction W with
    | nil => rfl
    | cons w W ih =>
      rw [List.map_cons]
      unfold pairsD
      rw [ih]
      rfl
  have h3 := merge_new PyData.int (m := tab W f) (l := []) (by simpa using nd)
  rw [List.nil_append] at h3
  unfold oDictP
  dsimp only
  rw [if_pos h1, h2]
  show some (PyData.dict (mergeD (dE .int []) (dE .int (tab W f)))) = _
  rw [h3]
theorem c4_ok {nt : Nt} (C : Cas nt) (s : Stt) (h : Rdg s) (f : Str → Int) (sat : Sat (EE nt) f) (r : List PyData) : c4 (stI (noteD nt) s r (some (.own, .dict (dE .int (tab (Wd nt) f)))) none none none none none none none) = some (.fresh (.list (nt.map fun _ => .bool true)), stI (noteD nt) s r (some (.own, .dict (dE .int (tab (Wd nt) f)))) none none none none none none none) := by
  have := lc_evalT (vs := [6, 7, 8]) (fi := iDict .vals 0) (g := gT (gsC (gN 6) (gsC (gN 7) (gsC (gN 8) gsN)))) (t := tYesM) (fe := x2 (x2 (x2i (xV 2) (xV 6) opIx) (x2i (xV 2) (xV 7) opIx) opSub) (xV 8) opLe)
    (ρ := stI (noteD nt) s r (some (.own, .dict (dE .int (tab (Wd nt) f)))) none none none none none none none) (ρ1 := stI (noteD nt) s r (some (.own, .dict (dE .int (tab (Wd nt) f)))) none none none none none none none) (l := nt) (e := fun p => encN p.2)
    (fun _ => true) (fun _ => .bool true) (by unfold stI; rcases h with rfl | rfl <;> simp [noteD, selD_vals, dE, Function.comp_def]) (Nat.le_trans C.few (by decide)) (fun p hp => ?_)
  · unfold c4
    rw [this, filt_true]
    unfold stI
    simp [restE, wipeE]
  · obtain ⟨n, e⟩ := p
    have he : EE nt e := ⟨n, look_of_mem C.nd hp⟩
    obtain ⟨ha, hb⟩ := wd_mem he
    have l1 := look_tabD f ha
    have l2 := look_tabD f hb
    have le := sat e he
    have le2 : decide (f e.1 - f e.2.1 ≤ e.2.2) = true := by simpa using by omega
    refine ⟨stI (noteD nt) s r (some (.own, .dict (dE .int (tab (Wd nt) f)))) none none none (some (.shr, .str e.1)) (some (.shr, .str e.2.1)) (some (.shr, .int e.2.2)) none, ?_, _, rfl, fun z => absurd z (by decide), fun _ => ⟨.kept (.bool true), stI (noteD nt) s r (some (.own, .dict (dE .int (tab (Wd nt) f)))) none none none (some (.shr, .str e.1)) (some (.shr, .str e.2.1)) (some (.shr, .int e.2.2)) none, stI (noteD nt) s r (some (.own, .dict (dE .int (tab (Wd nt) f)))) none none none (some (.shr, .str e.1)) (some (.shr, .str e.2.1)) (some (.shr, .int e.2.2)) none, ?_, rfl, by unfold stI; simp [wipeE]⟩⟩
    · unfold stI
      generalize noteD nt = d0
      simp [encN, wipeE]
    · unfold stI
      generalize noteD nt = d0
      generalize dE .int (tab (Wd nt) f) = df at *
      simp [l1, l2, le2]
theorem is_row_ok (R : Fns) {nt : Nt} (C : Cas nt) (s : Stt) (h : Rdg s) (hw : R.words_of [(s, noteD nt)] = some (.fresh (.list ((Wd nt).map .str)), none)) (f : Str → Int) (sat : Sat (EE nt) f) : runF 2 10 (m_is_row R) [(s, noteD nt), (.shr, rowD (Wd nt) f)] = some (.kept (.bool true), none) := by
  have h40 := wd_len C.few
  have hW : (Wd nt).length ≤ 100 := by omega
  have a1 := c1_ok (noteD nt) s (Wd nt) f hW
  have a2 := c2_ok (noteD nt) s (Wd nt) f hW
  have a3 := c3_ok (noteD nt) s (Wd nt) f hW
  have a4 := c4_ok C s h f sat (rowL (Wd nt) f)
  have i1 := in_trues (Wd nt)
  have i2 := nin_trues nt
  have n1 := ne_strs (Wd nt)
  have dr := dict_rowL (Wd nt) (wd_nodup nt) f
  have ht : isSub (tyD (.tuple (rowL (Wd nt) f))) "tuple" = true := rfl
  have ev : m_is_row R [some (s, noteD nt), some (.shr, .tuple (rowL (Wd nt) f)), none, none, none, none, none, none, none, none] = some (.ret (.kept (.bool true)), [some (s, noteD nt), some (.shr, .tuple (rowL (Wd nt) f)), some (.own, .dict (dE .int (tab (Wd nt) f))), none, none, none, none, none, none, none]) := by
    rw [m_is_row_eq]
    unfold stI at *
    generalize c1 = z1 at *
    generalize c2 = z2 at *
    generalize c3 = z3 at *
    generalize c4 = z4 at *
    generalize dE .int (tab (Wd nt) f) = df at *
    generalize rowL (Wd nt) f = rl at *
    generalize noteD nt = d at *
    generalize ((Wd nt).map fun _ => PyData.bool true) = t1 at *
    generalize (nt.map fun _ => PyData.bool true) = t2 at *
    generalize (Wd nt).map PyData.str = t3 at *
    rcases h with rfl | rfl <;> simp [a1, a2, a3, a4, i1, i2, n1, dr, ht, hw]
  refine run_ret ?_ ?_ ev rfl
  · rcases h with rfl | rfl <;> rfl
  · rcases h with rfl | rfl <;> rfl
theorem judge_ok (R : Fns) {nt : Nt} (s : Stt) (h : Rdg s) {r : PyData} (hr : R.is_row [(s, noteD nt), (.shr, r)] = some (.kept (.bool true), none)) : runF 2 4 (m_judge_spread R) [(s, noteD nt), (.shr, .tuple [.str "row", r])] = some (.kept (.bool true), none) := by
  have ht : isSub (tyD (.tuple [.str "row", r])) "tuple" = true := rfl
  have ev : m_judge_spread R [some (s, noteD nt), some (.shr, .tuple [.str "row", r]), none, none] = some (.ret (.kept (.bool true)), [some (s, noteD nt), some (.shr, .tuple [.str "row", r]), none, none]) := by
    unfold m_judge_spread
    generalize noteD nt = d at *
    rcases h with rfl | rfl <;> simp [ht, hr]
  refine run_ret ?_ ?_ ev rfl
  · rcases h with rfl | rfl <;> rfl
  · rcases h with rfl | rfl <;> rfl
end PyK79

/-! the drawn words -/
namespace PyK79
open PySem PySem.Spec L2 PyI
def Dr (ns : List Int) (d : PyData) : Prop := ∃ p v s, d = stD ns p v s ∧ 0 ≤ s ∧ s < 2147483647 ∧ 0 ≤ v
def NextOk (R : Fns) (ns : List Int) : Prop := ∀ d, Dr ns d → ∀ limit : Nat, 0 < limit → limit < 1000 → ∃ (out : Nat) (d' : PyData), out < limit ∧ Dr ns d' ∧ R.law_next [(.lent, d), (.shr, .int (limit : Int))] = some (.kept (.int (out : Int)), some d')
theorem str_len_app (x y : Str) : (x ++ y).length = x.length + y.length := by
  show (x.cps ++ y.cps).size = x.cps.size + y.cps.size
  exact Array.size_append
def yy : Nat → Str → Str
  | 0, w => w
  | n + 1, w => yy n (w ++ "y")
theorem yy_len : ∀ (n : Nat) (w : Str), (yy n w).length = w.length + n
  | 0, w => rfl
  | n + 1, w => by
    show (yy n (w ++ "y")).length = _
    rw [yy_len n, str_len_app]
    have : ("y" : Str).length = 1 := by decide
    omega
theorem yy_out (W : List Str) (w : Str) : ∃ j, j ≤ W.length ∧ yy j w ∉ W := by
  refine Classical.byContradiction fun h => ?_
  have hall : ∀ j, j ≤ W.length → yy j w ∈ W := fun j hj => Classical.byContradiction fun z => h ⟨j, hj, z⟩
  have nd : ((List.range (W.length + 1)).map fun j => yy j w).Nodup := by
    refine List.Pairwise.map _ (fun a b hab z => hab ?_) (List.nodup_range (n := W.length + 1))
    have := congrArg Str.length z
    rw [yy_len, yy_len] at this
    omega
  have := nodup_le nd fun a ha => by
    obtain ⟨j, hj, rfl⟩ := List.mem_map.mp ha
    exact hall j (by have := List.mem_range.mp hj; omega)
  rw [List.length_map, List.length_range] at this
  omega
theorem add_str {x y : Str} (h : x.length + y.length ≤ 1000) : opAdd (.str x) (.str y) = some (.str (x ++ y)) := if_pos (Nat.le_trans h (by rw [sizeLine_eq]; decide))
def tW : Mo Bool := tV (x2 (xV 4) (xV 2) opInA)
def bW : Mo Fl := sSet 4 (x2 (xV 4) (xC (.str "y")) opAdd)
def stW (d1 : Sl) (d : PyData) (W : List Str) (x3 : Sl) (w : Str) : Rho := [some (.lent, d), d1, some (.own, .list (W.map .str)), x3, some (.shr, .str w)]
theorem while_ok (d1 : Sl) (d : PyData) (W : List Str) (x3 : Sl) : ∀ (n : Nat) (w : Str), w.length + n ≤ 900 → (∃ j, j < n ∧ yy j w ∉ W) → ∃ w', whileM n tW bW (stW d1 d W x3 w) = some (.nx, stW d1 d W x3 w') ∧ w' ∉ W
  | 0, w, _, ⟨j, hj, _⟩ => absurd hj (Nat.not_lt_zero _)
  | n + 1, w, hl, ⟨j, hj, hn⟩ => by
    have et : tW (stW d1 d W x3 w) = some (decide (w ∈ W), stW d1 d W x3 w) := by
      unfold tW stW
      simp [in_strs]
    unfold whileM
    rw [et]
    by_cases hw : w ∈ W
    · have : decide (w ∈ W) = true := by simpa using hw
      rw [this]
      dsimp only
      have h1 : ("y" : Str).length = 1 := by decide
      have ea := add_str (x := w) (y := "y") (by omega)
      have eb : bW (stW d1 d W x3 w) = some (.nx, stW d1 d W x3 (w ++ "y")) := by
        unfold bW stW
        simp [ea]
      rw [eb]
      dsimp only
      cases j with
      | zero => exact absurd hw hn
      | succ j => exact while_ok d1 d W x3 n (w ++ "y") (by rw [str_len_app]; omega) ⟨j, by omega, hn⟩
    · have : decide (w ∈ W) = false := by simpa using hw
      rw [this]
      exact ⟨w, rfl, hw⟩
def abc : Str := "abcdefghijklmnopqrstuvwxyz"
theorem abc_ix : ∀ o : Nat, o < 26 → opIx (.str abc) (.int (o : Int)) = some (.str ⟨#[abc.cps.toList.getD o 0]⟩) := by
  intro o ho
  show (if abc.length ≤ sizeLine then (atI abc.cps.toList (o : Int)).map fun c => PyData.str ⟨#[c]⟩ else none) = _
  rw [if_pos (Nat.le_trans (show abc.length ≤ 26 by decide) (by rw [sizeLine_eq]; decide))]
  have hl : abc.cps.toList.length = 26 := by decide
  rw [atI_nat' abc.cps.toList o, List.getElem?_eq_getElem (by omega), List.getD_eq_getElem?_getD, List.getElem?_eq_getElem (by omega)]
  rfl
def tails : List Str := ["", "_1", "x9", "b"]
def nw (R : Fns) : Mo Rs := x2 (x2i (xC (.str "abcdefghijklmnopqrstuvwxyz")) (xCallL R.law_next (aC (xV 0) (aC (xC (.int 26)) aN))) opIx) (x2i (xLst (aC (xC (.str "")) (aC (xC (.str "_1")) (aC (xC (.str "x9")) (aC (xC (.str "b")) aN))))) (xCallL R.law_next (aC (xV 0) (aC (xC (.int 4)) aN))) opIx) opAdd
theorem nw_ok (R : Fns) {ns : List Int} (N : NextOk R ns) (d : PyData) (hd : Dr ns d) (ρ : Rho) : ∃ d' w, Dr ns d' ∧ w.length ≤ 10 ∧ nw R (some (.lent, d) :: ρ) = some (.kept (.str w), some (.lent, d') :: ρ) := by
  obtain ⟨o, d1, ho, hd1, e1⟩ := N d hd 26 (by decide) (by decide)
  obtain ⟨o2, d2, ho2, hd2, e2⟩ := N d1 hd1 4 (by decide) (by decide)
  have e1' : R.law_next [(.lent, d), (.shr, .int 26)] = some (.kept (.int (o : Int)), some d1) := e1
  have e2' : R.law_next [(.lent, d1), (.shr, .int 4)] = some (.kept (.int (o2 : Int)), some d2) := e2
  have i1 := abc_ix o ho
  have tl : ∀ t ∈ tails, t.length ≤ 2 := by decide
  have ht : tails.length = 4 := rfl
  have i2 : opIx (.list [.str "", .str "_1", .str "x9", .str "b"]) (.int (o2 : Int)) = some (.str tails[o2]) := by
    have : (([.str "", .str "_1", .str "x9", .str "b"] : List PyData)) = tails.map .str := rfl
    rw [this, o_ixL, List.getElem?_map, List.getElem?_eq_getElem (by omega)]; rfl
  have l2 := tl _ (List.getElem_mem (show o2 < tails.length by omega))
  have l1 : (⟨#[abc.cps.toList.getD o 0]⟩ : Str).length = 1 := rfl
  generalize (⟨#[abc.cps.toList.getD o 0]⟩ : Str) = a at *
  generalize tails[o2] = b at *
  have ia := add_str (x := a) (y := b) (by omega)
  refine ⟨d2, a ++ b, hd2, by rw [str_len_app]; omega, ?_⟩
  unfold nw
  unfold abc at i1
  simp [e1', e2', i1, i2, ia]
def bD (R : Fns) : Mo Fl := sSeq (sSet 4 (nw R)) (sSeq (whileM FUEL tW bW) (sDrop (xMut "list" 2 mAppend (aC (xV 4) aN))))
theorem m_words_drawn_eq (R : Fns) : m_law_words_drawn R = sSeq (sSet 2 (xLst aN)) (sSeq (sFor (iR1 (xV 1)) (gN 3) (bD R)) (sRet (xV 2))) := rfl
theorem bD_ok (R : Fns) {ns : List Int} (N : NextOk R ns) (d : PyData) (hd : Dr ns d) (d1 : Sl) (W : List Str) (hW : W.length ≤ 100) (nd : W.Nodup) (x3 x4 : Sl) : ∃ d' w, Dr ns d' ∧ w ∉ W ∧ bD R [some (.lent, d), d1, some (.own, .list (W.map .str)), x3, x4] = some (.nx, stW d1 d' (W ++ [w]) x3 w) := by
  obtain ⟨d', w, hd', hl, e⟩ := nw_ok R N d hd [d1, some (.own, .list (W.map .str)), x3, x4]
  obtain ⟨j, hj, hn⟩ := yy_out W w
  obtain ⟨w', ew, hw⟩ := while_ok d1 d' W x3 FUEL w (by show _ + 200 ≤ 900; omega) ⟨j, by show j < 200; omega, hn⟩
  refine ⟨d', w', hd', hw, ?_⟩
  have ap : mAppend (.list (W.map .str)) [.str w'] = some (.list ((W ++ [w']).map .str), .none) := by
    rw [List.map_append]
    exact if_pos (by rw [List.length_map]; exact Nat.lt_of_le_of_lt hW (by decide))
  have e1 : sSet 4 (nw R) [some (.lent, d), d1, some (.own, .list (W.map .str)), x3, x4] = some (.nx, stW d1 d' W x3 w) := by
    generalize nw R = z at *
    unfold stW
    simp [e]
  have e3 : sDrop (xMut "list" 2 mAppend (aC (xV 4) aN)) (stW d1 d' W x3 w') = some (.nx, stW d1 d' (W ++ [w']) x3 w') := by
    unfold stW
    generalize (W ++ [w']).map PyData.str = z at *
    simp [ap]
  unfold bD
  rw [e_sq, e1, e_sqn, e_sq, ew, e_sqn, e3]
theorem words_drawn_ok (R : Fns) {ns : List Int} (N : NextOk R ns) (d : PyData) (hd : Dr ns d) (n : Nat) (hn : n ≤ 10) : ∃ (d' : PyData) (W : List Str), Dr ns d' ∧ W.Nodup ∧ W.length = n ∧ runF 2 5 (m_law_words_drawn R) [(.lent, d), (.shr, .int (n : Int))] = some (.fresh (.list (W.map .str)), some d') := by
  have loop := for_all (ds := rngD 0 n) (g := gN 3) (b := bD R) (fun i ρ => i ≤ n → ∃ (d' : PyData) (W : List Str) (x3 x4 : Sl), Dr ns d' ∧ W.Nodup ∧ W.length = i ∧ ρ = [some (.lent, d'), some (.shr, .int (n : Int)), some (.own, .list (W.map .str)), x3, x4])
    (fun i x ρ hx hI => by
      have hi := (rngD_at hx).2
      obtain ⟨d', W, x3, x4, g1, g2, g3, rfl⟩ := hI (by omega)
      obtain ⟨d2, w, k1, k2, k3⟩ := bD_ok R N d' g1 (some (.shr, .int (n : Int))) W (by omega) g2 (some (.shr, x)) x4
      exact ⟨_, _, rfl, k3, fun _ => ⟨d2, W ++ [w], some (.shr, x), some (.shr, .str w), k1, List.nodup_append.mpr ⟨g2, by simp, fun a ha b hb z => by rw [List.mem_singleton] at hb; exact k2 (hb ▸ z ▸ ha)⟩, by rw [List.length_append]; simp [g3], rfl⟩⟩)
    (ρ := [some (.lent, d), some (.shr, .int (n : Int)), some (.own, .list []), none, none]) (fun _ => ⟨d, [], none, none, hd, List.nodup_nil, rfl, rfl⟩)
  obtain ⟨ρ', e, hI⟩ := loop
  rw [rngD_len] at hI
  obtain ⟨d', W, x3, x4, g1, g2, g3, rfl⟩ := hI (Nat.le_refl _)
  refine ⟨d', W, g1, g2, g3, ?_⟩
  have ir : ∀ ρ, irb (some (.int (n : Int))) ρ = some (rngD 0 n, ρ) := fun ρ => e_irb n ρ (by omega)
  have ev : m_law_words_drawn R [some (.lent, d), some (.shr, .int (n : Int)), none, none, none] = some (.ret (.slot 2), [some (.lent, d'), some (.shr, .int (n : Int)), some (.own, .list (W.map .str)), x3, x4]) := by
    rw [m_words_drawn_eq]
    generalize bD R = B at *
    simp [ir, e]
  rw [runF_def rfl]
  have : ([(Stt.lent, d), (Stt.shr, PyData.int (n : Int))].map some ++ List.replicate (5 - [(Stt.lent, d), (Stt.shr, PyData.int (n : Int))].length) none : Rho) = [some (.lent, d), some (.shr, .int (n : Int)), none, none, none] := rfl
  rw [this, ev]
  rfl
end PyK79

/-! what the law's functions tell; rows that are drawn -/
namespace PyK79
open PySem PySem.Spec L2 PyI
def paa (i j : Nat) (x : Option (List Rs × Rho)) : Option (Fl × Rho) := match x with
  | some (rs, ρ) => sPar i j (fun _ => some (rs, ρ)) ρ
  | none => none
def pab (i j : Nat) (x : Option (List PyData × Rho)) : Option (Fl × Rho) := match x with
  | some ([d1, d2], ρ) => if i < ρ.length then if j < ρ.length then some (.nx, (ρ.set i (some (.shr, d1))).set j (some (.shr, d2))) else none else none
  | _ => none
@[simp] theorem e_par (i j : Nat) (g : Mo (List Rs)) (ρ : Rho) : sPar i j g ρ = paa i j (g ρ) := by
  unfold paa sPar
  conv => lhs; unfold bindM
  cases g ρ <;> rfl
@[simp] theorem e_paa (i j : Nat) (rs : List Rs) (ρ : Rho) : paa i j (some (rs, ρ)) = pab i j (keepL rs ρ) := by
  unfold paa sPar
  show bindM (keepL rs) _ ρ = _
  unfold bindM
  cases keepL rs ρ with
  | none => rfl
  | some p =>
    obtain ⟨ds, ρ1⟩ := p
    match ds with
    | [] => rfl
    | [_] => rfl
    | _ :: _ :: _ :: _ => rfl
    | [d1, d2] =>
      show bindM (storeR i (.kept d1)) _ ρ1 = pab i j (some ([d1, d2], ρ1))
      unfold pab
      dsimp only
      by_cases hi : i < ρ1.length
      · rw [if_pos hi]
        by_cases hj : j < ρ1.length
        · rw [if_pos hj]
          have hj2 : j < (ρ1.set i (some (.shr, d1))).length := by simpa using hj
          unfold bindM storeR
          simp [hi, hj, retM]
        · rw [if_neg hj]
          unfold bindM storeR
          simp [hi, hj, retM]
      · rw [if_neg hi]
        unfold bindM storeR
        simp [hi, retM]
@[simp] theorem e_pab (i j : Nat) (d1 d2 : PyData) (ρ : Rho) : pab i j (some ([d1, d2], ρ)) = if i < ρ.length then if j < ρ.length then some (.nx, (ρ.set i (some (.shr, d1))).set j (some (.shr, d2))) else none else none := (rfl)
/-- a comprehension that draws -/
theorem lc_inv {vs : List Nat} {g : G1} {fe : Mo Rs} {ds : List PyData} (hl : ds.length ≤ 100) (I : Nat → List PyData → Rho → Prop)
    (step : ∀ i d acc ρ, ds[i]? = some d → I i acc ρ → ∃ ρ1 r ρ2 y ρ3, g.run d ρ = some ((), ρ1) ∧ fe ρ1 = some (r, ρ2) ∧ keepR r ρ2 = some (y, ρ3) ∧ I (i + 1) (acc ++ [y]) (wipeE ρ3 vs)) :
    ∀ ρ, I 0 [] ρ → ∃ acc ρ', lcM vs g tYesM fe ds [] ρ = some (acc, ρ') ∧ I ds.length acc ρ' ∧ acc.length = ds.length := by
  have go : ∀ (n i : Nat) (acc : List PyData) (ρ : Rho), i + n = ds.length → acc.length = i → I i acc ρ → ∃ acc' ρ', lcM vs g tYesM fe (ds.drop i) acc ρ = some (acc', ρ') ∧ I ds.length acc' ρ' ∧ acc'.length = ds.length := by
    intro n
    induction n with
    | zero =>
      intro i acc ρ hi ha h
      obtain rfl : i = ds.length := by omega
      rw [List.drop_length]
      exact ⟨acc, ρ, rfl, h, ha⟩
    | succ n ih =>
      intro i acc ρ hi ha h
      have hi' : i < ds.length := by omega
      obtain ⟨ρ1, r, ρ2, y, ρ3, e1, e2, e3, q⟩ := step i ds[i] acc ρ (List.getElem?_eq_getElem hi') h
      obtain ⟨acc', ρ', e4, q4, q5⟩ := ih (i + 1) (acc ++ [y]) _ (by omega) (by rw [List.length_append, ha]; rfl) q
      refine ⟨acc', ρ', ?_, q4, q5⟩
      rw [List.drop_eq_getElem_cons hi']
      unfold lcM
      rw [e1]
      dsimp only
      rw [e_tY]
      dsimp only
      have eb : bindM fe keepR ρ1 = some (y, ρ3) := by unfold bindM; rw [e2]; exact e3
      rw [eb]
      dsimp only
      rw [if_pos (by rw [ha]; exact Nat.lt_of_lt_of_le (show i < 100 by omega) (by decide))]
      exact e4
  intro ρ h
  exact go ds.length 0 [] ρ (by omega) rfl h
structure Fin (R : Fns) (ns : List Int) : Prop where
  next : NextOk R ns
  drawn : ∀ d, Dr ns d → ∀ n : Nat, n ≤ 10 → ∃ (d' : PyData) (W : List Str), Dr ns d' ∧ W.Nodup ∧ W.length = n ∧ R.law_words_drawn [(.lent, d), (.shr, .int (n : Int))] = some (.fresh (.list (W.map .str)), some d')
  spread : SpS R
  most : MoR R
  lmost : ∀ (s : Stt), Rdg s → ∀ nt : Nt, Own nt → ∀ one other : Str, (¬ Feas (EE nt) ∧ R.law_most [(s, noteD nt), (.shr, .str one), (.shr, .str other)] = some (.kept .none, none)) ∨
    (Feas (EE nt) ∧ ∃ dd, IsD (EE nt) one other dd ∧ R.law_most [(s, noteD nt), (.shr, .str one), (.shr, .str other)] = some (.kept (oD dd), none))
  foll : ∀ (s : Stt), Rdg s → ∀ nt : Nt, Own nt → ∀ g : Ed, ∃ t x, R.follows [(s, noteD nt), (.shr, encN g)] = some (.kept (.tuple [.str t, x]), none) ∧ ((t = "row" ∧ Feas (more (EE nt) (g.2.1, g.1, -1 - g.2.2))) ∨ (t = "ring" ∧ ¬ Feas (more (EE nt) (g.2.1, g.1, -1 - g.2.2))))
  judge : ∀ (s : Stt), Rdg s → ∀ nt : Nt, Cas nt → ∀ f : Str → Int, Sat (EE nt) f → R.judge_spread [(s, noteD nt), (.shr, .tuple [.str "row", rowD (Wd nt) f])] = some (.kept (.bool true), none)
theorem q_words_of (k : Nat) : (lvl (k + 1)).words_of = runF 1 5 (m_words_of (lvl k)) := rfl
theorem q_denied (k : Nat) : (lvl (k + 1)).denied = runF 1 1 (m_denied (lvl k)) := rfl
theorem q_spread (k : Nat) : (lvl (k + 1)).spread = runF 1 11 (m_spread (lvl k)) := rfl
theorem q_ring (k : Nat) : (lvl (k + 1)).ring = runF 3 5 (m_ring (lvl k)) := rfl
theorem q_is_row (k : Nat) : (lvl (k + 1)).is_row = runF 2 10 (m_is_row (lvl k)) := rfl
theorem q_judge_spread (k : Nat) : (lvl (k + 1)).judge_spread = runF 2 4 (m_judge_spread (lvl k)) := rfl
theorem q_most_apart (k : Nat) : (lvl (k + 1)).most_apart = runF 3 13 (m_most_apart (lvl k)) := rfl
theorem q_follows (k : Nat) : (lvl (k + 1)).follows = runF 2 2 (m_follows (lvl k)) := rfl
theorem q_law_next (k : Nat) : (lvl (k + 1)).law_next = runF 2 4 (m_law_next (lvl k)) := rfl
theorem q_law_words_drawn (k : Nat) : (lvl (k + 1)).law_words_drawn = runF 2 5 (m_law_words_drawn (lvl k)) := rfl
theorem q_law_most (k : Nat) : (lvl (k + 1)).law_most = runF 3 4 (m_law_most (lvl k)) := rfl
theorem q_law (k : Nat) : (lvl (k + 1)).law = runF 1 23 (m_law (lvl k)) := rfl
theorem fin (ns : List Int) (k : Nat) : Fin (lvl (k + 4)) ns := by
  have N : ∀ j, NextOk (lvl (j + 1)) ns := fun j d hd limit h0 h1 => by
    obtain ⟨p, v, s, rfl, a, b, c⟩ := hd
    obtain ⟨out, p', v', s', g1, g2, g3, g4, g5, e⟩ := next_ok (lvl j) ns p v s limit (by omega) (by omega) a b c
    obtain ⟨o, rfl⟩ := Int.eq_ofNat_of_zero_le g1
    exact ⟨o, stD ns p' v' s', by omega, ⟨p', v', s', rfl, g3, g4, g5⟩, by rw [q_law_next]; exact e⟩
  have Wo : ∀ j (s : Stt), Rdg s → ∀ nt : Nt, Cas nt → (lvl (j + 1)).words_of [(s, noteD nt)] = some (.fresh (.list ((Wd nt).map .str)), none) := fun j s h nt C => by rw [q_words_of]; exact words_ok (lvl j) nt s h C.few
  have Sr : ∀ j (nt : Nt), Cas nt → SpR (lvl (j + 1)) nt := fun j nt C => ⟨fun s h => Wo j s h nt C, fun h h1 c hw => by rw [q_ring]; exact ring_ok (lvl j) _ _ h h1 C c hw⟩
  have Sp : ∀ j, SpS (lvl (j + 2)) := fun j s h nt C => by rw [q_spread]; exact spread_ok (lvl (j + 1)) s h C (Sr j nt C)
  have De : ∀ j g, (lvl (j + 1)).denied [(.shr, encN g)] = some (.kept (encN (g.2.1, g.1, -1 - g.2.2)), none) := fun j g => by rw [q_denied]; exact denied_ok (lvl j) g
  have Mo' : ∀ j, MoR (lvl (j + 3)) := fun j s h nt o one other => by rw [q_most_apart]; exact most_ok (lvl (j + 2)) (Sp j) (fun s h nt C => Wo (j + 1) s h nt C) s h o one other
  have Rw : ∀ j (s : Stt), Rdg s → ∀ nt : Nt, Cas nt → ∀ f : Str → Int, Sat (EE nt) f → (lvl (j + 2)).is_row [(s, noteD nt), (.shr, rowD (Wd nt) f)] = some (.kept (.bool true), none) := fun j s h nt C f sat => by rw [q_is_row]; exact is_row_ok (lvl (j + 1)) C s h (Wo j s h nt C) f sat
  exact ⟨N (k + 3), fun d hd n hn => by rw [q_law_words_drawn]; exact words_drawn_ok (lvl (k + 3)) (N (k + 2)) d hd n hn, Sp (k + 2), Mo' (k + 1), fun s h nt o one other => by rw [q_law_most]; exact lawmost_ok (lvl (k + 3)) (Mo' k) s h o one other, fun s h nt o g => by rw [q_follows]; exact follows_ok (lvl (k + 3)) (Sp (k + 1)) (De (k + 2)) s h o g, fun s h nt C f sat => by rw [q_judge_spread]; exact judge_ok (lvl (k + 3)) s h (Rw (k + 1) s h nt C f sat)⟩
end PyK79

/-! the law's statements; the first of them -/
namespace PyK79
open PySem PySem.Spec L2 PyI
def L1 : Mo Fl := sSet 1 (xLst (aC (xScr 0) (aC (xC (.int 0)) (aC (xC (.int 0)) (aC (xC (.int 1)) aN)))))
def L2 (R : Fns) : Mo Fl := sSet 2 (xCallL R.law_words_drawn (aC (xV 1) (aC (x2 (xC (.int 3)) (xCallL R.law_next (aC (xV 1) (aC (xC (.int 3)) aN))) opAdd) aN)))
def L3 : Mo Fl := sSet 3 xDict0
def L4 (R : Fns) : Mo Fl := sFor (iR1 (x2 (xC (.int 2)) (xCallL R.law_next (aC (xV 1) (aC (xC (.int 8)) aN))) opAdd)) (gN 4) (sSeq (sPar 6 7 (aC (x2i (xV 2) (xCallL R.law_next (aC (xV 1) (aC (xB oLen (aC (xV 2) aN)) aN))) opIx) (aC (x2i (xV 2) (xCallL R.law_next (aC (xV 1) (aC (xB oLen (aC (xV 2) aN)) aN))) opIx) aN))) (sIf (tV (x2 (xV 6) (xV 7) opNe)) (sPut 3 (x2 (xC (.str "n")) (xB oStr (aC (xV 4) aN)) opAdd) (xTup (aC (xV 6) (aC (xV 7) (aC (x2 (xCallL R.law_next (aC (xV 1) (aC (xC (.int 12)) aN))) (xC (.int 3)) opSub) aN))))) sPass))
def L5 (R : Fns) : Mo Fl := sSet 5 (xCall R.spread (aC (xB oDictP (aC (xV 3) aN)) aN))
def L6 (R : Fns) : Mo Fl := sUnp (xLc [4] (iR1 (xC (.int 3))) (gN 4) tYesM (x2i (xV 2) (xCallL R.law_next (aC (xV 1) (aC (xB oLen (aC (xV 2) aN)) aN))) opIx)) (gL (gsC (gN 6) (gsC (gN 7) (gsC (gN 8) gsN))))
def L7 (R : Fns) : Mo Fl := sSet 9 (xTup (aC (xV 6) (aC (xV 7) (aC (x2 (xCallL R.law_next (aC (xV 1) (aC (xC (.int 12)) aN))) (xC (.int 3)) opSub) aN))))
def L8 (R : Fns) : Mo Fl := sIf (tV (x2 (x2i (xV 5) (xC (.int 0)) opIx) (xC (.str "ring")) opEq)) (sRet (xAnd (x2 (x2i (xCall R.most_apart (aC (xB oDictP (aC (xV 3) aN)) (aC (xV 6) (aC (xV 7) aN)))) (xC (.int 0)) opIx) (xC (.str "ring")) opEq) (x2 (x2i (xCall R.follows (aC (xB oDictP (aC (xV 3) aN)) (aC (xV 9) aN))) (xC (.int 0)) opIx) (xC (.str "ring")) opEq))) sPass
def L9 : Mo Fl := sSet 10 (xTup (aC (xC (.str "row")) (aC (xB oTuple (aC (xLc [21, 22] (iS (x2i (xV 5) (xC (.int 1)) opIx)) (gT (gsC (gN 21) (gsC (gN 22) gsN))) tYesM (xTup (aC (xV 21) (aC (x2 (xV 22) (xC (.int 7)) opAdd) aN)))) aN)) aN)))
def L10 (R : Fns) : Mo Fl := sIf (tV (x2 (xCall R.judge_spread (aC (xB oDictP (aC (xV 3) aN)) (aC (xV 10) aN))) (xC (.bool true)) opNotB)) (sRet (xC (.bool false))) sPass
def L11 : Mo Fl := sIf (tOrM (tV (x2 (xV 6) (xV 7) opEq)) (tOrM (tV (x2 (xV 7) (xV 8) opEq)) (tV (x2 (xV 6) (xV 8) opEq)))) (sRet (xC (.bool true))) sPass
def L12 (R : Fns) : Mo Fl := sSet 11 (xLst (aC (xCall R.law_most (aC (xV 3) (aC (xV 6) (aC (xV 7) aN)))) (aC (xCall R.law_most (aC (xV 3) (aC (xV 7) (aC (xV 8) aN)))) (aC (xCall R.law_most (aC (xV 3) (aC (xV 6) (aC (xV 8) aN)))) aN))))
def L13 : Mo Fl := sIf (tAndM (tV (x2 (xC .none) (xSl (xV 11) oN (oS (xC (.int 2)))) opNotInA)) (tOrM (tV (x2 (x2i (xV 11) (xC (.int 2)) opIx) (xC .none) opIsN)) (tV (x2 (x2i (xV 11) (xC (.int 2)) opIx) (x2 (x2i (xV 11) (xC (.int 0)) opIx) (x2i (xV 11) (xC (.int 1)) opIx) opAdd) opGt)))) (sRet (xC (.bool false))) sPass
def L14 : Mo Fl := sSet 12 (xAnd (x2 (x2i (xV 11) (xC (.int 0)) opIx) (xC .none) opNotN) (x2 (x2i (xV 11) (xC (.int 0)) opIx) (x2i (xV 9) (xC (.int 2)) opIx) opLe))
def L15 (R : Fns) : Mo Fl := sIf (tV (x2 (x2 (x2i (xCall R.follows (aC (xB oDictP (aC (xV 3) aN)) (aC (xV 9) aN))) (xC (.int 0)) opIx) (xC (.str "ring")) opEq) (xV 12) opNe)) (sRet (xC (.bool false))) sPass
def L16 : Mo Fl := sSet 13 (xB oDictP (aC (x2 (xItems (xV 3)) (xLst (aC (xTup (aC (xC (.str "zz")) (aC (xV 9) aN))) aN)) opAdd) aN))
def L17 (R : Fns) : Mo Fl := sIf (tAndM (tV (xV 12)) (tV (x2 (xLst (aC (xCall R.law_most (aC (xV 13) (aC (xV 6) (aC (xV 7) aN)))) (aC (xCall R.law_most (aC (xV 13) (aC (xV 7) (aC (xV 8) aN)))) (aC (xCall R.law_most (aC (xV 13) (aC (xV 6) (aC (xV 8) aN)))) aN)))) (xV 11) opNe))) (sRet (xC (.bool false))) sPass
def L18 (R : Fns) : Mo Fl := sIf (tV (x2 (x2i (xCall R.spread (aC (xB oDictP (aC (xV 13) aN)) aN)) (xC (.int 0)) opIx) (xC (.str "row")) opEq)) (sFor (iS (xLst (aC (xTup (aC (xTup (aC (xV 6) (aC (xV 7) aN))) (aC (x2i (xV 11) (xC (.int 0)) opIx) aN))) (aC (xTup (aC (xTup (aC (xV 7) (aC (xV 8) aN))) (aC (x2i (xV 11) (xC (.int 1)) opIx) aN))) aN)))) (gT (gsC (gN 17) (gsC (gN 18) gsN))) (sSeq (sSet 19 (xCall R.law_most (aC (xV 13) (aC (x2i (xV 17) (xC (.int 0)) opIx) (aC (x2i (xV 17) (xC (.int 1)) opIx) aN))))) (sIf (tAndM (tV (x2 (xV 18) (xC .none) opNotN)) (tOrM (tV (x2 (xV 19) (xC .none) opIsN)) (tV (x2 (xV 19) (xV 18) opGt)))) (sRet (xC (.bool false))) sPass))) sPass
def L19 (R : Fns) : Mo Fl := sSet 14 (xB oDictP (aC (xLc [20] (iS (xV 2)) (gN 20) tYesM (xTup (aC (xV 20) (aC (xCallL R.law_next (aC (xV 1) (aC (xC (.int 20)) aN))) aN)))) aN))
def L20 : Mo Fl := sSet 15 (xB oDictP (aC (xLc [20] (iDict .keys 3) (gN 20) tYesM (xTup (aC (xV 20) (aC (xTup (aC (x2i (x2i (xV 3) (xV 20) opIx) (xC (.int 0)) opIx) (aC (x2i (x2i (xV 3) (xV 20) opIx) (xC (.int 1)) opIx) (aC (x2 (x2 (x2i (x2i (xV 3) (xV 20) opIx) (xC (.int 2)) opIx) (x2i (xV 14) (x2i (x2i (xV 3) (xV 20) opIx) (xC (.int 0)) opIx) opIx) opAdd) (x2i (xV 14) (x2i (x2i (xV 3) (xV 20) opIx) (xC (.int 1)) opIx) opIx) opSub) aN)))) aN)))) aN))
def L21 (R : Fns) : Mo Fl := sSet 16 (xCall R.law_most (aC (xV 15) (aC (xV 6) (aC (xV 7) aN))))
def L22 : Mo Fl := sIf (tV (x2 (x2i (xV 11) (xC (.int 0)) opIx) (xC .none) opIsN)) (sRet (x2 (xV 16) (xC .none) opIsN)) sPass
def L23 : Mo Fl := sRet (x2 (xV 16) (x2 (x2 (x2i (xV 11) (xC (.int 0)) opIx) (x2i (xV 14) (xV 6) opIx) opAdd) (x2i (xV 14) (xV 7) opIx) opSub) opEq)
theorem L_eq (R : Fns) : m_law R = sSeq L1 (sSeq (L2 R) (sSeq L3 (sSeq (L4 R) (sSeq (L5 R) (sSeq (L6 R) (sSeq (L7 R) (sSeq (L8 R) (sSeq L9 (sSeq (L10 R) (sSeq L11 (sSeq (L12 R) (sSeq L13 (sSeq L14 (sSeq (L15 R) (sSeq L16 (sSeq (L17 R) (sSeq (L18 R) (sSeq (L19 R) (sSeq L20 (sSeq (L21 R) (sSeq L22 L23))))))))))))))))))))) := rfl
def stA (d0 : Sl) (d : PyData) (v2 v3 v4 v5 v6 v7 v8 v9 : Sl) : Rho := [d0, some (.own, d), v2, v3, v4, v5, v6, v7, v8, v9, none, none, none, none, none, none, none, none, none, none, none, none, none]
theorem L2_ok (R : Fns) {ns : List Int} (F : Fin R ns) (d0 : Sl) (d : PyData) (hd : Dr ns d) : ∃ (d' : PyData) (W : List Str), Dr ns d' ∧ W.Nodup ∧ 3 ≤ W.length ∧ W.length ≤ 5 ∧ L2 R (stA d0 d none none none none none none none none) = some (.nx, stA d0 d' (some (.own, .list (W.map .str))) none none none none none none none) := by
  obtain ⟨o, d1, ho, hd1, e1⟩ := F.next d hd 3 (by decide) (by decide)
  obtain ⟨d2, W, hd2, nd, hl, e2⟩ := F.drawn d1 hd1 (3 + o) (by omega)
  have e1' : R.law_next [(.lent, d), (.shr, .int 3)] = some (.kept (.int (o : Int)), some d1) := e1
  have e2' : R.law_words_drawn [(.lent, d1), (.shr, .int (3 + (o : Int)))] = some (.fresh (.list (W.map .str)), some d2) := e2
  refine ⟨d2, W, hd2, nd, by omega, by omega, ?_⟩
  generalize W.map PyData.str = w at *
  unfold L2 stA
  simp [e1', e2']
def tS (i : Nat) : Str := toString (i : Int)
def nk (i : Nat) : Str := "n" ++ tS i
theorem nk_nodup : ((List.range 9).map nk).Nodup := by decide
theorem nk_inj {i j : Nat} (hi : i < 9) (hj : j < 9) (h : nk i = nk j) : i = j := by
  have : ∀ i, i < 9 → ∀ j, j < 9 → nk i = nk j → i = j := by decide
  exact this i hi j hj h
theorem nk_fr : ∀ i, i < 9 → nk i ≠ "" ∧ nk i ≠ " " ∧ nk i ≠ "not" ∧ nk i ≠ "zz" := by decide
theorem tS_short : ∀ i : Nat, i < 9 → (tS i).length ≤ 10 := by decide
theorem str_ok {i : Nat} (h : i < 9) : oStr [.int (i : Int)] = some (.str (tS i)) := by
  show (if (i : Int).natAbs.log2 < 1920 then some (PyData.str (toString (i : Int))) else none) = _
  rw [if_pos]
  · rfl
  rw [Int.natAbs_natCast]
  exact Nat.lt_of_le_of_lt (Nat.log2_le_self i) (by omega)
theorem nk_ok {i : Nat} (h : i < 9) : opAdd (.str "n") (.str (tS i)) = some (.str (nk i)) := by
  have := tS_short i h
  have h1 : ("n" : Str).length = 1 := by decide
  exact add_str (by omega)
structure Nts (W : List Str) (i : Nat) (nt : Nt) : Prop where
  nd : (nt.map (·.1)).Nodup
  src : ∀ k ∈ nt.map (·.1), ∃ j, j < i ∧ k = nk j
  len : nt.length ≤ i
  ends : ∀ p ∈ nt, p.2.1 ∈ W ∧ p.2.2.1 ∈ W
theorem Nts.start {W : List Str} : Nts W 0 [] := ⟨List.nodup_nil, fun k h => (nomatch h), Nat.le_refl _, fun p h => (nomatch h)⟩
theorem Nts.skip {W : List Str} {i : Nat} {nt : Nt} (h : Nts W i nt) : Nts W (i + 1) nt := ⟨h.nd, fun k hk => by obtain ⟨j, a, b⟩ := h.src k hk; exact ⟨j, by omega, b⟩, by have := h.len; omega, h.ends⟩
theorem Nts.new {W : List Str} {i : Nat} {nt : Nt} (h : Nts W i nt) (hi : i < 9) : nk i ∉ nt.map (·.1) := fun z => by
  obtain ⟨j, a, b⟩ := h.src _ z
  have := nk_inj hi (by omega) b
  omega
theorem Nts.put {W : List Str} {i : Nat} {nt : Nt} (h : Nts W i nt) (hi : i < 9) {e : Ed} (h1 : e.1 ∈ W) (h2 : e.2.1 ∈ W) : Nts W (i + 1) (putS nt (nk i) e) := by
  have hn := h.new hi
  refine ⟨nodup_put _ h.nd, fun k hk => ?_, ?_, fun p hp => ?_⟩
  · rcases mem_put.mp hk with rfl | hk
    · exact ⟨i, by omega, rfl⟩
    · obtain ⟨j, a, b⟩ := h.src k hk
      exact ⟨j, by omega, b⟩
  · rw [keys_put_new _ hn, List.length_append]
    have := h.len
    simp only [List.length_singleton]; omega
  · rw [keys_put_new _ hn] at hp
    rcases List.mem_append.mp hp with hp | hp
    · exact h.ends p hp
    · rw [List.mem_singleton] at hp
      subst hp
      exact ⟨h1, h2⟩
theorem Nts.own {W : List Str} {i : Nat} {nt : Nt} (h : Nts W i nt) (hi : i ≤ 9) : Own nt := by
  refine ⟨h.nd, by have := h.len; omega, ?_, ?_, ?_⟩ <;> intro z <;> obtain ⟨j, a, b⟩ := h.src _ z <;> have q := nk_fr j (by omega)
  · exact q.1 b.symm
  · exact q.2.1 b.symm
  · exact q.2.2.1 b.symm
theorem Nts.zz {W : List Str} {i : Nat} {nt : Nt} (h : Nts W i nt) (hi : i ≤ 9) : ("zz" : Str) ∉ nt.map (·.1) := fun z => by
  obtain ⟨j, a, b⟩ := h.src _ z
  exact (nk_fr j (by omega)).2.2.2 b.symm
theorem w_get {W : List Str} {o : Nat} (h : o < W.length) : opIx (.list (W.map .str)) (.int (o : Int)) = some (.str W[o]) := by
  rw [o_ixL, List.getElem?_map, List.getElem?_eq_getElem h]; rfl
theorem w_len (W : List Str) : oLen [.list (W.map .str)] = some (.int (W.length : Int)) := by
  rw [o_len1, List.length_map]
def bN (R : Fns) : Mo Fl := sSeq (sPar 6 7 (aC (x2i (xV 2) (xCallL R.law_next (aC (xV 1) (aC (xB oLen (aC (xV 2) aN)) aN))) opIx) (aC (x2i (xV 2) (xCallL R.law_next (aC (xV 1) (aC (xB oLen (aC (xV 2) aN)) aN))) opIx) aN)))
    (sIf (tV (x2 (xV 6) (xV 7) opNe)) (sPut 3 (x2 (xC (.str "n")) (xB oStr (aC (xV 4) aN)) opAdd) (xTup (aC (xV 6) (aC (xV 7) (aC (x2 (xCallL R.law_next (aC (xV 1) (aC (xC (.int 12)) aN))) (xC (.int 3)) opSub) aN))))) sPass)
theorem L4_eq (R : Fns) : L4 R = sFor (iR1 (x2 (xC (.int 2)) (xCallL R.law_next (aC (xV 1) (aC (xC (.int 8)) aN))) opAdd)) (gN 4) (bN R) := rfl
theorem put_ok (nt : Nt) (hl : nt.length ≤ 100) (k : Str) (e : Ed) : setD (noteD nt) (.str k) (encN e) = some (noteD (putS nt k e)) := by
  unfold noteD
  exact setD_dE encN nt k e (by omega)
theorem bN_ok (R : Fns) {ns : List Int} (F : Fin R ns) (d0 : Sl) (d : PyData) (hd : Dr ns d) {W : List Str} (h3 : 3 ≤ W.length) (h5 : W.length ≤ 5) {i : Nat} (hi : i < 9) {nt : Nt} (N : Nts W i nt) (v5 v6 v7 v8 v9 : Sl) :
    ∃ (d' : PyData) (nt' : Nt) (y6 y7 : Sl), Dr ns d' ∧ Nts W (i + 1) nt' ∧ bN R (stA d0 d (some (.own, .list (W.map .str))) (some (.own, noteD nt)) (some (.shr, .int (i : Int))) v5 v6 v7 v8 v9) = some (.nx, stA d0 d' (some (.own, .list (W.map .str))) (some (.own, noteD nt')) (some (.shr, .int (i : Int))) v5 y6 y7 v8 v9) := by
  obtain ⟨o, d1, ho, hd1, e1⟩ := F.next d hd W.length (by omega) (by omega)
  obtain ⟨o2, d2, ho2, hd2, e2⟩ := F.next d1 hd1 W.length (by omega) (by omega)
  obtain ⟨o3, d3, ho3, hd3, e3⟩ := F.next d2 hd2 12 (by decide) (by decide)
  have e3' : R.law_next [(.lent, d2), (.shr, .int 12)] = some (.kept (.int (o3 : Int)), some d3) := e3
  have g1 := w_get ho
  have g2 := w_get ho2
  have gl := w_len W
  have m1 : W[o] ∈ W := List.getElem_mem ho
  have m2 : W[o2] ∈ W := List.getElem_mem ho2
  generalize W[o] = a at *
  generalize W[o2] = b at *
  by_cases hab : a = b
  · refine ⟨d2, nt, some (.shr, .str a), some (.shr, .str b), hd2, N.skip, ?_⟩
    have hb : (a == b) = true := by simpa using hab
    generalize W.map PyData.str = w at *
    unfold bN stA
    generalize noteD nt = dn at *
    simp [e1, e2, g1, g2, gl, hb]
  · refine ⟨d3, putS nt (nk i) (a, b, (o3 : Int) - 3), some (.shr, .str a), some (.shr, .str b), hd3, N.put hi m1 m2, ?_⟩
    have hb : (a == b) = false := by simpa using hab
    have ps := put_ok nt (by have := N.len; omega) (nk i) (a, b, (o3 : Int) - 3)
    have s1 := str_ok hi
    have s2 := nk_ok hi
    have ee : encN (a, b, (o3 : Int) - 3) = .tuple [.str a, .str b, .int ((o3 : Int) - 3)] := rfl
    rw [ee] at ps
    generalize W.map PyData.str = w at *
    unfold bN stA
    generalize noteD nt = dn at *
    generalize noteD (putS nt (nk i) (a, b, (o3 : Int) - 3)) = dn2 at *
    simp [e1, e2, e3', g1, g2, gl, hb, ps, s1, s2]
theorem L4_ok (R : Fns) {ns : List Int} (F : Fin R ns) (d0 : Sl) (d : PyData) (hd : Dr ns d) {W : List Str} (h3 : 3 ≤ W.length) (h5 : W.length ≤ 5) :
    ∃ (d' : PyData) (nt : Nt) (n : Nat) (y4 y6 y7 : Sl), Dr ns d' ∧ n ≤ 9 ∧ Nts W n nt ∧ L4 R (stA d0 d (some (.own, .list (W.map .str))) (some (.own, .dict [])) none none none none none none) = some (.nx, stA d0 d' (some (.own, .list (W.map .str))) (some (.own, noteD nt)) y4 none y6 y7 none none) := by
  obtain ⟨o, d1, ho, hd1, e1⟩ := F.next d hd 8 (by decide) (by decide)
  have e1' : R.law_next [(.lent, d), (.shr, .int 8)] = some (.kept (.int (o : Int)), some d1) := e1
  have loop := for_all (ds := rngD 0 (2 + o)) (g := gN 4) (b := bN R) (fun i ρ => i ≤ 2 + o → ∃ (d' : PyData) (nt : Nt) (y4 y6 y7 : Sl), Dr ns d' ∧ Nts W i nt ∧ ρ = stA d0 d' (some (.own, .list (W.map .str))) (some (.own, noteD nt)) y4 none y6 y7 none none)
    (fun i x ρ hx hI => by
      obtain ⟨rfl, hi⟩ := rngD_at hx
      obtain ⟨d', nt, y4, y6, y7, a1, a2, rfl⟩ := hI (by omega)
      obtain ⟨d2, nt', z6, z7, b1, b2, b3⟩ := bN_ok R F d0 d' a1 h3 h5 (show i < 9 by omega) a2 none y6 y7 none none
      exact ⟨_, _, rfl, b3, fun _ => ⟨d2, nt', _, z6, z7, b1, b2, rfl⟩⟩)
    (ρ := stA d0 d1 (some (.own, .list (W.map .str))) (some (.own, .dict [])) none none none none none none) (fun _ => ⟨d1, [], none, none, none, hd1, Nts.start, rfl⟩)
  obtain ⟨ρ', e, hI⟩ := loop
  rw [rngD_len] at hI
  obtain ⟨d', nt, y4, y6, y7, a1, a2, rfl⟩ := hI (Nat.le_refl _)
  refine ⟨d', nt, 2 + o, y4, y6, y7, a1, by omega, a2, ?_⟩
  have ir : ∀ ρ, irb (some (.int (2 + (o : Int)))) ρ = some (rngD 0 (2 + o), ρ) := fun ρ => e_irb (2 + o) ρ (by omega)
  rw [L4_eq]
  generalize bN R = B at *
  generalize W.map PyData.str = w at *
  unfold stA at *
  generalize noteD nt = dn at *
  simp [e1', ir, e]
end PyK79

/-! the law: told, the words that are asked, the goal, the ring -/
namespace PyK79
open PySem PySem.Spec L2 PyI
theorem dict_same (nt : Nt) : oDictP [noteD nt] = some (noteD nt) := rfl
theorem L5_ok (R : Fns) (d0 : Sl) (d : PyData) (v2 v4 v5 v6 v7 v8 v9 : Sl) {nt : Nt} {T : PyData} (e : R.spread [(.shr, noteD nt)] = some (.kept T, none)) : L5 R (stA d0 d v2 (some (.own, noteD nt)) v4 v5 v6 v7 v8 v9) = some (.nx, stA d0 d v2 (some (.own, noteD nt)) v4 (some (.shr, T)) v6 v7 v8 v9) := by
  have ds := dict_same nt
  have dd : ∃ l, noteD nt = .dict l := ⟨_, rfl⟩
  unfold L5 stA
  unfold noteD at *
  generalize dE encN nt = dn at *
  simp [e, ds]
def bT (R : Fns) : Mo Rs := x2i (xV 2) (xCallL R.law_next (aC (xV 1) (aC (xB oLen (aC (xV 2) aN)) aN))) opIx
def lT (R : Fns) : Mo Rs := xLc [4] (iR1 (xC (.int 3))) (gN 4) tYesM (bT R)
theorem bT_ok (R : Fns) {ns : List Int} (F : Fin R ns) (d0 : Sl) (d : PyData) (hd : Dr ns d) {W : List Str} (h3 : 3 ≤ W.length) (h5 : W.length ≤ 5) (v3 v4 v5 v6 v7 v8 v9 : Sl) :
    ∃ (d' : PyData) (a : Str), Dr ns d' ∧ a ∈ W ∧ bT R (stA d0 d (some (.own, .list (W.map .str))) v3 v4 v5 v6 v7 v8 v9) = some (.kept (.str a), stA d0 d' (some (.own, .list (W.map .str))) v3 v4 v5 v6 v7 v8 v9) := by
  obtain ⟨o, d1, ho, hd1, e1⟩ := F.next d hd W.length (by omega) (by omega)
  have g1 := w_get ho
  have gl := w_len W
  refine ⟨d1, W[o], hd1, List.getElem_mem ho, ?_⟩
  generalize W[o] = a at *
  generalize W.map PyData.str = w at *
  unfold bT stA
  simp [e1, g1, gl]
theorem lT_ok (R : Fns) {ns : List Int} (F : Fin R ns) (d0 : Sl) (d : PyData) (hd : Dr ns d) {W : List Str} (h3 : 3 ≤ W.length) (h5 : W.length ≤ 5) (v3 v4 v5 v6 v7 v8 v9 : Sl) :
    ∃ (d' : PyData) (a b c : Str), Dr ns d' ∧ a ∈ W ∧ b ∈ W ∧ c ∈ W ∧ lT R (stA d0 d (some (.own, .list (W.map .str))) v3 v4 v5 v6 v7 v8 v9) = some (.fresh (.list [.str a, .str b, .str c]), stA d0 d' (some (.own, .list (W.map .str))) v3 v4 v5 v6 v7 v8 v9) := by
  obtain ⟨acc, ρ', e, ⟨d', l, hd', rfl, hm, rfl⟩, hl⟩ := lc_inv (vs := [4]) (g := gN 4) (fe := bT R) (ds := rngD 0 3) (by rw [rngD_len]; decide)
    (fun _ acc ρ => ∃ (d' : PyData) (l : List Str), Dr ns d' ∧ acc = l.map .str ∧ (∀ x ∈ l, x ∈ W) ∧ ρ = stA d0 d' (some (.own, .list (W.map .str))) v3 none v5 v6 v7 v8 v9)
    (fun i x acc ρ hx hI => by
      obtain ⟨d', l, a1, rfl, a2, rfl⟩ := hI
      obtain ⟨d2, a, b1, b2, b3⟩ := bT_ok R F d0 d' a1 h3 h5 v3 (some (.shr, x)) v5 v6 v7 v8 v9
      refine ⟨stA d0 d' (some (.own, .list (W.map .str))) v3 (some (.shr, x)) v5 v6 v7 v8 v9, _, _, .str a, _, rfl, b3, rfl, d2, l ++ [a], b1, by rw [List.map_append]; rfl, fun y hy => ?_, rfl⟩
      rcases List.mem_append.mp hy with hy | hy
      · exact a2 y hy
      · rw [List.mem_singleton] at hy; exact hy ▸ b2)
    (stA d0 d (some (.own, .list (W.map .str))) v3 none v5 v6 v7 v8 v9) ⟨d, [], hd, rfl, by simp, rfl⟩
  rw [List.length_map, rngD_len] at hl
  match l, hl with
  | [a, b, c], _ =>
    refine ⟨d', a, b, c, hd', hm a (by simp), hm b (by simp), hm c (by simp), ?_⟩
    have ir : ∀ ρ, irb (some (.int 3)) ρ = some (rngD 0 3, ρ) := fun ρ => e_irb 3 ρ (by omega)
    have ie : iR1 (xC (.int 3)) (stA d0 d (some (.own, .list (W.map .str))) v3 v4 v5 v6 v7 v8 v9) = some (rngD 0 3, stA d0 d (some (.own, .list (W.map .str))) v3 v4 v5 v6 v7 v8 v9) := by simp [ir]
    unfold lT xLc
    rw [ie]
    dsimp only
    rw [show wipeE (stA d0 d (some (.own, .list (W.map .str))) v3 v4 v5 v6 v7 v8 v9) [4] = stA d0 d (some (.own, .list (W.map .str))) v3 none v5 v6 v7 v8 v9 from rfl, e]
    rfl
theorem L6_ok (R : Fns) {ns : List Int} (F : Fin R ns) (d0 : Sl) (d : PyData) (hd : Dr ns d) {W : List Str} (h3 : 3 ≤ W.length) (h5 : W.length ≤ 5) (v3 v4 v5 v6 v7 v8 v9 : Sl) :
    ∃ (d' : PyData) (a b c : Str), Dr ns d' ∧ a ∈ W ∧ b ∈ W ∧ c ∈ W ∧ L6 R (stA d0 d (some (.own, .list (W.map .str))) v3 v4 v5 v6 v7 v8 v9) = some (.nx, stA d0 d' (some (.own, .list (W.map .str))) v3 v4 v5 (some (.shr, .str a)) (some (.shr, .str b)) (some (.shr, .str c)) v9) := by
  obtain ⟨d', a, b, c, hd', ha, hb, hc, e⟩ := lT_ok R F d0 d hd h3 h5 v3 v4 v5 v6 v7 v8 v9
  refine ⟨d', a, b, c, hd', ha, hb, hc, ?_⟩
  show sUnp (lT R) (gL (gsC (gN 6) (gsC (gN 7) (gsC (gN 8) gsN)))) _ = _
  generalize lT R = z at *
  generalize W.map PyData.str = w at *
  unfold stA at *
  simp [e]
theorem L7_ok (R : Fns) {ns : List Int} (F : Fin R ns) (d0 : Sl) (d : PyData) (hd : Dr ns d) (v2 v3 v4 v5 v9 : Sl) (a b c : Str) :
    ∃ (d' : PyData) (k : Int), Dr ns d' ∧ L7 R (stA d0 d v2 v3 v4 v5 (some (.shr, .str a)) (some (.shr, .str b)) (some (.shr, .str c)) v9) = some (.nx, stA d0 d' v2 v3 v4 v5 (some (.shr, .str a)) (some (.shr, .str b)) (some (.shr, .str c)) (some (.shr, encN (a, b, k)))) := by
  obtain ⟨o, d1, ho, hd1, e1⟩ := F.next d hd 12 (by decide) (by decide)
  have e1' : R.law_next [(.lent, d), (.shr, .int 12)] = some (.kept (.int (o : Int)), some d1) := e1
  refine ⟨d1, (o : Int) - 3, hd1, ?_⟩
  unfold L7 stA encN
  simp [e1']
/-- all notes cannot be so -/
theorem L8_ring (R : Fns) {ns : List Int} (F : Fin R ns) (d0 : Sl) (d : PyData) (v2 v4 : Sl) {nt : Nt} (o : Own nt) (nf : ¬ Feas (EE nt)) (X : PyData) (a b c : Str) (k : Int) :
    ∃ ρ', L8 R (stA d0 d v2 (some (.own, noteD nt)) v4 (some (.shr, .tuple [.str "ring", X])) (some (.shr, .str a)) (some (.shr, .str b)) (some (.shr, .str c)) (some (.shr, encN (a, b, k)))) = some (.ret (.kept (.bool true)), ρ') := by
  rcases F.most .shr (.inl rfl) nt o a b with ⟨_, ds, em⟩ | ⟨f, _⟩
  · obtain ⟨t, x, ef, hf⟩ := F.foll .shr (.inl rfl) nt o (a, b, k)
    obtain rfl : t = "ring" := by
      rcases hf with ⟨_, y, sy⟩ | ⟨z, _⟩
      · exact absurd ⟨y, fun e he => sy e (.inl he)⟩ nf
      · exact z
    have dsm := dict_same nt
    refine ⟨stA d0 d v2 (some (.own, noteD nt)) v4 (some (.shr, .tuple [.str "ring", X])) (some (.shr, .str a)) (some (.shr, .str b)) (some (.shr, .str c)) (some (.shr, encN (a, b, k))), ?_⟩
    unfold L8 stA
    unfold noteD at *
    generalize encN (a, b, k) = g at *
    generalize dE encN nt = dn at *
    simp [em, ef, dsm]
  · exact absurd f nf
theorem L8_row (R : Fns) (d0 : Sl) (d : PyData) (v2 v3 v4 v6 v7 v8 v9 : Sl) (X : PyData) : L8 R (stA d0 d v2 v3 v4 (some (.shr, .tuple [.str "row", X])) v6 v7 v8 v9) = some (.nx, stA d0 d v2 v3 v4 (some (.shr, .tuple [.str "row", X])) v6 v7 v8 v9) := by
  have hb : (Str.ofString "row" == Str.ofString "ring") = false := by decide
  unfold L8 stA
  simp [hb]
end PyK79

/-! the law: the moved row, the greatest distances, what follows -/
namespace PyK79
open PySem PySem.Spec L2 PyI
def stB (d0 : Sl) (d : PyData) (v2 v3 v4 : Sl) (T : PyData) (a b c : Str) (g : PyData) (v10 v11 v12 v13 v14 v15 v16 v17 v18 v19 : Sl) : Rho := [d0, some (.own, d), v2, v3, v4, some (.shr, T), some (.shr, .str a), some (.shr, .str b), some (.shr, .str c), some (.shr, g), v10, v11, v12, v13, v14, v15, v16, v17, v18, v19, none, none, none]
def l9 : Mo Rs := xLc [21, 22] (iS (x2i (xV 5) (xC (.int 1)) opIx)) (gT (gsC (gN 21) (gsC (gN 22) gsN))) tYesM (xTup (aC (xV 21) (aC (x2 (xV 22) (xC (.int 7)) opAdd) aN)))
theorem l9_ok (d0 : Sl) (d : PyData) (v2 v3 v4 : Sl) (W : List Str) (hW : W.length ≤ 100) (f : Str → Int) (a b c : Str) (g : PyData) (v10 v11 v12 v13 v14 v15 v16 v17 v18 v19 : Sl) :
    l9 (stB d0 d v2 v3 v4 (.tuple [.str "row", rowD W f]) a b c g v10 v11 v12 v13 v14 v15 v16 v17 v18 v19) = some (.fresh (.list (rowL W fun w => f w + 7)), stB d0 d v2 v3 v4 (.tuple [.str "row", rowD W f]) a b c g v10 v11 v12 v13 v14 v15 v16 v17 v18 v19) := by
  have := lc_evalT (vs := [21, 22]) (fi := iS (x2i (xV 5) (xC (.int 1)) opIx)) (g := gT (gsC (gN 21) (gsC (gN 22) gsN))) (t := tYesM) (fe := xTup (aC (xV 21) (aC (x2 (xV 22) (xC (.int 7)) opAdd) aN)))
    (ρ := stB d0 d v2 v3 v4 (.tuple [.str "row", rowD W f]) a b c g v10 v11 v12 v13 v14 v15 v16 v17 v18 v19) (ρ1 := stB d0 d v2 v3 v4 (.tuple [.str "row", rowD W f]) a b c g v10 v11 v12 v13 v14 v15 v16 v17 v18 v19) (l := W) (e := fun w => .tuple [.str w, .int (f w)])
    (fun _ => true) (fun w => .tuple [.str w, .int (f w + 7)]) (by unfold stB rowD; simp) (Nat.le_trans hW (by decide)) (fun w hw => ?_)
  · unfold l9
    rw [this, filt_true]
    unfold stB rowL
    simp [restE, wipeE]
  · unfold stB
    generalize rowD W f = r
    obtain ⟨q, hq⟩ : ∃ q : Rho, q = [d0, some (.own, d), v2, v3, v4, some (.shr, .tuple [.str "row", r]), some (.shr, .str a), some (.shr, .str b), some (.shr, .str c), some (.shr, g), v10, v11, v12, v13, v14, v15, v16, v17, v18, v19, none, some (.shr, .str w), some (.shr, .int (f w))] := ⟨_, rfl⟩
    exact ⟨q, by simp [wipeE, hq], q, rfl, fun z => absurd z (by decide), fun _ => ⟨.kept (.tuple [.str w, .int (f w + 7)]), q, q, by rw [hq]; simp, rfl, by simp [wipeE, hq]⟩⟩
theorem L9_ok (d0 : Sl) (d : PyData) (v2 v3 v4 : Sl) (W : List Str) (hW : W.length ≤ 100) (f : Str → Int) (a b c : Str) (g : PyData) (v10 v11 v12 v13 v14 v15 v16 v17 v18 v19 : Sl) :
    L9 (stB d0 d v2 v3 v4 (.tuple [.str "row", rowD W f]) a b c g v10 v11 v12 v13 v14 v15 v16 v17 v18 v19) = some (.nx, stB d0 d v2 v3 v4 (.tuple [.str "row", rowD W f]) a b c g (some (.shr, .tuple [.str "row", rowD W fun w => f w + 7])) v11 v12 v13 v14 v15 v16 v17 v18 v19) := by
  have e := l9_ok d0 d v2 v3 v4 W hW f a b c g v10 v11 v12 v13 v14 v15 v16 v17 v18 v19
  have rr : rowD W (fun w => f w + 7) = .tuple (rowL W fun w => f w + 7) := rfl
  show sSet 10 (xTup (aC (xC (.str "row")) (aC (xB oTuple (aC l9 aN)) aN))) _ = _
  rw [rr]
  generalize l9 = z at *
  generalize rowL W (fun w => f w + 7) = r2 at *
  unfold stB at *
  generalize rowD W f = r1 at *
  simp [e]
theorem L10_ok (R : Fns) {ns : List Int} (F : Fin R ns) (d0 : Sl) (d : PyData) (v2 v4 : Sl) (T : PyData) {nt : Nt} (C : Cas nt) {f : Str → Int} (sat : Sat (EE nt) f) (a b c : Str) (g : PyData) (v11 v12 v13 v14 v15 v16 v17 v18 v19 : Sl) :
    L10 R (stB d0 d v2 (some (.own, noteD nt)) v4 T a b c g (some (.shr, .tuple [.str "row", rowD (Wd nt) f])) v11 v12 v13 v14 v15 v16 v17 v18 v19) = some (.nx, stB d0 d v2 (some (.own, noteD nt)) v4 T a b c g (some (.shr, .tuple [.str "row", rowD (Wd nt) f])) v11 v12 v13 v14 v15 v16 v17 v18 v19) := by
  have e := F.judge .shr (.inl rfl) nt C f sat
  have ds := dict_same nt
  unfold L10 stB
  generalize rowD (Wd nt) f = r at *
  unfold noteD at *
  generalize dE encN nt = dn at *
  simp [e, ds]
theorem L11_same (d0 : Sl) (d : PyData) (v2 v3 v4 : Sl) (T : PyData) (a b c : Str) (g : PyData) (v10 v11 v12 v13 v14 v15 v16 v17 v18 v19 : Sl) (h : ¬ (a ≠ b ∧ b ≠ c ∧ a ≠ c)) :
    L11 (stB d0 d v2 v3 v4 T a b c g v10 v11 v12 v13 v14 v15 v16 v17 v18 v19) = some (.ret (.kept (.bool true)), stB d0 d v2 v3 v4 T a b c g v10 v11 v12 v13 v14 v15 v16 v17 v18 v19) := by
  unfold L11 stB
  by_cases h1 : (a == b) = true
  · simp [h1]
  · have h1' : (a == b) = false := by simpa using h1
    by_cases h2 : (b == c) = true
    · simp [h1', h2]
    · have h2' : (b == c) = false := by simpa using h2
      have h3 : (a == c) = true := by
        simp at h1' h2' ⊢
        exact Classical.byContradiction fun z => h ⟨h1', h2', z⟩
      simp [h1', h2', h3]
theorem L11_ok (d0 : Sl) (d : PyData) (v2 v3 v4 : Sl) (T : PyData) (a b c : Str) (g : PyData) (v10 v11 v12 v13 v14 v15 v16 v17 v18 v19 : Sl) (h : a ≠ b ∧ b ≠ c ∧ a ≠ c) :
    L11 (stB d0 d v2 v3 v4 T a b c g v10 v11 v12 v13 v14 v15 v16 v17 v18 v19) = some (.nx, stB d0 d v2 v3 v4 T a b c g v10 v11 v12 v13 v14 v15 v16 v17 v18 v19) := by
  have h1 : (a == b) = false := by simpa using h.1
  have h2 : (b == c) = false := by simpa using h.2.1
  have h3 : (a == c) = false := by simpa using h.2.2
  unfold L11 stB
  simp [h1, h2, h3]
/-- the greatest distances, where the notes can be so -/
theorem lm (R : Fns) {ns : List Int} (F : Fin R ns) {s : Stt} (h : Rdg s) {nt : Nt} (o : Own nt) (f : Feas (EE nt)) (one other : Str) : ∃ dd, IsD (EE nt) one other dd ∧ R.law_most [(s, noteD nt), (.shr, .str one), (.shr, .str other)] = some (.kept (oD dd), none) := by
  rcases F.lmost s h nt o one other with ⟨nf, _⟩ | ⟨_, q⟩
  · exact absurd f nf
  · exact q
theorem L12_ok (R : Fns) (d0 : Sl) (d : PyData) (v2 v4 : Sl) (T : PyData) {nt : Nt} (a b c : Str) (g : PyData) (v10 v11 v12 v13 v14 v15 v16 v17 v18 v19 : Sl) {x y z : PyData}
    (e1 : R.law_most [(.bor, noteD nt), (.shr, .str a), (.shr, .str b)] = some (.kept x, none)) (e2 : R.law_most [(.bor, noteD nt), (.shr, .str b), (.shr, .str c)] = some (.kept y, none)) (e3 : R.law_most [(.bor, noteD nt), (.shr, .str a), (.shr, .str c)] = some (.kept z, none)) :
    L12 R (stB d0 d v2 (some (.own, noteD nt)) v4 T a b c g v10 v11 v12 v13 v14 v15 v16 v17 v18 v19) = some (.nx, stB d0 d v2 (some (.own, noteD nt)) v4 T a b c g v10 (some (.own, .list [x, y, z])) v12 v13 v14 v15 v16 v17 v18 v19) := by
  unfold L12 stB
  generalize noteD nt = dn at *
  simp [e1, e2, e3]
theorem nin_none (x y : Option Int) : opNotInA .none (.list [oD x, oD y]) = some (.bool (x.isSome && y.isSome)) := by
  cases x <;> cases y <;> rfl
theorem sl_two (x y z : PyData) : opSl (.list [x, y, z]) none (some 2) = some (.list [x, y]) := by
  show some (PyData.list (cutD [x, y, z] none (some 2))) = _
  rfl
theorem L13_ok (d0 : Sl) (d : PyData) (v2 v3 v4 : Sl) (T : PyData) (a b c : Str) (g : PyData) (v10 v12 v13 v14 v15 v16 v17 v18 v19 : Sl) (x y z : Option Int) (h : ∀ p q, x = some p → y = some q → ∃ r, z = some r ∧ r ≤ p + q) :
    L13 (stB d0 d v2 v3 v4 T a b c g v10 (some (.own, .list [oD x, oD y, oD z])) v12 v13 v14 v15 v16 v17 v18 v19) = some (.nx, stB d0 d v2 v3 v4 T a b c g v10 (some (.own, .list [oD x, oD y, oD z])) v12 v13 v14 v15 v16 v17 v18 v19) := by
  have n1 := nin_none x y
  have s1 := sl_two (oD x) (oD y) (oD z)
  unfold L13 stB
  cases x with
  | none =>
    have n1 : opNotInA .none (.list [oD none, oD y]) = some (.bool false) := n1
    generalize oD none = a1 at *
    generalize oD y = a2 at *
    simp [n1, s1]
  | some p => cases y with
    | none =>
      have n1 : opNotInA .none (.list [oD (some p), oD none]) = some (.bool false) := n1
      generalize oD none = a2 at *
      generalize oD (some p) = a1 at *
      simp [n1, s1]
    | some q =>
      have n1 : opNotInA .none (.list [oD (some p), oD (some q)]) = some (.bool true) := n1
      obtain ⟨r, rfl, hr⟩ := h p q rfl rfl
      have hd : decide (p + q < r) = false := by simpa using hr
      have i1 : isNone (.int r) = false := rfl
      unfold oD at *
      simp [n1, s1, hd, i1]
/-- what is due -/
def due (x : Option Int) (k : Int) : Bool := match x with
  | none => false
  | some p => decide (p ≤ k)
theorem due_iff {x : Option Int} {k : Int} : due x k = true ↔ ∃ p, x = some p ∧ p ≤ k := by
  cases x <;> simp [due]
theorem L14_ok (d0 : Sl) (d : PyData) (v2 v3 v4 : Sl) (T : PyData) (a b c : Str) (k : Int) (v10 v12 v13 v14 v15 v16 v17 v18 v19 : Sl) (x : Option Int) (y z : PyData) :
    L14 (stB d0 d v2 v3 v4 T a b c (encN (a, b, k)) v10 (some (.own, .list [oD x, y, z])) v12 v13 v14 v15 v16 v17 v18 v19) = some (.nx, stB d0 d v2 v3 v4 T a b c (encN (a, b, k)) v10 (some (.own, .list [oD x, y, z])) (some (.shr, .bool (due x k))) v13 v14 v15 v16 v17 v18 v19) := by
  unfold L14 stB
  have i1 : ∀ p, isNone (.int p) = false := fun _ => rfl
  have i2 : isNone .none = true := rfl
  cases x <;> simp [oD, encN, due, i1, i2]
theorem ne_bool (p q : Bool) : opNe (.bool p) (.bool q) = some (.bool (!(p == q))) := by
  cases p <;> cases q <;> rfl
theorem L15_ok (R : Fns) {ns : List Int} (F : Fin R ns) (d0 : Sl) (d : PyData) (v2 v4 : Sl) (T : PyData) {nt : Nt} (o : Own nt) (f : Feas (EE nt)) (a b c : Str) (k : Int) (v10 v11 v13 v14 v15 v16 v17 v18 v19 : Sl) (x : Option Int) (hx : IsD (EE nt) a b x) :
    L15 R (stB d0 d v2 (some (.own, noteD nt)) v4 T a b c (encN (a, b, k)) v10 v11 (some (.shr, .bool (due x k))) v13 v14 v15 v16 v17 v18 v19) = some (.nx, stB d0 d v2 (some (.own, noteD nt)) v4 T a b c (encN (a, b, k)) v10 v11 (some (.shr, .bool (due x k))) v13 v14 v15 v16 v17 v18 v19) := by
  obtain ⟨t, X, e, ht⟩ := F.foll .shr (.inl rfl) nt o (a, b, k)
  have df := den_feas (l := nt.map (·.2)) (fun e he => by obtain ⟨n, h⟩ := he; exact List.mem_map.mpr ⟨_, look_mem h, rfl⟩) f (k := k) hx
  rw [← due_iff] at df
  have hb : (t == Str.ofString "ring") = due x k := by
    rcases ht with ⟨rfl, h⟩ | ⟨rfl, h⟩
    · have : ¬ due x k = true := df.mp h
      have h2 : due x k = false := by simpa using this
      rw [h2]; decide
    · have : due x k = true := Classical.byContradiction fun z => h (df.mpr z)
      rw [this]; decide
  have nb := ne_bool (due x k) (due x k)
  have ds := dict_same nt
  unfold L15 stB
  unfold noteD at *
  generalize encN (a, b, k) = g at *
  generalize dE encN nt = dn at *
  generalize due x k = dx at *
  simp [e, ds, hb, nb]
end PyK79

/-! the law: a note more, notes moved -/
namespace PyK79
open PySem PySem.Spec L2 PyI
def zzN (nt : Nt) (g : Ed) : Nt := nt ++ ([("zz", g)] : Nt)
theorem pairs_items (nt : Nt) : pairsD (itemsD (dE encN nt)) = some (dE encN nt) := by
  induction nt with
  | nil => rfl
  | cons p r ih =>
    show pairsD (.tuple [.str p.1, encN p.2] :: itemsD (dE encN r)) = _
    unfold pairsD
    rw [ih]
    rfl
theorem dict_items {nt : Nt} (nd : (nt.map (·.1)).Nodup) : oDictP [.list (itemsD (dE encN nt))] = some (noteD nt) := by
  unfold oDictP
  dsimp only
  rw [pairs_items]
  have h3 := merge_new encN (m := nt) (l := []) (by simpa using nd)
  rw [List.nil_append] at h3
  show some (PyData.dict (mergeD (dE encN []) (dE encN nt))) = _
  rw [h3]; rfl
structure Zz (nt : Nt) (g : Ed) : Prop where
  own : Own nt
  new : ("zz" : Str) ∉ nt.map (·.1)
  few : nt.length ≤ 10
theorem Zz.nd {nt : Nt} {g : Ed} (z : Zz nt g) : ((zzN nt g).map (·.1)).Nodup := by
  unfold zzN
  rw [List.map_append, List.nodup_append]
  refine ⟨z.own.nd, by simp, fun a ha b hb y => ?_⟩
  simp at hb
  exact z.new (hb ▸ y ▸ ha)
theorem Zz.Own {nt : Nt} {g : Ed} (z : Zz nt g) : Own (zzN nt g) := by
  have f := z.own.fr
  refine ⟨z.nd, by unfold zzN; rw [List.length_append]; have := z.few; simp only [List.length_singleton]; omega, ?_, ?_, ?_⟩ <;> unfold zzN <;> rw [List.map_append, List.mem_append] <;> intro h <;> rcases h with h | h
  · exact f.1 h
  · revert h; simp; decide
  · exact f.2.1 h
  · revert h; simp; decide
  · exact f.2.2 h
  · revert h; simp; decide
theorem Zz.ee {nt : Nt} {g : Ed} (z : Zz nt g) (e : Ed) : EE (zzN nt g) e ↔ more (EE nt) g e := by
  unfold zzN
  rw [ee_app (fun k hk => by
    have hk : k ∈ (["zz"] : List Str) := hk
    simp at hk
    rw [hk]; exact z.new), ee_one]
  rfl
theorem L16_ok (d0 : Sl) (d : PyData) (v2 v4 : Sl) (T : PyData) {nt : Nt} {gg : Ed} (z : Zz nt gg) (a b c : Str) (v10 v11 v12 v14 v15 v16 v17 v18 v19 : Sl) :
    L16 (stB d0 d v2 (some (.own, noteD nt)) v4 T a b c (encN gg) v10 v11 v12 none v14 v15 v16 v17 v18 v19) = some (.nx, stB d0 d v2 (some (.own, noteD nt)) v4 T a b c (encN gg) v10 v11 v12 (some (.own, noteD (zzN nt gg))) v14 v15 v16 v17 v18 v19) := by
  have e := dict_items z.nd
  have e2 : itemsD (dE encN (zzN nt gg)) = itemsD (dE encN nt) ++ [.tuple [.str "zz", encN gg]] := by
    unfold zzN dE itemsD
    rw [List.map_append, List.map_append]; rfl
  have e3 : opAdd (.list (itemsD (dE encN nt))) (.list [.tuple [.str "zz", encN gg]]) = some (.list (itemsD (dE encN (zzN nt gg)))) := by
    rw [e2]
    refine if_pos (Nat.le_trans (show _ ≤ 100 from ?_) (by rw [sizeLine_eq]; decide))
    unfold itemsD
    rw [List.length_map, len_dE]
    have := z.few
    simp only [List.length_singleton]; omega
  clear e2
  unfold L16 stB
  unfold noteD at *
  generalize encN gg = g at *
  generalize dE encN (zzN nt gg) = dn2 at *
  generalize dE encN nt = dn at *
  generalize itemsD dn2 = i2 at *
  simp [e, e3]
theorem plain_oD (x y z : Option Int) : PyData.plainAll [oD x, oD y, oD z] = true ∧ PyData.depthAll [oD x, oD y, oD z] ≤ 50 := by
  cases x <;> cases y <;> cases z <;> simp [oD, PyData.plainAll, PyData.plain, PyData.depthAll, PyData.depth]
theorem L17_ok (R : Fns) (d0 : Sl) (d : PyData) (v2 v3 v4 : Sl) (T : PyData) {nt : Nt} (a b c : Str) (g : PyData) (v10 v14 v15 v16 v17 v18 v19 : Sl) (x y z : Option Int) (dd : Bool)
    (h : dd = true → R.law_most [(.bor, noteD nt), (.shr, .str a), (.shr, .str b)] = some (.kept (oD x), none) ∧ R.law_most [(.bor, noteD nt), (.shr, .str b), (.shr, .str c)] = some (.kept (oD y), none) ∧ R.law_most [(.bor, noteD nt), (.shr, .str a), (.shr, .str c)] = some (.kept (oD z), none)) :
    L17 R (stB d0 d v2 v3 v4 T a b c g v10 (some (.own, .list [oD x, oD y, oD z])) (some (.shr, .bool dd)) (some (.own, noteD nt)) v14 v15 v16 v17 v18 v19) = some (.nx, stB d0 d v2 v3 v4 T a b c g v10 (some (.own, .list [oD x, oD y, oD z])) (some (.shr, .bool dd)) (some (.own, noteD nt)) v14 v15 v16 v17 v18 v19) := by
  have q := plain_oD x y z
  have n := ne_list q.1 q.2
  unfold L17 stB
  generalize noteD nt = dn at *
  generalize oD x = x1 at *
  generalize oD y = y1 at *
  generalize oD z = z1 at *
  cases dd with
  | false => simp
  | true =>
    obtain ⟨e1, e2, e3⟩ := h rfl
    simp [e1, e2, e3, n]
def bZ (R : Fns) : Mo Fl := sSeq (sSet 19 (xCall R.law_most (aC (xV 13) (aC (x2i (xV 17) (xC (.int 0)) opIx) (aC (x2i (xV 17) (xC (.int 1)) opIx) aN)))))
    (sIf (tAndM (tV (x2 (xV 18) (xC .none) opNotN)) (tOrM (tV (x2 (xV 19) (xC .none) opIsN)) (tV (x2 (xV 19) (xV 18) opGt)))) (sRet (xC (.bool false))) sPass)
def lZ : Mo Rs := xLst (aC (xTup (aC (xTup (aC (xV 6) (aC (xV 7) aN))) (aC (x2i (xV 11) (xC (.int 0)) opIx) aN))) (aC (xTup (aC (xTup (aC (xV 7) (aC (xV 8) aN))) (aC (x2i (xV 11) (xC (.int 1)) opIx) aN))) aN))
def fZ (R : Fns) : Mo Fl := sFor (iS lZ) (gT (gsC (gN 17) (gsC (gN 18) gsN))) (bZ R)
theorem L18_eq (R : Fns) : L18 R = sIf (tV (x2 (x2i (xCall R.spread (aC (xB oDictP (aC (xV 13) aN)) aN)) (xC (.int 0)) opIx) (xC (.str "row")) opEq)) (fZ R) sPass := rfl
theorem bZ_ok (R : Fns) (d0 : Sl) (d : PyData) (v2 v3 v4 : Sl) (T : PyData) {nt : Nt} (a b c : Str) (g : PyData) (v10 v11 v12 v14 v15 v16 v19 : Sl) (p q : Str) (x w : Option Int)
    (e : R.law_most [(.bor, noteD nt), (.shr, .str p), (.shr, .str q)] = some (.kept (oD w), none)) (h : ∀ v, x = some v → ∃ u, w = some u ∧ u ≤ v) :
    bZ R (stB d0 d v2 v3 v4 T a b c g v10 v11 v12 (some (.own, noteD nt)) v14 v15 v16 (some (.shr, .tuple [.str p, .str q])) (some (.shr, oD x)) v19) = some (.nx, stB d0 d v2 v3 v4 T a b c g v10 v11 v12 (some (.own, noteD nt)) v14 v15 v16 (some (.shr, .tuple [.str p, .str q])) (some (.shr, oD x)) (some (.shr, oD w))) := by
  unfold bZ stB
  generalize noteD nt = dn at *
  have i1 : ∀ p, isNone (.int p) = false := fun _ => rfl
  have i2 : isNone .none = true := rfl
  cases x with
  | none =>
    have ox : oD none = .none := rfl
    rw [ox]
    generalize oD w = w1 at *
    simp [e, i2]
  | some v =>
    obtain ⟨u, rfl, hu⟩ := h v rfl
    have hd : decide (v < u) = false := by simpa using hu
    unfold oD at *
    simp [e, i1, hd]
theorem fZ_ok (R : Fns) (d0 : Sl) (d : PyData) (v2 v3 v4 : Sl) (T : PyData) {nt : Nt} (a b c : Str) (g : PyData) (v10 v12 v14 v15 v16 v17 v18 v19 : Sl) (x y w u : Option Int) (z : PyData)
    (e1 : R.law_most [(.bor, noteD nt), (.shr, .str a), (.shr, .str b)] = some (.kept (oD w), none)) (h1 : ∀ v, x = some v → ∃ u, w = some u ∧ u ≤ v)
    (e2 : R.law_most [(.bor, noteD nt), (.shr, .str b), (.shr, .str c)] = some (.kept (oD u), none)) (h2 : ∀ v, y = some v → ∃ w, u = some w ∧ w ≤ v) :
    ∃ y17 y18 y19, fZ R (stB d0 d v2 v3 v4 T a b c g v10 (some (.own, .list [oD x, oD y, z])) v12 (some (.own, noteD nt)) v14 v15 v16 v17 v18 v19) = some (.nx, stB d0 d v2 v3 v4 T a b c g v10 (some (.own, .list [oD x, oD y, z])) v12 (some (.own, noteD nt)) v14 v15 v16 y17 y18 y19) := by
  have loop := for_all (ds := [.tuple [.tuple [.str a, .str b], oD x], .tuple [.tuple [.str b, .str c], oD y]]) (g := gT (gsC (gN 17) (gsC (gN 18) gsN))) (b := bZ R)
    (fun _ ρ => ∃ y17 y18 y19, ρ = stB d0 d v2 v3 v4 T a b c g v10 (some (.own, .list [oD x, oD y, z])) v12 (some (.own, noteD nt)) v14 v15 v16 y17 y18 y19)
    (fun i s ρ hs hI => by
      obtain ⟨y17, y18, y19, rfl⟩ := hI
      match i, hs with
      | 0, hs =>
        cases hs
        exact ⟨stB d0 d v2 v3 v4 T a b c g v10 (some (.own, .list [oD x, oD y, z])) v12 (some (.own, noteD nt)) v14 v15 v16 (some (.shr, .tuple [.str a, .str b])) (some (.shr, oD x)) y19, _, rfl, bZ_ok R d0 d v2 v3 v4 T a b c g v10 _ v12 v14 v15 v16 y19 a b x w e1 h1, _, _, _, rfl⟩
      | 1, hs =>
        cases hs
        exact ⟨stB d0 d v2 v3 v4 T a b c g v10 (some (.own, .list [oD x, oD y, z])) v12 (some (.own, noteD nt)) v14 v15 v16 (some (.shr, .tuple [.str b, .str c])) (some (.shr, oD y)) y19, _, rfl, bZ_ok R d0 d v2 v3 v4 T a b c g v10 _ v12 v14 v15 v16 y19 b c y u e2 h2, _, _, _, rfl⟩
      | _ + 2, hs => cases hs)
    (ρ := stB d0 d v2 v3 v4 T a b c g v10 (some (.own, .list [oD x, oD y, z])) v12 (some (.own, noteD nt)) v14 v15 v16 v17 v18 v19) ⟨_, _, _, rfl⟩
  obtain ⟨ρ', e, y17, y18, y19, rfl⟩ := loop
  refine ⟨y17, y18, y19, ?_⟩
  have el : iS lZ (stB d0 d v2 v3 v4 T a b c g v10 (some (.own, .list [oD x, oD y, z])) v12 (some (.own, noteD nt)) v14 v15 v16 v17 v18 v19) = some ([.tuple [.tuple [.str a, .str b], oD x], .tuple [.tuple [.str b, .str c], oD y]], stB d0 d v2 v3 v4 T a b c g v10 (some (.own, .list [oD x, oD y, z])) v12 (some (.own, noteD nt)) v14 v15 v16 v17 v18 v19) := by
    unfold lZ stB
    generalize noteD nt = dn at *
    generalize oD x = x1 at *
    generalize oD y = y1 at *
    simp
  unfold fZ
  rw [e_for, el, e_fora]
  exact e
theorem L18_ok (R : Fns) {ns : List Int} (F : Fin R ns) (d0 : Sl) (d : PyData) (v2 v3 v4 : Sl) (T : PyData) {nt : Nt} {gg : Ed} (zz : Zz nt gg) (a b c : Str) (g : PyData) (v10 v12 v14 v15 v16 v17 v18 v19 : Sl) (x y : Option Int) (hx : IsD (EE nt) a b x) (hy : IsD (EE nt) b c y) (z : PyData) :
    ∃ y17 y18 y19, L18 R (stB d0 d v2 v3 v4 T a b c g v10 (some (.own, .list [oD x, oD y, z])) v12 (some (.own, noteD (zzN nt gg))) v14 v15 v16 v17 v18 v19) = some (.nx, stB d0 d v2 v3 v4 T a b c g v10 (some (.own, .list [oD x, oD y, z])) v12 (some (.own, noteD (zzN nt gg))) v14 v15 v16 y17 y18 y19) := by
  have ds := dict_same (zzN nt gg)
  have key : ∀ {t : Str} {X : PyData}, R.spread [(.shr, noteD (zzN nt gg))] = some (.kept (.tuple [.str t, X]), none) → tV (x2 (x2i (xCall R.spread (aC (xB oDictP (aC (xV 13) aN)) aN)) (xC (.int 0)) opIx) (xC (.str "row")) opEq) (stB d0 d v2 v3 v4 T a b c g v10 (some (.own, .list [oD x, oD y, z])) v12 (some (.own, noteD (zzN nt gg))) v14 v15 v16 v17 v18 v19) = some (t == Str.ofString "row", stB d0 d v2 v3 v4 T a b c g v10 (some (.own, .list [oD x, oD y, z])) v12 (some (.own, noteD (zzN nt gg))) v14 v15 v16 v17 v18 v19) := fun {t X} e => by
    unfold stB
    unfold noteD at *
    generalize dE encN (zzN nt gg) = dn at *
    generalize oD x = x1 at *
    generalize oD y = y1 at *
    simp [e, ds]
  rw [L18_eq, e_sI]
  rcases F.spread .shr (.inl rfl) _ zz.Own.cas with ⟨f, e, sat⟩ | ⟨X, e, _⟩
  · rw [key e, show (Str.ofString "row" == Str.ofString "row") = true by decide, e_sIt]
    obtain ⟨w, hw, e1⟩ := lm R F (s := .bor) (.inr rfl) zz.Own ⟨f, sat⟩ a b
    obtain ⟨u, hu, e2⟩ := lm R F (s := .bor) (.inr rfl) zz.Own ⟨f, sat⟩ b c
    have hw := hw.congr zz.ee
    have hu := hu.congr zz.ee
    exact fZ_ok R d0 d v2 v3 v4 T a b c g v10 v12 v14 v15 v16 v17 v18 v19 x y w u z e1 (fun v hv => mono_le (hv ▸ hx) hw) e2 (fun v hv => mono_le (hv ▸ hy) hu)
  · rw [key e, show (Str.ofString "ring" == Str.ofString "row") = false by decide, e_sIf, e_sP]
    exact ⟨_, _, _, rfl⟩
end PyK79

/-! the law: words moved -/
namespace PyK79
open PySem PySem.Spec L2 PyI
def plD (l : List (Str × Int)) : List PyData := l.map fun p => .tuple [.str p.1, .int p.2]
def bQ (R : Fns) : Mo Rs := xTup (aC (xV 20) (aC (xCallL R.law_next (aC (xV 1) (aC (xC (.int 20)) aN))) aN))
def lQ (R : Fns) : Mo Rs := xLc [20] (iS (xV 2)) (gN 20) tYesM (bQ R)
def stC (d0 : Sl) (d : PyData) (v2 v3 v4 : Sl) (T : PyData) (a b c : Str) (g : PyData) (v10 v11 v12 v13 v14 v15 v16 v17 v18 v19 v20 : Sl) : Rho := [d0, some (.own, d), v2, v3, v4, some (.shr, T), some (.shr, .str a), some (.shr, .str b), some (.shr, .str c), some (.shr, g), v10, v11, v12, v13, v14, v15, v16, v17, v18, v19, v20, none, none]
theorem lQ_ok (R : Fns) {ns : List Int} (F : Fin R ns) (d0 : Sl) (d : PyData) (hd : Dr ns d) (W : List Str) (h5 : W.length ≤ 5) (v3 v4 : Sl) (T : PyData) (a b c : Str) (g : PyData) (v10 v11 v12 v13 v14 v15 v16 v17 v18 v19 : Sl) :
    ∃ (d' : PyData) (l : List (Str × Int)), Dr ns d' ∧ l.map (·.1) = W ∧ lQ R (stB d0 d (some (.own, .list (W.map .str))) v3 v4 T a b c g v10 v11 v12 v13 v14 v15 v16 v17 v18 v19) = some (.fresh (.list (plD l)), stB d0 d' (some (.shr, .list (W.map .str))) v3 v4 T a b c g v10 v11 v12 v13 v14 v15 v16 v17 v18 v19) := by
  obtain ⟨acc, ρ', e, ⟨d', l, hd', rfl, hm, rfl⟩, hl⟩ := lc_inv (vs := [20]) (g := gN 20) (fe := bQ R) (ds := W.map .str) (by rw [List.length_map]; omega)
    (fun i acc ρ => ∃ (d' : PyData) (l : List (Str × Int)), Dr ns d' ∧ acc = plD l ∧ l.map (·.1) = W.take i ∧ ρ = stB d0 d' (some (.shr, .list (W.map .str))) v3 v4 T a b c g v10 v11 v12 v13 v14 v15 v16 v17 v18 v19)
    (fun i x acc ρ hx hI => by
      obtain ⟨d', l, a1, rfl, a2, rfl⟩ := hI
      obtain ⟨n, hn, rfl⟩ := map_get hx
      obtain ⟨o, d2, ho, hd2, e1⟩ := F.next d' a1 20 (by decide) (by decide)
      have e1' : R.law_next [(.lent, d'), (.shr, .int 20)] = some (.kept (.int (o : Int)), some d2) := e1
      refine ⟨stC d0 d' (some (.shr, .list (W.map .str))) v3 v4 T a b c g v10 v11 v12 v13 v14 v15 v16 v17 v18 v19 (some (.shr, .str n)), .kept (.tuple [.str n, .int (o : Int)]), stC d0 d2 (some (.shr, .list (W.map .str))) v3 v4 T a b c g v10 v11 v12 v13 v14 v15 v16 v17 v18 v19 (some (.shr, .str n)), .tuple [.str n, .int (o : Int)], _, rfl, ?_, rfl, d2, l ++ [(n, (o : Int))], hd2, by unfold plD; rw [List.map_append]; rfl, ?_, rfl⟩
      · generalize W.map PyData.str = w at *
        unfold bQ stC
        simp [e1']
      · rw [List.map_append, a2, List.take_add_one, hn]; rfl)
    (stB d0 d (some (.shr, .list (W.map .str))) v3 v4 T a b c g v10 v11 v12 v13 v14 v15 v16 v17 v18 v19) ⟨d, [], hd, rfl, rfl, rfl⟩
  rw [List.length_map, List.take_length] at hm
  refine ⟨d', l, hd', hm, ?_⟩
  have ie : iS (xV 2) (stB d0 d (some (.own, .list (W.map .str))) v3 v4 T a b c g v10 v11 v12 v13 v14 v15 v16 v17 v18 v19) = some (W.map .str, stB d0 d (some (.shr, .list (W.map .str))) v3 v4 T a b c g v10 v11 v12 v13 v14 v15 v16 v17 v18 v19) := by
    unfold stB
    simp
  unfold lQ xLc
  rw [ie]
  dsimp only
  rw [show wipeE (stB d0 d (some (.shr, .list (W.map .str))) v3 v4 T a b c g v10 v11 v12 v13 v14 v15 v16 v17 v18 v19) [20] = stB d0 d (some (.shr, .list (W.map .str))) v3 v4 T a b c g v10 v11 v12 v13 v14 v15 v16 v17 v18 v19 from rfl, e]
  rfl
theorem dict_pl {l : List (Str × Int)} (nd : (l.map (·.1)).Nodup) : oDictP [.list (plD l)] = some (.dict (dE .int l)) := by
  have h2 : pairsD (plD l) = some (dE .int l) := by
    clear nd
    induction l with
    | nil => rfl
    | cons p r ih =>
      show pairsD (.tuple [.str p.1, .int p.2] :: plD r) = _
      unfold pairsD
      rw [ih]; rfl
  unfold oDictP
  dsimp only
  rw [h2]
  have h3 := merge_new PyData.int (m := l) (l := []) (by simpa using nd)
  rw [List.nil_append] at h3
  show some (PyData.dict (mergeD (dE PyData.int []) (dE PyData.int l))) = _
  rw [h3]
theorem L19_ok (R : Fns) {ns : List Int} (F : Fin R ns) (d0 : Sl) (d : PyData) (hd : Dr ns d) {W : List Str} (nd : W.Nodup) (h5 : W.length ≤ 5) (v3 v4 : Sl) (T : PyData) (a b c : Str) (g : PyData) (v10 v11 v12 v13 v15 v16 v17 v18 v19 : Sl) :
    ∃ (d' : PyData) (l : List (Str × Int)), Dr ns d' ∧ l.map (·.1) = W ∧ L19 R (stB d0 d (some (.own, .list (W.map .str))) v3 v4 T a b c g v10 v11 v12 v13 none v15 v16 v17 v18 v19) = some (.nx, stB d0 d' (some (.shr, .list (W.map .str))) v3 v4 T a b c g v10 v11 v12 v13 (some (.own, .dict (dE .int l))) v15 v16 v17 v18 v19) := by
  obtain ⟨d', l, hd', hl, e⟩ := lQ_ok R F d0 d hd W h5 v3 v4 T a b c g v10 v11 v12 v13 none v15 v16 v17 v18 v19
  refine ⟨d', l, hd', hl, ?_⟩
  have dp := dict_pl (l := l) (hl ▸ nd)
  show sSet 14 (xB oDictP (aC (lQ R) aN)) _ = _
  generalize lQ R = z at *
  generalize W.map PyData.str = w at *
  unfold stB at *
  generalize dE PyData.int l = dl at *
  generalize plD l = pl at *
  simp [e, dp]
/-- the moved notes -/
def shN (p : Str → Int) (nt : Nt) : Nt := nt.map fun q => (q.1, sh p q.2)
theorem shN_keys (p : Str → Int) (nt : Nt) : (shN p nt).map (·.1) = nt.map (·.1) := by
  unfold shN
  rw [List.map_map]; rfl
theorem shN_own {p : Str → Int} {nt : Nt} (o : Own nt) : Own (shN p nt) := by
  refine ⟨by rw [shN_keys]; exact o.nd, by unfold shN; rw [List.length_map]; exact o.few, ?_⟩
  rw [shN_keys]
  exact o.fr
theorem look_shN (p : Str → Int) (nt : Nt) (n : Str) : lookS (shN p nt) n = (lookS nt n).map (sh p) := by
  induction nt with
  | nil => rfl
  | cons q r ih =>
    show (if q.1 = n then some (sh p q.2) else lookS (shN p r) n) = Option.map (sh p) (if q.1 = n then some q.2 else lookS r n)
    rw [ih]
    by_cases h : q.1 = n
    · rw [if_pos h, if_pos h]; rfl
    · rw [if_neg h, if_neg h]
theorem shN_ee (p : Str → Int) (nt : Nt) (e : Ed) : EE (shN p nt) e ↔ shE p (EE nt) e := by
  constructor
  · rintro ⟨n, h⟩
    rw [look_shN] at h
    obtain ⟨e0, h0, rfl⟩ := Option.map_eq_some_iff.mp h
    exact ⟨e0, ⟨n, h0⟩, rfl⟩
  · rintro ⟨e0, ⟨n, h0⟩, rfl⟩
    exact ⟨n, by rw [look_shN, h0]; rfl⟩
def eU : Mo Rs := xTup (aC (xV 20) (aC (xTup (aC (x2i (x2i (xV 3) (xV 20) opIx) (xC (.int 0)) opIx) (aC (x2i (x2i (xV 3) (xV 20) opIx) (xC (.int 1)) opIx) (aC (x2 (x2 (x2i (x2i (xV 3) (xV 20) opIx) (xC (.int 2)) opIx) (x2i (xV 14) (x2i (x2i (xV 3) (xV 20) opIx) (xC (.int 0)) opIx) opIx) opAdd) (x2i (xV 14) (x2i (x2i (xV 3) (xV 20) opIx) (xC (.int 1)) opIx) opIx) opSub) aN)))) aN))
def lU : Mo Rs := xLc [20] (iDict .keys 3) (gN 20) tYesM eU
theorem lU_ok (d0 : Sl) (d : PyData) (v2 v4 : Sl) (T : PyData) {W : List Str} {nt : Nt} (nd : (nt.map (·.1)).Nodup) (hl : nt.length ≤ 20) (en : ∀ q ∈ nt, q.2.1 ∈ W ∧ q.2.2.1 ∈ W) {l : List (Str × Int)} {p : Str → Int} (hp : ∀ w ∈ W, lookS l w = some (p w)) (a b c : Str) (g : PyData) (v10 v11 v12 v13 v15 v16 v17 v18 v19 : Sl) :
    lU (stB d0 d v2 (some (.own, noteD nt)) v4 T a b c g v10 v11 v12 v13 (some (.own, .dict (dE .int l))) v15 v16 v17 v18 v19) = some (.fresh (.list (itemsD (dE encN (shN p nt)))), stB d0 d v2 (some (.shr, noteD nt)) v4 T a b c g v10 v11 v12 v13 (some (.own, .dict (dE .int l))) v15 v16 v17 v18 v19) := by
  have := lc_evalT (vs := [20]) (fi := iDict .keys 3) (g := gN 20) (t := tYesM) (fe := eU)
    (ρ := stB d0 d v2 (some (.own, noteD nt)) v4 T a b c g v10 v11 v12 v13 (some (.own, .dict (dE .int l))) v15 v16 v17 v18 v19) (ρ1 := stB d0 d v2 (some (.shr, noteD nt)) v4 T a b c g v10 v11 v12 v13 (some (.own, .dict (dE .int l))) v15 v16 v17 v18 v19) (l := nt) (e := fun q => .str q.1)
    (fun _ => true) (fun q => .tuple [.str q.1, encN (sh p q.2)]) (by show some (selD .keys (dE encN nt), _) = some (nt.map _, _); rw [selD_keys]; unfold dE; rw [List.map_map]; rfl) (Nat.le_trans hl (by decide)) (fun q hq => ?_)
  · unfold lU
    rw [this, filt_true]
    have eqi : itemsD (dE encN (shN p nt)) = nt.map fun q => .tuple [.str q.1, encN (sh p q.2)] := by
      unfold itemsD dE shN
      rw [List.map_map, List.map_map]; rfl
    rw [eqi]
    unfold stB
    simp [restE, wipeE]
  · obtain ⟨n, e⟩ := q
    have l1 : lookD (.str n) (dE encN nt) = some (encN e) := by rw [look_dE, look_of_mem nd hq]; rfl
    have l2 : lookD (.str e.1) (dE .int l) = some (.int (p e.1)) := by rw [look_dE, hp _ (en _ hq).1]; rfl
    have l3 : lookD (.str e.2.1) (dE .int l) = some (.int (p e.2.1)) := by rw [look_dE, hp _ (en _ hq).2]; rfl
    refine ⟨stC d0 d v2 (some (.shr, noteD nt)) v4 T a b c g v10 v11 v12 v13 (some (.own, .dict (dE .int l))) v15 v16 v17 v18 v19 (some (.shr, .str n)), rfl, _, rfl, fun z => absurd z (by decide), fun _ => ⟨.kept (.tuple [.str n, encN (sh p e)]), stC d0 d v2 (some (.shr, noteD nt)) v4 T a b c g v10 v11 v12 v13 (some (.own, .dict (dE .int l))) v15 v16 v17 v18 v19 (some (.shr, .str n)), _, ?_, rfl, rfl⟩⟩
    unfold eU stC noteD
    unfold encN at l1 ⊢
    generalize dE .int l = dl at *
    generalize dE (fun e : Ed => PyData.tuple [.str e.1, .str e.2.1, .int e.2.2]) nt = dn at *
    simp [l1, l2, l3, sh]
theorem L20_ok (d0 : Sl) (d : PyData) (v2 v4 : Sl) (T : PyData) {W : List Str} {nt : Nt} (nd : (nt.map (·.1)).Nodup) (hl : nt.length ≤ 20) (en : ∀ q ∈ nt, q.2.1 ∈ W ∧ q.2.2.1 ∈ W) {l : List (Str × Int)} {p : Str → Int} (hp : ∀ w ∈ W, lookS l w = some (p w)) (a b c : Str) (g : PyData) (v10 v11 v12 v13 v15 v16 v17 v18 v19 : Sl) :
    L20 (stB d0 d v2 (some (.own, noteD nt)) v4 T a b c g v10 v11 v12 v13 (some (.own, .dict (dE .int l))) v15 v16 v17 v18 v19) = some (.nx, stB d0 d v2 (some (.shr, noteD nt)) v4 T a b c g v10 v11 v12 v13 (some (.own, .dict (dE .int l))) (some (.own, noteD (shN p nt))) v16 v17 v18 v19) := by
  have e := lU_ok d0 d v2 v4 T nd hl en hp a b c g v10 v11 v12 v13 v15 v16 v17 v18 v19
  have dp := dict_items (nt := shN p nt) (by rw [shN_keys]; exact nd)
  show sSet 15 (xB oDictP (aC lU aN)) _ = _
  generalize lU = z at *
  unfold stB at *
  unfold noteD at *
  generalize dE PyData.int l = dl at *
  generalize dE encN (shN p nt) = d2 at *
  generalize dE encN nt = d1 at *
  generalize itemsD d2 = i2 at *
  simp [e, dp]
theorem L21_ok (R : Fns) (d0 : Sl) (d : PyData) (v2 v3 v4 : Sl) (T : PyData) {nt : Nt} {x : PyData} (a b c : Str) (g : PyData) (v10 v11 v12 v13 v14 v16 v17 v18 v19 : Sl) (e : R.law_most [(.bor, noteD nt), (.shr, .str a), (.shr, .str b)] = some (.kept x, none)) :
    L21 R (stB d0 d v2 v3 v4 T a b c g v10 v11 v12 v13 v14 (some (.own, noteD nt)) v16 v17 v18 v19) = some (.nx, stB d0 d v2 v3 v4 T a b c g v10 v11 v12 v13 v14 (some (.own, noteD nt)) (some (.shr, x)) v17 v18 v19) := by
  unfold L21 stB
  generalize noteD nt = dn at *
  simp [e]
theorem end_ok (d0 : Sl) (d : PyData) (v2 v3 v4 : Sl) (T : PyData) (a b c : Str) (g : PyData) (v10 v12 v13 v15 v17 v18 v19 : Sl) (x : Option Int) (y z : PyData) {l : List (Str × Int)} {p : Str → Int} (ha : lookS l a = some (p a)) (hb : lookS l b = some (p b)) :
    ∃ ρ', sSeq L22 L23 (stB d0 d v2 v3 v4 T a b c g v10 (some (.own, .list [oD x, y, z])) v12 v13 (some (.own, .dict (dE .int l))) v15 (some (.shr, oD (x.map fun d => d + p a - p b))) v17 v18 v19) = some (.ret (.kept (.bool true)), ρ') := by
  have i1 : ∀ p, isNone (.int p) = false := fun _ => rfl
  have i2 : isNone .none = true := rfl
  have l2 : lookD (.str a) (dE .int l) = some (.int (p a)) := by rw [look_dE, ha]; rfl
  have l3 : lookD (.str b) (dE .int l) = some (.int (p b)) := by rw [look_dE, hb]; rfl
  refine ⟨stB d0 d v2 v3 v4 T a b c g v10 (some (.own, .list [oD x, y, z])) v12 v13 (some (.own, .dict (dE .int l))) v15 (some (.shr, oD (x.map fun d => d + p a - p b))) v17 v18 v19, ?_⟩
  unfold L22 L23 stB
  generalize dE .int l = dl at *
  cases x with
  | none =>
    simp [oD, i2]
  | some v =>
    simp [oD, i1, l2, l3]
end PyK79

/-! the law -/
namespace PyK79
open PySem PySem.Spec L2 PyI
theorem rest_ok (R : Fns) {ns : List Int} (F : Fin R ns) (d0 : Sl) (d : PyData) (hd : Dr ns d) {W : List Str} (nd : W.Nodup) (h5 : W.length ≤ 5) {i : Nat} (hi : i ≤ 9) {nt : Nt} (N : Nts W i nt) (v4 : Sl) {f : Str → Int} (sat : Sat (EE nt) f) {a b c : Str} (ha : a ∈ W) (hb : b ∈ W) (k : Int) :
    ∃ ρ', sSeq L9 (sSeq (L10 R) (sSeq L11 (sSeq (L12 R) (sSeq L13 (sSeq L14 (sSeq (L15 R) (sSeq L16 (sSeq (L17 R) (sSeq (L18 R) (sSeq (L19 R) (sSeq L20 (sSeq (L21 R) (sSeq L22 L23)))))))))))))
      (stB d0 d (some (.own, .list (W.map .str))) (some (.own, noteD nt)) v4 (.tuple [.str "row", rowD (Wd nt) f]) a b c (encN (a, b, k)) none none none none none none none none none none) = some (.ret (.kept (.bool true)), ρ') := by
  have o := N.own hi
  have C := o.cas
  have h40 := wd_len C.few
  have feas : Feas (EE nt) := ⟨f, sat⟩
  have sat7 : Sat (EE nt) (fun w => f w + 7) := fun e he => by have := sat e he; simp only; omega
  rw [e_sq, L9_ok d0 d _ _ v4 (Wd nt) (by omega) f a b c _ none none none none none none none none none none, e_sqn]
  rw [e_sq, L10_ok R F d0 d _ v4 _ C sat7 a b c _ none none none none none none none none none, e_sqn]
  by_cases dif : a ≠ b ∧ b ≠ c ∧ a ≠ c
  · rw [e_sq, L11_ok d0 d _ _ v4 _ a b c _ _ none none none none none none none none none dif, e_sqn]
    obtain ⟨x, hx, e1⟩ := lm R F (s := .bor) (.inr rfl) o feas a b
    obtain ⟨y, hy, e2⟩ := lm R F (s := .bor) (.inr rfl) o feas b c
    obtain ⟨z, hz, e3⟩ := lm R F (s := .bor) (.inr rfl) o feas a c
    rw [e_sq, L12_ok R d0 d _ v4 _ a b c _ _ none none none none none none none none none e1 e2 e3, e_sqn]
    rw [e_sq, L13_ok d0 d _ _ v4 _ a b c _ _ none none none none none none none none x y z (fun p q hp hq => by subst hp; subst hq; obtain ⟨r, h1, h2⟩ := tri hx hy hz; exact ⟨r, h1, h2⟩), e_sqn]
    rw [e_sq, L14_ok d0 d _ _ v4 _ a b c k _ none none none none none none none none x (oD y) (oD z), e_sqn]
    rw [e_sq, L15_ok R F d0 d _ v4 _ o feas a b c k _ _ none none none none none none none x hx, e_sqn]
    have zz : Zz nt (a, b, k) := ⟨o, N.zz hi, by have := N.len; omega⟩
    rw [e_sq, L16_ok d0 d _ v4 _ zz a b c _ _ _ none none none none none none, e_sqn]
    have h17 : due x k = true → R.law_most [(.bor, noteD (zzN nt (a, b, k))), (.shr, .str a), (.shr, .str b)] = some (.kept (oD x), none) ∧ R.law_most [(.bor, noteD (zzN nt (a, b, k))), (.shr, .str b), (.shr, .str c)] = some (.kept (oD y), none) ∧ R.law_most [(.bor, noteD (zzN nt (a, b, k))), (.shr, .str a), (.shr, .str c)] = some (.kept (oD z), none) := fun hd => by
      obtain ⟨p, rfl, hp⟩ := due_iff.mp hd
      have fm : Feas (EE (zzN nt (a, b, k))) := (add_feas feas hx hp).congr fun e => (zz.ee e).symm
      have same : ∀ {u v : Str} {q : Option Int}, IsD (EE nt) u v q → R.law_most [(.bor, noteD (zzN nt (a, b, k))), (.shr, .str u), (.shr, .str v)] = some (.kept (oD q), none) := fun {u v q} hq => by
        obtain ⟨q', hq', e⟩ := lm R F (s := .bor) (.inr rfl) zz.Own fm u v
        rw [(hq'.congr zz.ee).uniq (add_same hx hp hq)] at e
        exact e
      exact ⟨same hx, same hy, same hz⟩
    rw [e_sq, L17_ok R d0 d _ _ v4 _ a b c _ _ none none none none none none x y z (due x k) h17, e_sqn]
    obtain ⟨y17, y18, y19, e18⟩ := L18_ok R F d0 d (some (.own, .list (W.map .str))) (some (.own, noteD nt)) v4 (.tuple [.str "row", rowD (Wd nt) f]) zz a b c (encN (a, b, k)) (some (.shr, .tuple [.str "row", rowD (Wd nt) fun w => f w + 7])) (some (.shr, .bool (due x k))) none none none none none none x y hx hy (oD z)
    rw [e_sq, e18, e_sqn]
    obtain ⟨d', l, hd', hl, e19⟩ := L19_ok R F d0 d hd nd h5 (some (.own, noteD nt)) v4 (.tuple [.str "row", rowD (Wd nt) f]) a b c (encN (a, b, k)) (some (.shr, .tuple [.str "row", rowD (Wd nt) fun w => f w + 7])) (some (.own, .list [oD x, oD y, oD z])) (some (.shr, .bool (due x k))) (some (.own, noteD (zzN nt (a, b, k)))) none none y17 y18 y19
    rw [e_sq, e19, e_sqn]
    have hp : ∀ w ∈ W, lookS l w = some ((fun w => (lookS l w).getD 0) w) := fun w hw => by
      obtain ⟨v, hv⟩ := look_some (l := l) (k := w) (by rw [hl]; exact hw)
      simp only [hv]; rfl
    generalize (fun w => (lookS l w).getD 0) = p at hp
    rw [e_sq, L20_ok d0 d' _ v4 _ o.nd C.few N.ends hp a b c _ _ _ _ _ none none y17 y18 y19, e_sqn]
    obtain ⟨x', hx', e21⟩ := lm R F (s := .bor) (.inr rfl) (shN_own (p := p) o) ((sh_feas feas p).congr fun e => (shN_ee p nt e).symm) a b
    rw [(hx'.congr (shN_ee p nt)).uniq (sh_dist p hx)] at e21
    rw [e_sq, L21_ok R d0 d' _ _ v4 _ a b c _ _ _ _ _ _ none y17 y18 y19 e21, e_sqn]
    exact end_ok d0 d' _ _ v4 _ a b c _ _ _ _ _ y17 y18 y19 x (oD y) (oD z) (hp a ha) (hp b hb)
  · rw [e_sq, L11_same d0 d _ _ v4 _ a b c _ _ none none none none none none none none none dif, e_sqr]
    exact ⟨_, rfl⟩
theorem law_ok (R : Fns) {ns : List Int} (F : Fin R ns) : runF 1 23 (m_law R) [(.scr, .list (ns.map .int))] = some (.kept (.bool true), none) := by
  have d0ok : Dr ns (stD ns 0 0 1) := ⟨0, 0, 1, rfl, by decide, by decide, by decide⟩
  have ev : ∃ ρ', m_law R [some (.scr, .list (ns.map .int)), none, none, none, none, none, none, none, none, none, none, none, none, none, none, none, none, none, none, none, none, none, none] = some (.ret (.kept (.bool true)), ρ') := by
    have e1 : L1 [some (.scr, .list (ns.map .int)), none, none, none, none, none, none, none, none, none, none, none, none, none, none, none, none, none, none, none, none, none, none] = some (.nx, stA (some (.scr, .list (ns.map .int))) (stD ns 0 0 1) none none none none none none none none) := by
      have sc : ∀ ρ, xScr 0 (some (Stt.scr, PyData.list (ns.map .int)) :: ρ) = some (.fresh (.list (ns.map .int)), some (Stt.scr, PyData.list (ns.map .int)) :: ρ) := fun _ => rfl
      unfold L1 stA stD
      simp [sc]
    generalize (some (Stt.scr, PyData.list (ns.map .int)) : Sl) = d0 at *
    obtain ⟨d2, W, hd2, nd, h3, h5, e2⟩ := L2_ok R F d0 _ d0ok
    have e3 : L3 (stA d0 d2 (some (.own, .list (W.map .str))) none none none none none none none) = some (.nx, stA d0 d2 (some (.own, .list (W.map .str))) (some (.own, .dict [])) none none none none none none) := by
      generalize W.map PyData.str = w
      unfold L3 stA
      simp
    obtain ⟨d4, nt, i, y4, y6, y7, hd4, hi, N, e4⟩ := L4_ok R F d0 d2 hd2 h3 h5
    have o := N.own hi
    have C := o.cas
    have run : ∀ T : PyData, R.spread [(.shr, noteD nt)] = some (.kept T, none) → ∃ (d7 : PyData) (a b c : Str) (k : Int), Dr ns d7 ∧ a ∈ W ∧ b ∈ W ∧ m_law R [d0, none, none, none, none, none, none, none, none, none, none, none, none, none, none, none, none, none, none, none, none, none, none] =
        sSeq (L8 R) (sSeq L9 (sSeq (L10 R) (sSeq L11 (sSeq (L12 R) (sSeq L13 (sSeq L14 (sSeq (L15 R) (sSeq L16 (sSeq (L17 R) (sSeq (L18 R) (sSeq (L19 R) (sSeq L20 (sSeq (L21 R) (sSeq L22 L23))))))))))))))
        (stA d0 d7 (some (.own, .list (W.map .str))) (some (.own, noteD nt)) y4 (some (.shr, T)) (some (.shr, .str a)) (some (.shr, .str b)) (some (.shr, .str c)) (some (.shr, encN (a, b, k)))) := fun T e => by
      have e5 := L5_ok R d0 d4 (some (.own, .list (W.map .str))) y4 none y6 y7 none none e
      obtain ⟨d6, a, b, c, hd6, ha, hb, _, e6⟩ := L6_ok R F d0 d4 hd4 h3 h5 (some (.own, noteD nt)) y4 (some (.shr, T)) y6 y7 none none
      obtain ⟨d7, k, hd7, e7⟩ := L7_ok R F d0 d6 hd6 (some (.own, .list (W.map .str))) (some (.own, noteD nt)) y4 (some (.shr, T)) none a b c
      refine ⟨d7, a, b, c, k, hd7, ha, hb, ?_⟩
      rw [L_eq, e_sq, e1, e_sqn, e_sq, e2, e_sqn, e_sq, e3, e_sqn, e_sq, e4, e_sqn, e_sq, e5, e_sqn, e_sq, e6, e_sqn, e_sq, e7, e_sqn]
    rcases F.spread .shr (.inl rfl) nt C with ⟨f, e, sat⟩ | ⟨ds, e, nf⟩
    · obtain ⟨d7, a, b, c, k, hd7, ha, hb, em⟩ := run _ e
      rw [em, e_sq, L8_row, e_sqn]
      exact rest_ok R F d0 d7 hd7 nd h5 hi N y4 sat ha hb k
    · obtain ⟨d7, a, b, c, k, hd7, ha, hb, em⟩ := run _ e
      obtain ⟨ρ', e8⟩ := L8_ring R F d0 d7 (some (.own, .list (W.map .str))) y4 o nf (.tuple ds) a b c k
      rw [em, e_sq, e8, e_sqr]
      exact ⟨_, rfl⟩
  obtain ⟨ρ', ev⟩ := ev
  exact run_ret rfl rfl ev rfl
theorem law_holds : Holds := fun ns _ => by
  show (lvl (29 + 1)).law _ = _
  rw [q_law]
  exact law_ok (lvl 29) (fin ns 25)
end PyK79

open PySem PySem.W PyProof.Rows
set_option maxHeartbeats 0 in
theorem PySem.Challenge.cw_loregreat_k79_whole_distances_join_holds : PySem.Challenge.rw_loregreat_k79_whole_distances_join.Holds := by
  w_on; o_law; k_head; (case hw => w_witness2)
  k_fill
  refine L2.walk_of (l := PySem.Challenge.rw_loregreat_k79_whole_distances_join) (n := 63) (k := 30) (x := "script") (CX := fun _ => L2.CX0) (sp := fun w => PyK79.spLaw _) rfl (by decide) rfl ⟨rfl, by decide, by decide⟩ (fun w h Y => PySem.W.kIn_of Y) ?F (fun _ _ a ns hl on hS => ⟨a, ns, rfl, hS, on, hl, fun _ => rfl⟩) (fun _ _ _ _ _ h => h)
  case F =>
    intro w mg fa h KX G hmg
    refine' PyK79.all_mk PyK79.law_holds KX G hmg ?a_words_of ?l_words_of ?c_words_of ?k_words_of ?a_denied ?l_denied ?c_denied ?k_denied ?a_spread ?l_spread ?c_spread ?k_spread ?a_ring ?l_ring ?c_ring ?k_ring ?a_is_row ?l_is_row ?c_is_row ?k_is_row ?a_is_path ?l_is_path ?c_is_path ?k_is_path ?a_judge_spread ?l_judge_spread ?c_judge_spread ?k_judge_spread ?a_most_apart ?l_most_apart ?c_most_apart ?k_most_apart ?a_follows ?l_follows ?c_follows ?k_follows ?a_law_next ?l_law_next ?c_law_next ?k_law_next ?a_law_same ?l_law_same ?c_law_same ?k_law_same ?a_law_words_drawn ?l_law_words_drawn ?c_law_words_drawn ?k_law_words_drawn ?a_law_most ?l_law_most ?c_law_most ?k_law_most ?a_law ?l_law ?c_law ?k_law ?z_bool ?z_dict ?z_int ?z_isinstance ?z_len ?z_list ?z_range ?z_set ?z_sorted ?z_str ?z_tuple ?t_bool_NoneType ?t_bool_bool ?t_bool_int ?t_bool_str ?t_bool_list ?t_bool_tuple ?t_bool_dict ?t_int_NoneType ?t_int_bool ?t_int_int ?t_int_str ?t_int_list ?t_int_tuple ?t_int_dict ?t_list_NoneType ?t_list_bool ?t_list_int ?t_list_str ?t_list_list ?t_list_tuple ?t_list_dict ?t_str_NoneType ?t_str_bool ?t_str_int ?t_str_str ?t_str_list ?t_str_tuple ?t_str_dict ?t_tuple_NoneType ?t_tuple_bool ?t_tuple_int ?t_tuple_str ?t_tuple_list ?t_tuple_tuple ?t_tuple_dict
    (case a_words_of => k_is); (case l_words_of => k_is); (case c_words_of => k_is); (case k_words_of => k_is); (case a_denied => k_is); (case l_denied => k_is); (case c_denied => k_is); (case k_denied => k_is); (case a_spread => k_is); (case l_spread => k_is); (case c_spread => k_is); (case k_spread => k_is); (case a_ring => k_is); (case l_ring => k_is); (case c_ring => k_is); (case k_ring => k_is); (case a_is_row => k_is); (case l_is_row => k_is); (case c_is_row => k_is); (case k_is_row => k_is); (case a_is_path => k_is); (case l_is_path => k_is); (case c_is_path => k_is); (case k_is_path => k_is); (case a_judge_spread => k_is); (case l_judge_spread => k_is); (case c_judge_spread => k_is); (case k_judge_spread => k_is); (case a_most_apart => k_is); (case l_most_apart => k_is); (case c_most_apart => k_is); (case k_most_apart => k_is); (case a_follows => k_is); (case l_follows => k_is); (case c_follows => k_is); (case k_follows => k_is); (case a_law_next => k_is); (case l_law_next => k_is); (case c_law_next => k_is); (case k_law_next => k_is); (case a_law_same => k_is); (case l_law_same => k_is); (case c_law_same => k_is); (case k_law_same => k_is); (case a_law_words_drawn => k_is); (case l_law_words_drawn => k_is); (case c_law_words_drawn => k_is); (case k_law_words_drawn => k_is); (case a_law_most => k_is); (case l_law_most => k_is); (case c_law_most => k_is); (case k_law_most => k_is); (case a_law => k_is); (case l_law => k_is); (case c_law => k_is); (case k_law => k_is); (case z_bool => k_is); (case z_dict => k_is); (case z_int => k_is); (case z_isinstance => k_is); (case z_len => k_is); (case z_list => k_is); (case z_range => k_is); (case z_set => k_is); (case z_sorted => k_is); (case z_str => k_is); (case z_tuple => k_is); (case t_bool_NoneType => first | kit_is | rfl); (case t_bool_bool => first | kit_is | rfl); (case t_bool_int => first | kit_is | rfl); (case t_bool_str => first | kit_is | rfl); (case t_bool_list => first | kit_is | rfl); (case t_bool_tuple => first | kit_is | rfl); (case t_bool_dict => first | kit_is | rfl); (case t_int_NoneType => first | kit_is | rfl); (case t_int_bool => first | kit_is | rfl); (case t_int_int => first | kit_is | rfl); (case t_int_str => first | kit_is | rfl); (case t_int_list => first | kit_is | rfl); (case t_int_tuple => first | kit_is | rfl); (case t_int_dict => first | kit_is | rfl); (case t_list_NoneType => first | kit_is | rfl); (case t_list_bool => first | kit_is | rfl); (case t_list_int => first | kit_is | rfl); (case t_list_str => first | kit_is | rfl); (case t_list_list => first | kit_is | rfl); (case t_list_tuple => first | kit_is | rfl); (case t_list_dict => first | kit_is | rfl); (case t_str_NoneType => first | kit_is | rfl); (case t_str_bool => first | kit_is | rfl); (case t_str_int => first | kit_is | rfl); (case t_str_str => first | kit_is | rfl); (case t_str_list => first | kit_is | rfl); (case t_str_tuple => first | kit_is | rfl); (case t_str_dict => first | kit_is | rfl); (case t_tuple_NoneType => first | kit_is | rfl); (case t_tuple_bool => first | kit_is | rfl); (case t_tuple_int => first | kit_is | rfl); (case t_tuple_str => first | kit_is | rfl); (case t_tuple_list => first | kit_is | rfl); (case t_tuple_tuple => first | kit_is | rfl); (case t_tuple_dict => first | kit_is | rfl)

