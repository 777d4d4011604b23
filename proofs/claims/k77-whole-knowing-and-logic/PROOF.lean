import PyProof.Rows.All
import HandS.ForMost
import HandS.IsInst
import HandS.TupAny
import HandS.Style
import HandS.Flow
import HandS.WordsDict
import KE.DataEq
import KE.KDictPairs
import HandS.More
import HandS.SortInts
import HandS.Small
import HandS.SetFor
import HandS.Strs
import HandS.DictComp
import HandS.ListItems
import HandS.TryOnly
import HandS.Zip
import HandS.Defaults
import PySem.Challenge.RW_loregreat_k77_whole_knowing_and_logic
set_option Elab.async false
set_option linter.all false
set_option maxRecDepth 100000
/-! PyI, part 0: new tuples, tracked with their object (so it is known that they have no dict of their own). -/
namespace PyI
open PySem PySem.Spec L2
section
variable {X : Cx} {pins : List (Addr × Obj)} {σ : L2.St} {H : Hp} {s : Shared}
def tupOb (us : List Value) : Obj := { cls := .type "tuple", data := .seq us.toArray }
theorem tupOb_laid {xs : List V} {us : List Value} {k : Nat} (I : Inv X pins σ H s) (r : Vals xs us) (z : xs.length ≤ sizeLine) : Inv X pins σ (upd H s.heap.objs.size (.frz (tupOb us) (.tup xs))) { s with heap := s.heap.push (tupOb us), toks := k } := by
  apply I.laid
  · intro b u e; exact Heap.get?_push_of_some _ e
  · exact Nat.le_refl _
  · exact ⟨Heap.get?_push_size _ rfl, z, us, r, PyProof.Rows.IsTup.new _ _⟩
/-- what a new tuple must do -/
def NewT (H : Hp) (xs : List V) (Q : VK) : Prop := (∀ p o, H p = none → o.dict = none → Q (.ref p) (upd H p (.frz o (.tup xs)))) ∨ ∀ p, H p = none → Q (.ref p) (upd H p (.tup xs))
theorem tup_laid {xs : List V} {us : List Value} {k : Nat} (I : Inv X pins σ H s) (r : Vals xs us) (z : xs.length ≤ sizeLine) : Inv X pins σ (upd H s.heap.objs.size (.tup xs)) { s with heap := s.heap.push (tupOb us), toks := k } := by
  apply I.laid
  · intro b u e; exact Heap.get?_push_of_some _ e
  · exact Nat.le_refl _
  · exact ⟨z, us, r, PyProof.Rows.IsTup.new _ _⟩
theorem NewT.put {xs : List V} {us : List Value} {Q : VK} {k : Nat} (n : NewT H xs Q) (I : Inv X pins σ H s) (r : Vals xs us) (z : xs.length ≤ sizeLine) : EP X pins σ Q (.ref s.heap.objs.size) { s with heap := s.heap.push (tupOb us), toks := k } := by
  rcases n with n | n
  · exact ⟨.ref s.heap.objs.size, _, tupOb_laid I r z, rfl, n _ _ (I.hok.fresh (Nat.le_refl _)) rfl⟩
  · exact ⟨.ref s.heap.objs.size, _, tup_laid I r z, rfl, n _ (I.hok.fresh (Nat.le_refl _))⟩
end
section
variable {X : Cx} {es : List Expr} {t : TA} {pos : Pos}
def tTupN (t : TA) : TE := fun σ H Q => t σ H fun xs H1 => xs.length ≤ sizeLine ∧ NewT H1 xs Q
theorem pe_tupN {k1} (h : PA X es t) : PE X (.Tuple es k1 pos) (tTupN t) := by
  constructor
  intro pins s σ H Q I hq
  apply wpAny_Tuple_spliced
  refine thn (h.run pos pins s σ H _ I hq) ?_
  rintro us s1 ⟨xs, H1, I1, r, z, q⟩
  exact ⟨by rw [← r.length]; exact z, q.put (k := s1.toks) I1 r z⟩
theorem call_tupN : CallR X (.type "tuple") (fun xs H Q => ∃ p ys, xs = [.ref p] ∧ ((SqL X.K H p ys ∧ NewT H ys Q) ∨ (SqT X.K H p ys ∧ Q (.ref p) H))) := by
  rintro pins s σ H xs us Q I r ⟨p, ys, rfl, h⟩
  obtain ⟨u, rfl, ru⟩ := vals1 r
  cases ru
  rcases h with ⟨a, q⟩ | ⟨a, q⟩
  · obtain ⟨its, ri, pl, z⟩ := I.list a
    have hl := ri.length
    refine PySem.call_tuple_list pl.isList (fun h2 kp => ?_) (by simp only [List.size_toArray] <;> omega)
    have I2 : Inv X pins σ H { s with heap := h2 } := I.kept (t' := s.toks) kp
    exact q.put (k := s.toks) I2 ri z
  · obtain ⟨its, ri, pl, z⟩ := I.tuple a
    exact call_tuple_same pl ⟨.ref p, H, I, rfl, q⟩
def rCatN (K : PySem.W.Frag) : R2 := fun x y H Q => ∃ a b xs ys, x = .ref a ∧ y = .ref b ∧ SqT K H a xs ∧ SqT K H b ys ∧ xs.length + ys.length ≤ sizeLine ∧
  (xs = [] → Q (.ref b) H) ∧ (xs ≠ [] → ys = [] → Q (.ref a) H) ∧ (xs ≠ [] → ys ≠ [] → NewT H (xs ++ ys) Q)
theorem op_catN : OpR X (binaryOp .Add) (rCatN X.K) := by
  rintro pins s σ H x y v u Q I rx ry ⟨a, b, xs, ys, rfl, rfl, ha, hb, hz, q0, q1, q2⟩
  cases rx
  cases ry
  obtain ⟨its, r1, p1, _⟩ := I.tuple ha
  obtain ⟨jts, r2, p2, _⟩ := I.tuple hb
  by_cases hx : xs = []
  · subst hx
    cases r1
    exact cat_tup0 p1 p2 ⟨.ref b, H, I, rfl, q0 rfl⟩
  · refine HT.cat_tup p1 p2 (fun z => hx (r1.nil_iff.mp z)) (fun z => ⟨.ref a, H, I, rfl, q1 hx (r2.nil_iff.mp z)⟩) (fun z => ?_) (by rw [← r1.length, ← r2.length]; exact hz)
    exact (q2 hx fun w => z (r2.nil_iff.mpr w)).put (k := s.toks) I (r1.append r2) (by rw [List.length_append]; exact hz)
def rSlN (K : PySem.W.Frag) : V → Option Int → Option Int → Hp → VK → Prop := fun x lo hi H Q => ∃ a xs, x = .ref a ∧ SqT K H a xs ∧
  (HT.sIx xs.length 0 lo = 0 ∧ HT.sIx xs.length xs.length hi = xs.length → Q (.ref a) H) ∧ (¬ (HT.sIx xs.length 0 lo = 0 ∧ HT.sIx xs.length xs.length hi = xs.length) → NewT H (cutV xs lo hi) Q)
theorem sl_tupN : SlR X (rSlN X.K) := by
  rintro pins s σ H x v vl vu lo hi sl Q I rx hs pl pu ⟨a, xs, rfl, hx, q1, q2⟩
  cases rx
  obtain ⟨its, r, ht, hz⟩ := I.tuple hx
  have hl : its.toArray.size = xs.length := by rw [List.size_toArray]; exact r.length.symm
  refine ⟨"tuple", _, PyProof.Rows.slot_tuple_getitem.lookup, ht.typeIs, ?_⟩
  by_cases hw : HT.sIx xs.length 0 lo = 0 ∧ HT.sIx xs.length xs.length hi = xs.length
  · exact getItem_tuple_whole ht hs pl pu (by rw [hl]; exact hw) ⟨.ref a, H, I, rfl, q1 hw⟩
  · refine HT.getItem_tuple_cut ht hs pl pu (by rw [hl]; exact hw) ?_ (by rw [hl]; exact hz)
    rw [hl]
    exact (q2 hw).put (k := s.toks) I ((r.drop _).take _) (Nat.le_trans (cutV_length xs lo hi) hz)
end
end PyI

/-! PyI: a small evaluator by value for the model's programs over plain data, and that it is right. Part A: values, states, frames. -/
namespace PyI
open PySem PySem.Spec L2

/-- who may do what with the list or dict in a slot: shared (read, handed on), owned (changed, handed on: then shared), lent (changed), borrowed (read), the script -/
inductive Stt | shr | own | lent | bor | scr
  deriving DecidableEq
abbrev Rho := List (Option (Stt × PyData))
/-- what an expression gives: data that is shared, a new list or dict, or the slot of a name -/
inductive Rs | kept (d : PyData) | fresh (d : PyData) | slot (i : Nat)
abbrev Mo (α : Type) := Rho → Option (α × Rho)

def keyD : Key → PyData
  | .inl i => .int i
  | .inr x => .str x

/-! ### data in the abstract heap -/
def KTup (K : PySem.W.Frag) (a : Addr) (vs : List V) : Prop :=
  ∃ (o : Obj) (its : Array Value) (n : Nat), K.lookup a = some o ∧ o.cls = .type "tuple" ∧ o.data = .seq its n ∧ its.size ≤ sizeLine ∧ Vals vs its.toList
def STup (K : PySem.W.Frag) (S : Addr → Prop) (H : Hp) (a : Addr) (vs : List V) : Prop := (S a ∧ Rd H a (.tup vs)) ∨ KTup K a vs
/-- a pair whose first part is a text; a row of such pairs -/
def pairB : PyData → Bool
  | .tuple [.str _, _] => true
  | _ => false
def pairsB (ds : List PyData) : Bool := ds.all pairB
/-- the tuple at a has no dict of its own -/
def PlT (S : Addr → Prop) (H : Hp) (a : Addr) (vs : List V) : Prop := S a ∧ ∃ o, H a = some (.frz o (.tup vs)) ∧ o.dict = none
/-- a pair of ints or texts -/
def atomB : PyData → Bool
  | .int _ => true
  | .str _ => true
  | _ => false
def keyB : List PyData → Bool
  | [x, y] => atomB x && atomB y
  | _ => false
theorem keyB_pairs {ds : List PyData} (h : keyB ds = true) : pairsB ds = false := by
  match ds, h with
  | [x, y], h =>
    show (pairB x && (pairB y && true)) = false
    unfold keyB at h
    rw [Bool.and_eq_true] at h
    have : pairB x = false := by
      cases x <;> first | rfl | exact absurd h.1 (by simp [atomB])
    rw [this]; rfl
/-- the empty tuple that the top holds -/
def K0 (K : PySem.W.Frag) (a : Addr) : Prop := ∃ o n, K.lookup a = some o ∧ o.cls = .type "tuple" ∧ o.data = .seq #[] n ∧ o.dict = none
/-- what is known besides of a tuple -/
def TF (K : PySem.W.Frag) (S : Addr → Prop) (H : Hp) (a : Addr) (vs : List V) (ds : List PyData) : Prop := (pairsB ds = true → PlT S H a vs ∨ (ds = [] ∧ vs = [] ∧ K0 K a)) ∧ (keyB ds = true → S a ∧ H a = some (.tup vs))
theorem TF.no {K : PySem.W.Frag} {S : Addr → Prop} {H : Hp} {a : Addr} {vs : List V} {ds : List PyData} (h1 : pairsB ds = false) (h2 : keyB ds = false) : TF K S H a vs ds := ⟨fun e => absurd (h1.symm.trans e) (by decide), fun e => absurd (h2.symm.trans e) (by decide)⟩
/-- a dict whose keys are tuples: its data begins with a mark -/
def isM : List (PyData × PyData) → Bool
  | (.none, _) :: _ => true
  | _ => false
mutual
inductive Rp (K : PySem.W.Frag) (S : Addr → Prop) (H : Hp) : V → PyData → Prop
  | non : Rp K S H .non .none
  | bl (b : Bool) : Rp K S H (.bl b) (.bool b)
  | int (i : Int) : Rp K S H (.int i) (.int i)
  | str (x : Str) : Rp K S H (.str x) (.str x)
  | tup {a : Addr} {vs : List V} {ds : List PyData} : STup K S H a vs → RpL K S H vs ds → TF K S H a vs ds → Rp K S H (.ref a) (.tuple ds)
  | lst {a : Addr} {vs : List V} {ds : List PyData} : S a → H a = some (.lst vs) → RpL K S H vs ds → Rp K S H (.ref a) (.list ds)
  | dct {a : Addr} {ts : List (Key × V)} {kvs : List (PyData × PyData)} : S a → Rd H a (.dK ts) → kvs.map (·.1) = ts.map (fun p => keyD p.1) → RpL K S H (ts.map (·.2)) (kvs.map (·.2)) → Rp K S H (.ref a) (.dict kvs)
  | dctT {a : Addr} {ts : List (List Key × V)} {kvs : List (PyData × PyData)} : S a → H a = some (.dT ts) → kvs.map (·.1) = ts.map (fun p => PyData.tuple (p.1.map keyD)) → RpL K S H (ts.map (·.2)) (kvs.map (·.2)) → Rp K S H (.ref a) (.dict ((.none, .none) :: kvs))
inductive RpL (K : PySem.W.Frag) (S : Addr → Prop) (H : Hp) : List V → List PyData → Prop
  | nil : RpL K S H [] []
  | cons {v : V} {vs : List V} {d : PyData} {ds : List PyData} : Rp K S H v d → RpL K S H vs ds → RpL K S H (v :: vs) (d :: ds)
end
section
variable {K : PySem.W.Frag} {S S' : Addr → Prop} {H H' : Hp}
/-- one heap behind another: what is shared stands -/
structure Uph (S : Addr → Prop) (H : Hp) (S' : Addr → Prop) (H' : Hp) : Prop where
  sh : ∀ a, S a → S' a
  at' : ∀ a o, S a → H a = some o → H' a = some o
theorem Uph.rd {a : Addr} {o : HO} (u : Uph S H S' H') (hs : S a) (h : Rd H a o) : Rd H' a o := by
  rcases h with h | ⟨ob, h⟩
  · exact .inl (u.at' a _ hs h)
  · exact .inr ⟨ob, u.at' a _ hs h⟩
theorem Uph.stup {a : Addr} {vs : List V} (u : Uph S H S' H') (h : STup K S H a vs) : STup K S' H' a vs := by
  rcases h with ⟨h1, h2⟩ | h
  · exact .inl ⟨u.sh a h1, u.rd h1 h2⟩
  · exact .inr h
theorem Uph.plt {a : Addr} {vs : List V} (u : Uph S H S' H') (h : PlT S H a vs) : PlT S' H' a vs := by
  obtain ⟨h1, o, h2, h3⟩ := h
  exact ⟨u.sh a h1, o, u.at' a _ h1 h2, h3⟩
theorem Uph.tf {a : Addr} {vs : List V} {ds : List PyData} (u : Uph S H S' H') (h : TF K S H a vs ds) : TF K S' H' a vs ds :=
  ⟨fun e => (h.1 e).imp_left u.plt, fun e => ⟨u.sh a (h.2 e).1, u.at' a _ (h.2 e).1 (h.2 e).2⟩⟩
mutual
theorem Rp.up (u : Uph S H S' H') : ∀ {v : V} {d : PyData}, Rp K S H v d → Rp K S' H' v d
  | _, _, .non => .non
  | _, _, .bl b => .bl b
  | _, _, .int i => .int i
  | _, _, .str x => .str x
  | _, _, .tup h r p => .tup (u.stup h) (RpL.up u r) (u.tf p)
  | _, _, .lst hs h r => .lst (u.sh _ hs) (u.at' _ _ hs h) (RpL.up u r)
  | _, _, .dct hs h k r => .dct (u.sh _ hs) (u.rd hs h) k (RpL.up u r)
  | _, _, .dctT hs h k r => .dctT (u.sh _ hs) (u.at' _ _ hs h) k (RpL.up u r)
theorem RpL.up (u : Uph S H S' H') : ∀ {vs : List V} {ds : List PyData}, RpL K S H vs ds → RpL K S' H' vs ds
  | _, _, .nil => .nil
  | _, _, .cons h r => .cons (Rp.up u h) (RpL.up u r)
end
theorem Uph.refl : Uph S H S H := ⟨fun _ h => h, fun _ _ _ h => h⟩
theorem Uph.trans {S'' : Addr → Prop} {H'' : Hp} (a : Uph S H S' H') (b : Uph S' H' S'' H'') : Uph S H S'' H'' :=
  ⟨fun x h => b.sh x (a.sh x h), fun x o h e => b.at' x o (a.sh x h) (a.at' x o h e)⟩
theorem RpL.len : ∀ {vs : List V} {ds : List PyData}, RpL K S H vs ds → vs.length = ds.length
  | _, _, .nil => rfl
  | _, _, .cons _ r => by rw [List.length_cons, List.length_cons, r.len]
theorem RpL.get : ∀ {vs : List V} {ds : List PyData} {i : Nat} {d : PyData}, RpL K S H vs ds → ds[i]? = some d → ∃ v, vs[i]? = some v ∧ Rp K S H v d
  | _, _, _, _, .nil, e => by simp at e
  | _, _, 0, _, .cons h _, e => by simp at e; subst e; exact ⟨_, rfl, h⟩
  | _, _, i + 1, d, .cons _ r, e => by
    obtain ⟨v, h1, h2⟩ := RpL.get (i := i) (d := d) r (by simpa using e)
    exact ⟨v, by simpa using h1, h2⟩
theorem RpL.get' : ∀ {vs : List V} {ds : List PyData} {i : Nat} {v : V}, RpL K S H vs ds → vs[i]? = some v → ∃ d, ds[i]? = some d ∧ Rp K S H v d
  | _, _, _, _, .nil, e => by simp at e
  | _, _, 0, _, .cons h _, e => by simp at e; subst e; exact ⟨_, rfl, h⟩
  | _, _, i + 1, v, .cons _ r, e => by
    obtain ⟨d, h1, h2⟩ := RpL.get' (i := i) (v := v) r (by simpa using e)
    exact ⟨d, by simpa using h1, h2⟩
theorem RpL.app : ∀ {vs ws : List V} {ds es : List PyData}, RpL K S H vs ds → RpL K S H ws es → RpL K S H (vs ++ ws) (ds ++ es)
  | _, _, _, _, .nil, s => s
  | _, _, _, _, .cons h r, s => .cons h (RpL.app r s)
theorem RpL.take : ∀ {vs : List V} {ds : List PyData} (n : Nat), RpL K S H vs ds → RpL K S H (vs.take n) (ds.take n)
  | _, _, 0, _ => .nil
  | _, _, _ + 1, .nil => .nil
  | _, _, n + 1, .cons h r => .cons h (RpL.take n r)
theorem RpL.drop : ∀ {vs : List V} {ds : List PyData} (n : Nat), RpL K S H vs ds → RpL K S H (vs.drop n) (ds.drop n)
  | _, _, 0, r => r
  | _, _, _ + 1, .nil => .nil
  | _, _, n + 1, .cons _ r => RpL.drop n r
theorem RpL.set {v : V} {d : PyData} (h : Rp K S H v d) : ∀ {vs : List V} {ds : List PyData} (i : Nat), RpL K S H vs ds → RpL K S H (vs.set i v) (ds.set i d)
  | _, _, _, .nil => .nil
  | _, _, 0, .cons _ r => .cons h r
  | _, _, i + 1, .cons q r => .cons q (RpL.set h i r)
theorem RpL.erase : ∀ {vs : List V} {ds : List PyData} (i : Nat), RpL K S H vs ds → RpL K S H (vs.eraseIdx i) (ds.eraseIdx i)
  | _, _, _, .nil => .nil
  | _, _, 0, .cons _ r => r
  | _, _, i + 1, .cons q r => .cons q (RpL.erase i r)
theorem RpL.rev : ∀ {vs : List V} {ds : List PyData}, RpL K S H vs ds → RpL K S H vs.reverse ds.reverse
  | _, _, .nil => .nil
  | _, _, .cons h r => by
    rw [List.reverse_cons, List.reverse_cons]
    exact (RpL.rev r).app (.cons h .nil)
theorem RpL.ints : ∀ ns : List Int, RpL K S H (ns.map V.int) (ns.map PyData.int)
  | [] => .nil
  | n :: ns => .cons (.int n) (RpL.ints ns)
theorem RpL.strs : ∀ ns : List Str, RpL K S H (ns.map V.str) (ns.map PyData.str)
  | [] => .nil
  | n :: ns => .cons (.str n) (RpL.strs ns)
end

/-! ### what is read at the top of a value, and what may be changed -/
def DT (K : PySem.W.Frag) (S : Addr → Prop) (H : Hp) (a : Addr) (kvs : List (PyData × PyData)) : Prop :=
  ∃ ts kvs', kvs = (.none, .none) :: kvs' ∧ H a = some (.dT ts) ∧ kvs'.map (·.1) = ts.map (fun p => PyData.tuple (p.1.map keyD)) ∧ RpL K S H (ts.map (·.2)) (kvs'.map (·.2))
theorem keyD_noM {ts : List (Key × V)} {kvs : List (PyData × PyData)} (h : kvs.map (·.1) = ts.map (fun p => keyD p.1)) : isM kvs = false := by
  cases kvs with
  | nil => rfl
  | cons p r =>
    cases ts with
    | nil => cases h
    | cons t ts =>
      obtain ⟨k, v⟩ := p
      obtain ⟨kt, vt⟩ := t
      rw [List.map_cons, List.map_cons] at h
      have h1 : k = keyD kt := (List.cons.inj h).1
      rw [h1]
      cases kt <;> rfl
/-- the list or dict at a, as it stands (ex: not under a lock) -/
def TopX (K : PySem.W.Frag) (S : Addr → Prop) (H : Hp) (a : Addr) : PyData → Prop
  | .list ds => ∃ vs, H a = some (.lst vs) ∧ RpL K S H vs ds
  | .dict kvs => (∃ ts, H a = some (.dK ts) ∧ kvs.map (·.1) = ts.map (fun p => keyD p.1) ∧ RpL K S H (ts.map (·.2)) (kvs.map (·.2))) ∨ DT K S H a kvs
  | _ => False
/-- .. or under a lock -/
def TopR (K : PySem.W.Frag) (S : Addr → Prop) (H : Hp) (a : Addr) : PyData → Prop
  | .list ds => ∃ vs, H a = some (.lst vs) ∧ RpL K S H vs ds
  | .dict kvs => (∃ ts, Rd H a (.dK ts) ∧ kvs.map (·.1) = ts.map (fun p => keyD p.1) ∧ RpL K S H (ts.map (·.2)) (kvs.map (·.2))) ∨ DT K S H a kvs
  | _ => False
/-- the value v may be read as d -/
def Rdb (K : PySem.W.Frag) (S : Addr → Prop) (H : Hp) (v : V) (d : PyData) : Prop := Rp K S H v d ∨ ∃ a, v = .ref a ∧ TopR K S H a d
section
variable {K : PySem.W.Frag} {S S' : Addr → Prop} {H H' : Hp} {a : Addr} {d : PyData}
theorem DT.up {kvs : List (PyData × PyData)} (u : Uph S H S' H') (e : ∀ o, H a = some o → H' a = some o) (h : DT K S H a kvs) : DT K S' H' a kvs := by
  obtain ⟨ts, kvs', h1, h2, h3, h4⟩ := h
  exact ⟨ts, kvs', h1, e _ h2, h3, h4.up u⟩
theorem TopX.r (h : TopX K S H a d) : TopR K S H a d := by
  cases d with
  | list ds => exact h
  | dict kvs =>
    rcases h with ⟨ts, h1, h2⟩ | h
    · exact .inl ⟨ts, .inl h1, h2⟩
    · exact .inr h
  | _ => exact h
theorem TopX.there (h : TopX K S H a d) : H a ≠ none := by
  cases d with
  | list ds => obtain ⟨vs, h1, _⟩ := h; rw [h1]; simp
  | dict kvs =>
    rcases h with ⟨ts, h1, _⟩ | ⟨ts, _, _, h1, _⟩
    · rw [h1]; simp
    · rw [h1]; simp
  | _ => exact h.elim
theorem TopR.there (h : TopR K S H a d) : H a ≠ none := by
  cases d with
  | list ds => obtain ⟨vs, h1, _⟩ := h; rw [h1]; simp
  | dict kvs =>
    rcases h with ⟨ts, h1, _⟩ | ⟨ts, _, _, h1, _⟩
    · rcases h1 with h1 | ⟨o, h1⟩ <;> rw [h1] <;> simp
    · rw [h1]; simp
  | _ => exact h.elim
theorem TopX.up (u : Uph S H S' H') (e : ∀ o, H a = some o → H' a = some o) (h : TopX K S H a d) : TopX K S' H' a d := by
  cases d with
  | list ds => obtain ⟨vs, h1, h2⟩ := h; exact ⟨vs, e _ h1, h2.up u⟩
  | dict kvs =>
    rcases h with ⟨ts, h1, h2, h3⟩ | h
    · exact .inl ⟨ts, e _ h1, h2, h3.up u⟩
    · exact .inr (h.up u e)
  | _ => exact h.elim
theorem TopR.up (u : Uph S H S' H') (e : ∀ o, H a = some o → H' a = some o) (h : TopR K S H a d) : TopR K S' H' a d := by
  cases d with
  | list ds => obtain ⟨vs, h1, h2⟩ := h; exact ⟨vs, e _ h1, h2.up u⟩
  | dict kvs =>
    rcases h with ⟨ts, h1, h2, h3⟩ | h
    · refine .inl ⟨ts, ?_, h2, h3.up u⟩
      rcases h1 with h1 | ⟨o, h1⟩
      · exact .inl (e _ h1)
      · exact .inr ⟨o, e _ h1⟩
    · exact .inr (h.up u e)
  | _ => exact h.elim
/-- given away: it is shared from now on -/
theorem TopX.give (h : TopX K S H a d) : Rp K (fun b => S b ∨ b = a) H (.ref a) d := by
  have u : Uph S H (fun b => S b ∨ b = a) H := ⟨fun _ h => .inl h, fun _ _ _ h => h⟩
  cases d with
  | list ds => obtain ⟨vs, h1, h2⟩ := h; exact .lst (.inr rfl) h1 (h2.up u)
  | dict kvs =>
    rcases h with ⟨ts, h1, h2, h3⟩ | ⟨ts, kvs', rfl, h1, h2, h3⟩
    · exact .dct (.inr rfl) (.inl h1) h2 (h3.up u)
    · exact .dctT (.inr rfl) h1 h2 (h3.up u)
  | _ => exact h.elim
end

/-! ### the frame's state -/
def Stt.hold : Stt → Bool
  | .own => true | .lent => true | .bor => true | _ => false
def Stt.mut : Stt → Bool
  | .own => true | .lent => true | _ => false
def KLst (K : PySem.W.Frag) (H : Hp) (a : Addr) (ns : List Int) : Prop := SqL K H a (ns.map V.int) ∧ ((∃ o, H a = some (.frz o (.lst (ns.map V.int)))) ∨ ∀ H', SqL K H' a (ns.map V.int))
def SlotRep (K : PySem.W.Frag) (S : Addr → Prop) (H : Hp) (v : V) (d : PyData) : Stt → Prop
  | .shr => Rp K S H v d
  | .own => ∃ a, v = .ref a ∧ ¬ S a ∧ TopX K S H a d
  | .lent => ∃ a, v = .ref a ∧ ¬ S a ∧ TopX K S H a d
  | .bor => ∃ a, v = .ref a ∧ ¬ S a ∧ TopR K S H a d
  | .scr => ∃ a ns, v = .ref a ∧ d = .list (ns.map PyData.int) ∧ KLst K H a ns
/-- the object at a may change: an owned or lent slot holds it -/
def Mu (ρ : Rho) (σ : St) (a : Addr) : Prop := ∃ (i : Nat) (st : Stt) (d : PyData), ρ[i]? = some (some (st, d)) ∧ st.mut = true ∧ σ[i]? = some (some (V.ref a))
structure Gd (K : PySem.W.Frag) (S : Addr → Prop) (ρ : Rho) (σ : St) (H : Hp) : Prop where
  len : ρ.length = σ.length
  sl : ∀ (i : Nat) (st : Stt) (d : PyData), ρ[i]? = some (some (st, d)) → ∃ v, σ[i]? = some (some v) ∧ SlotRep K S H v d st
  ne : ∀ (i j : Nat) (a : Addr) (st : Stt) (d : PyData) (st' : Stt) (d' : PyData), ρ[i]? = some (some (st, d)) → ρ[j]? = some (some (st', d')) → st.hold = true → st'.hold = true → σ[i]? = some (some (V.ref a)) → σ[j]? = some (some (V.ref a)) → i = j
  al : ∀ a, S a → H a ≠ none
/-- how a state stands behind another one, the slots' values the same -/
structure Fm (S : Addr → Prop) (ρ : Rho) (σ : St) (H : Hp) (S' : Addr → Prop) (ρ' : Rho) (H' : Hp) : Prop where
  dom : ∀ a, H a ≠ none → H' a ≠ none
  keep : ∀ a o, H a = some o → ¬ Mu ρ σ a → H' a = some o
  sh : ∀ a, S a → S' a
  new : ∀ a, S' a → S a ∨ Mu ρ σ a ∨ H a = none
  len : ρ'.length = ρ.length
  non : ∀ i : Nat, ρ[i]? = some none → ρ'[i]? = some none
  sts : ∀ (i : Nat) (st : Stt) (d : PyData), ρ[i]? = some (some (st, d)) → ∃ st' d', ρ'[i]? = some (some (st', d')) ∧ (st' = st ∨ (st = .own ∧ st' = .shr)) ∧ (st.mut = false → d' = d)

section
variable {K : PySem.W.Frag} {S S' S'' : Addr → Prop} {ρ ρ' ρ'' : Rho} {σ : St} {H H' H'' : Hp} {a : Addr}
theorem Gd.notMu (g : Gd K S ρ σ H) (h : S a) : ¬ Mu ρ σ a := by
  rintro ⟨i, st, d, h1, h2, h3⟩
  obtain ⟨v, e, r⟩ := g.sl i st d h1
  rw [h3] at e; cases e
  cases st with
  | own => obtain ⟨b, e, n, _⟩ := r; cases e; exact n h
  | lent => obtain ⟨b, e, n, _⟩ := r; cases e; exact n h
  | _ => cases h2
theorem Mu.there (g : Gd K S ρ σ H) (h : Mu ρ σ a) : H a ≠ none := by
  obtain ⟨i, st, d, h1, h2, h3⟩ := h
  obtain ⟨v, e, r⟩ := g.sl i st d h1
  rw [h3] at e; cases e
  cases st with
  | own => obtain ⟨b, e, _, t⟩ := r; cases e; exact TopX.there t
  | lent => obtain ⟨b, e, _, t⟩ := r; cases e; exact TopX.there t
  | _ => cases h2
theorem Fm.up (g : Gd K S ρ σ H) (f : Fm S ρ σ H S' ρ' H') : Uph S H S' H' := ⟨f.sh, fun a o hs e => f.keep a o e (g.notMu hs)⟩
theorem Fm.refl : Fm S ρ σ H S ρ H := ⟨fun _ h => h, fun _ _ h _ => h, fun _ h => h, fun _ h => .inl h, rfl, fun _ h => h, fun i st d h => ⟨st, d, h, .inl rfl, fun _ => rfl⟩⟩
theorem Fm.back (f : Fm S ρ σ H S' ρ' H') {i : Nat} {st' : Stt} {d' : PyData} (h : ρ'[i]? = some (some (st', d'))) : ∃ st d, ρ[i]? = some (some (st, d)) ∧ (st' = st ∨ (st = .own ∧ st' = .shr)) ∧ (st.mut = false → d' = d) := by
  have hl := (List.getElem?_eq_some_iff.mp h).1
  rw [f.len] at hl
  cases e : ρ[i]? with
  | none => rw [List.getElem?_eq_none_iff] at e; omega
  | some x =>
    cases x with
    | none => have := f.non i e; rw [h] at this; cases this
    | some p =>
      obtain ⟨st, d⟩ := p
      obtain ⟨st2, d2, h2, h3, h4⟩ := f.sts i st d e
      rw [h] at h2; cases h2
      exact ⟨st, d, rfl, h3, h4⟩
theorem Fm.mu (f : Fm S ρ σ H S' ρ' H') (h : Mu ρ' σ a) : Mu ρ σ a := by
  obtain ⟨i, st', d', h1, h2, h3⟩ := h
  obtain ⟨st, d, e, q, _⟩ := f.back h1
  refine ⟨i, st, d, e, ?_, h3⟩
  rcases q with q | ⟨_, q⟩
  · rw [← q]; exact h2
  · rw [q] at h2; cases h2
theorem Fm.trans (f : Fm S ρ σ H S' ρ' H') (f' : Fm S' ρ' σ H' S'' ρ'' H'') : Fm S ρ σ H S'' ρ'' H'' where
  dom := fun a h => f'.dom a (f.dom a h)
  keep := fun a o e n => f'.keep a o (f.keep a o e n) fun m => n (f.mu m)
  sh := fun a h => f'.sh a (f.sh a h)
  new := fun a h => by
    rcases f'.new a h with h | h | h
    · exact f.new a h
    · exact .inr (.inl (f.mu h))
    · refine .inr (.inr ?_)
      cases e : H a with
      | none => rfl
      | some o => exact absurd h (f.dom a (by rw [e]; simp))
  len := f'.len.trans f.len
  non := fun i h => f'.non i (f.non i h)
  sts := fun i st d h => by
    obtain ⟨st1, d1, h1, q1, m1⟩ := f.sts i st d h
    obtain ⟨st2, d2, h2, q2, m2⟩ := f'.sts i st1 d1 h1
    refine ⟨st2, d2, h2, ?_, fun m => ?_⟩
    · rcases q1 with rfl | ⟨rfl, rfl⟩
      · exact q2
      · rcases q2 with rfl | ⟨q, _⟩
        · exact .inr ⟨rfl, rfl⟩
        · cases q
    · have hd := m1 m
      rcases q1 with rfl | ⟨rfl, rfl⟩
      · rw [m2 m, hd]
      · cases m
end

/-! ### the heap grows -/
/-- only new objects; some of them are shared -/
structure Gw (S : Addr → Prop) (H : Hp) (S' : Addr → Prop) (H' : Hp) : Prop where
  keep : ∀ a o, H a = some o → H' a = some o
  sh : ∀ a, S a → S' a
  new : ∀ a, S' a → S a ∨ H a = none
  al : ∀ a, S' a → H' a ≠ none
section
variable {K : PySem.W.Frag} {S S' S'' : Addr → Prop} {ρ ρ' ρ'' : Rho} {σ : St} {H H' H'' : Hp} {a : Addr}
theorem Gw.refl (al : ∀ a, S a → H a ≠ none) : Gw S H S H := ⟨fun _ _ h => h, fun _ h => h, fun _ h => .inl h, al⟩
theorem Gw.up (e : Gw S H S' H') : Uph S H S' H' := ⟨e.sh, fun a o _ h => e.keep a o h⟩
theorem Gw.dom (e : Gw S H S' H') (a : Addr) (h : H a ≠ none) : H' a ≠ none := by
  cases q : H a with
  | none => exact absurd q h
  | some o => rw [e.keep a o q]; simp
theorem Gw.trans (e : Gw S H S' H') (e' : Gw S' H' S'' H'') : Gw S H S'' H'' where
  keep := fun a o h => e'.keep a o (e.keep a o h)
  sh := fun a h => e'.sh a (e.sh a h)
  new := fun a h => by
    rcases e'.new a h with h | h
    · exact e.new a h
    · refine .inr ?_
      cases q : H a with
      | none => rfl
      | some o => rw [e.keep a o q] at h; cases h
  al := e'.al
theorem Gw.fr (e : Gw S H S' H') : Fm S ρ σ H S' ρ H' := ⟨e.dom, fun a o h _ => e.keep a o h, e.sh, fun a h => (e.new a h).imp_right .inr, rfl, fun _ h => h, fun i st d h => ⟨st, d, h, .inl rfl, fun _ => rfl⟩⟩
theorem KLst.keep {ns : List Int} (k : ∀ o, H a = some (.frz o (.lst (ns.map V.int))) → H' a = some (.frz o (.lst (ns.map V.int)))) (h : KLst K H a ns) : KLst K H' a ns := by
  obtain ⟨h1, h2 | h2⟩ := h
  · obtain ⟨o, h2⟩ := h2
    exact ⟨.inl (.inr ⟨o, k o h2⟩), .inl ⟨o, k o h2⟩⟩
  · exact ⟨h2 H', .inr h2⟩
theorem SlotRep.ext {v : V} {d : PyData} {st : Stt} (e : Gw S H S' H') (h : SlotRep K S H v d st) : SlotRep K S' H' v d st := by
  have nS : ∀ a, H a ≠ none → ¬ S a → ¬ S' a := fun a hs n h' => (e.new a h').elim n hs
  cases st with
  | shr => exact Rp.up e.up h
  | own => obtain ⟨a, rfl, n, t⟩ := h; exact ⟨a, rfl, nS a (TopX.there t) n, TopX.up e.up (e.keep a) t⟩
  | lent => obtain ⟨a, rfl, n, t⟩ := h; exact ⟨a, rfl, nS a (TopX.there t) n, TopX.up e.up (e.keep a) t⟩
  | bor => obtain ⟨a, rfl, n, t⟩ := h; exact ⟨a, rfl, nS a (TopR.there t) n, TopR.up e.up (e.keep a) t⟩
  | scr => obtain ⟨a, ns, rfl, e1, k⟩ := h; exact ⟨a, ns, rfl, e1, KLst.keep (fun o => e.keep a _) k⟩
theorem Gd.ext (g : Gd K S ρ σ H) (e : Gw S H S' H') : Gd K S' ρ σ H' :=
  ⟨g.len, fun i st d h => let ⟨v, h1, h2⟩ := g.sl i st d h; ⟨v, h1, h2.ext e⟩, g.ne, e.al⟩
/-- an object laid, shared -/
theorem Gw.layS (g : ∀ a, S a → H a ≠ none) {p : Addr} {o : HO} (hp : H p = none) : Gw S H (fun b => S b ∨ b = p) (upd H p o) where
  keep := fun a q h => by rw [upd_ne (ne_of_none h hp)]; exact h
  sh := fun _ h => .inl h
  new := fun a h => h.elim .inl fun e => .inr (by rw [e]; exact hp)
  al := fun a h => by
    rcases h with h | h
    · by_cases e : a = p
      · rw [e, upd_same]; simp
      · rw [upd_ne e]; exact g a h
    · rw [h, upd_same]; simp
/-- an object laid, not shared -/
theorem Gw.lay (g : ∀ a, S a → H a ≠ none) {p : Addr} {o : HO} (hp : H p = none) : Gw S H S (upd H p o) where
  keep := fun a q h => by rw [upd_ne (ne_of_none h hp)]; exact h
  sh := fun _ h => h
  new := fun a h => .inl h
  al := fun a h => by
    by_cases e : a = p
    · rw [e, upd_same]; simp
    · rw [upd_ne e]; exact g a h
end
end PyI

/-! PyI, part B: results, the readings by the evaluator, names, constants, operators. -/
namespace PyI
open PySem PySem.Spec L2

/-! ### the evaluator's small pieces -/
def bindM {α β : Type} (f : Mo α) (g : α → Mo β) : Mo β := fun ρ => match f ρ with
  | some (a, ρ') => g a ρ'
  | none => none
def retM {α : Type} (a : α) : Mo α := fun ρ => some (a, ρ)
def optM {α : Type} (o : Option α) : Mo α := fun ρ => match o with
  | some a => some (a, ρ)
  | none => none
theorem bindM_some {α β : Type} {f : Mo α} {g : α → Mo β} {ρ : Rho} {x : β × Rho} (h : bindM f g ρ = some x) : ∃ a ρ', f ρ = some (a, ρ') ∧ g a ρ' = some x := by
  unfold bindM at h
  cases e : f ρ with
  | none => rw [e] at h; cases h
  | some p => rw [e] at h; exact ⟨p.1, p.2, rfl, h⟩
theorem optM_some {α : Type} {o : Option α} {ρ : Rho} {x : α × Rho} (h : optM o ρ = some x) : o = some x.1 ∧ x.2 = ρ := by
  unfold optM at h
  cases o with
  | none => cases h
  | some a => cases h; exact ⟨rfl, rfl⟩
theorem retM_some {α : Type} {a : α} {ρ : Rho} {x : α × Rho} (h : retM a ρ = some x) : x = (a, ρ) := (Option.some.inj h).symm
/-- the data of a result, now -/
def rdR (r : Rs) : Mo PyData := fun ρ => match r with
  | .kept d => some (d, ρ)
  | .fresh d => some (d, ρ)
  | .slot i => match ρ[i]? with
    | some (some (.scr, _)) => none
    | some (some (_, d)) => some (d, ρ)
    | _ => none
/-- .. handed on: it is shared from now on -/
def keepR (r : Rs) : Mo PyData := fun ρ => match r with
  | .kept d => some (d, ρ)
  | .fresh d => some (d, ρ)
  | .slot i => match ρ[i]? with
    | some (some (.shr, d)) => some (d, ρ)
    | some (some (.own, d)) => some (d, ρ.set i (some (.shr, d)))
    | _ => none
def keepL : List Rs → Mo (List PyData)
  | [] => retM []
  | r :: rs => bindM (keepR r) fun d => bindM (keepL rs) fun ds => retM (d :: ds)
/-- a new value -/
def resN : PyData → Rs
  | .list ds => .fresh (.list ds)
  | .dict ds => .fresh (.dict ds)
  | d => .kept d

/-! ### results -/
/-- v is the result r; a new object was none at H0 -/
def RR (K : PySem.W.Frag) (H0 : Hp) (S : Addr → Prop) (H : Hp) (ρ : Rho) (σ : L2.St) (v : V) : Rs → Prop
  | .kept d => Rp K S H v d
  | .fresh d => ∃ a, v = .ref a ∧ H0 a = none ∧ ¬ S a ∧ TopX K S H a d
  | .slot i => σ[i]? = some (some v) ∧ ∃ p, ρ[i]? = some (some p)
inductive RRL (K : PySem.W.Frag) (H0 : Hp) (S : Addr → Prop) (H : Hp) (ρ : Rho) (σ : L2.St) : List V → List Rs → Prop
  | nil : RRL K H0 S H ρ σ [] []
  | cons {v : V} {vs : List V} {r : Rs} {rs : List Rs} : RR K H0 S H ρ σ v r → RRL K H0 S H ρ σ vs rs → RRL K H0 S H ρ σ (v :: vs) (r :: rs)
/-- from the start (S0, ρ0, H0) to now -/
structure Now (K : PySem.W.Frag) (σ : L2.St) (S0 : Addr → Prop) (ρ0 : Rho) (H0 : Hp) (S : Addr → Prop) (ρ : Rho) (H : Hp) : Prop where
  g0 : Gd K S0 ρ0 σ H0
  f : Fm S0 ρ0 σ H0 S ρ H
  g : Gd K S ρ σ H
section
variable {K : PySem.W.Frag} {S0 S S' S'' : Addr → Prop} {ρ0 ρ ρ' ρ'' : Rho} {σ : L2.St} {H0 H H' H'' : Hp} {a : Addr} {v : V} {r : Rs} {d : PyData}
theorem Now.start (g : Gd K S ρ σ H) : Now K σ S ρ H S ρ H := ⟨g, Fm.refl, g⟩
theorem Now.step (n : Now K σ S0 ρ0 H0 S ρ H) (f : Fm S ρ σ H S' ρ' H') (g : Gd K S' ρ' σ H') : Now K σ S0 ρ0 H0 S' ρ' H' := ⟨n.g0, n.f.trans f, g⟩
theorem Now.grow (n : Now K σ S0 ρ0 H0 S ρ H) (e : Gw S H S' H') : Now K σ S0 ρ0 H0 S' ρ H' := n.step e.fr (n.g.ext e)
theorem Now.mu0 (n : Now K σ S0 ρ0 H0 S ρ H) (m : Mu ρ σ a) : H0 a ≠ none := Mu.there n.g0 (n.f.mu m)
theorem Now.none0 (n : Now K σ S0 ρ0 H0 S ρ H) (h : H a = none) : H0 a = none := by
  cases e : H0 a with
  | none => rfl
  | some o => exact absurd h (n.f.dom a (by rw [e]; simp))
theorem RR.fm (n : Now K σ S0 ρ0 H0 S ρ H) (f : Fm S ρ σ H S' ρ' H') (h : RR K H0 S H ρ σ v r) : RR K H0 S' H' ρ' σ v r := by
  cases r with
  | kept d => exact Rp.up (f.up n.g) h
  | fresh d =>
    obtain ⟨a, rfl, h0, ns, t⟩ := h
    have nm : ¬ Mu ρ σ a := fun m => n.mu0 m h0
    refine ⟨a, rfl, h0, fun s' => ?_, TopX.up (f.up n.g) (fun o e => f.keep a o e nm) t⟩
    rcases f.new a s' with z | z | z
    · exact ns z
    · exact nm z
    · exact TopX.there t z
  | slot i =>
    obtain ⟨h1, ⟨st, d⟩, h2⟩ := h
    obtain ⟨st', d', h3, _⟩ := f.sts i st d h2
    exact ⟨h1, _, h3⟩
theorem RR.pre (n : Now K σ S0 ρ0 H0 S ρ H) (h : RR K H S' H' ρ' σ v r) : RR K H0 S' H' ρ' σ v r := by
  cases r with
  | kept d => exact h
  | fresh d => obtain ⟨a, e, h0, ns, t⟩ := h; exact ⟨a, e, n.none0 h0, ns, t⟩
  | slot i => exact h
theorem RR.grow (e : Gw S H S' H') (h : RR K H0 S H ρ σ v r) : RR K H0 S' H' ρ σ v r := by
  cases r with
  | kept d => exact Rp.up e.up h
  | fresh d => 
    obtain ⟨a, rfl, h0, ns, t⟩ := h
    exact ⟨a, rfl, h0, fun s' => (e.new a s').elim ns (TopX.there t), TopX.up e.up (e.keep a) t⟩
  | slot i => exact h
theorem RRL.fm (n : Now K σ S0 ρ0 H0 S ρ H) (f : Fm S ρ σ H S' ρ' H') : ∀ {vs : List V} {rs : List Rs}, RRL K H0 S H ρ σ vs rs → RRL K H0 S' H' ρ' σ vs rs
  | _, _, .nil => .nil
  | _, _, .cons h t => .cons (h.fm n f) (RRL.fm n f t)
theorem RRL.pre (n : Now K σ S0 ρ0 H0 S ρ H) : ∀ {vs : List V} {rs : List Rs}, RRL K H S' H' ρ' σ vs rs → RRL K H0 S' H' ρ' σ vs rs
  | _, _, .nil => .nil
  | _, _, .cons h t => .cons (h.pre n) (RRL.pre n t)
theorem RRL.len : ∀ {vs : List V} {rs : List Rs}, RRL K H0 S H ρ σ vs rs → vs.length = rs.length
  | _, _, .nil => rfl
  | _, _, .cons _ t => by rw [List.length_cons, List.length_cons, t.len]
/-- a result is read -/
theorem RR.rd (g : Gd K S ρ σ H) (h : RR K H0 S H ρ σ v r) (e : rdR r ρ = some (d, ρ')) : Rdb K S H v d ∧ ρ' = ρ := by
  cases r with
  | kept d' => cases e; exact ⟨.inl h, rfl⟩
  | fresh d' =>
    cases e
    obtain ⟨a, rfl, _, _, t⟩ := h
    exact ⟨.inr ⟨a, rfl, t.r⟩, rfl⟩
  | slot i =>
    obtain ⟨h1, ⟨st, d'⟩, h2⟩ := h
    unfold rdR at e
    simp only [h2] at e
    obtain ⟨v', e', q⟩ := g.sl i st d' h2
    rw [h1] at e'; cases e'
    cases st with
    | shr => cases e; exact ⟨.inl q, rfl⟩
    | own => cases e; obtain ⟨a, e2, _, t⟩ := q; exact ⟨.inr ⟨a, e2, TopX.r t⟩, rfl⟩
    | lent => cases e; obtain ⟨a, e2, _, t⟩ := q; exact ⟨.inr ⟨a, e2, TopX.r t⟩, rfl⟩
    | bor => cases e; obtain ⟨a, e2, _, t⟩ := q; exact ⟨.inr ⟨a, e2, t⟩, rfl⟩
    | scr => cases e
theorem mem_set_slot {i j : Nat} {x y : Option (Stt × PyData)} (h : (ρ.set i x)[j]? = some y) : (j = i ∧ y = x) ∨ (j ≠ i ∧ ρ[j]? = some y) := by
  by_cases e : j = i
  · subst e
    rw [List.getElem?_set] at h
    split at h
    · split at h
      · cases h; exact .inl ⟨rfl, rfl⟩
      · cases h
    · rename_i z; exact absurd rfl z
  · rw [List.getElem?_set_ne (Ne.symm e)] at h
    exact .inr ⟨e, h⟩
/-- more is shared: a set of places that no slot holds -/
theorem Gd.share (g : Gd K S ρ σ H) (n : ∀ (i : Nat) (st : Stt) (d : PyData) (b : Addr), ρ[i]? = some (some (st, d)) → st.hold = true → σ[i]? = some (some (V.ref b)) → S' b → S b) (sh : ∀ b, S b → S' b) (al : ∀ b, S' b → H b ≠ none) : Gd K S' ρ σ H := by
  have u : Uph S H S' H := ⟨sh, fun _ _ _ h => h⟩
  refine ⟨g.len, fun i st d h => ?_, g.ne, al⟩
  obtain ⟨v, h1, h2⟩ := g.sl i st d h
  refine ⟨v, h1, ?_⟩
  cases st with
  | shr => exact Rp.up u h2
  | own => obtain ⟨a, rfl, ns, t⟩ := h2; exact ⟨a, rfl, fun z => ns (n i _ d a h rfl h1 z), TopX.up u (fun _ e => e) t⟩
  | lent => obtain ⟨a, rfl, ns, t⟩ := h2; exact ⟨a, rfl, fun z => ns (n i _ d a h rfl h1 z), TopX.up u (fun _ e => e) t⟩
  | bor => obtain ⟨a, rfl, ns, t⟩ := h2; exact ⟨a, rfl, fun z => ns (n i _ d a h rfl h1 z), TopR.up u (fun _ e => e) t⟩
  | scr => exact h2
theorem Gd.held (g : Gd K S ρ σ H) {i : Nat} {st : Stt} (h : ρ[i]? = some (some (st, d))) (hh : st.hold = true) (hv : σ[i]? = some (some (V.ref a))) : H a ≠ none := by
  obtain ⟨v, h1, h2⟩ := g.sl i st d h
  rw [hv] at h1; cases h1
  cases st with
  | own => obtain ⟨b, e, _, t⟩ := h2; cases e; exact TopX.there t
  | lent => obtain ⟨b, e, _, t⟩ := h2; cases e; exact TopX.there t
  | bor => obtain ⟨b, e, _, t⟩ := h2; cases e; exact TopR.there t
  | _ => cases hh
theorem Fm.held (f : Fm S ρ σ H S' ρ' H') {i : Nat} {st : Stt} (h : ρ'[i]? = some (some (st, d))) (hh : st.hold = true) : ∃ d', ρ[i]? = some (some (st, d')) := by
  obtain ⟨st0, d0, h0, q, _⟩ := f.back h
  rcases q with rfl | ⟨rfl, rfl⟩
  · exact ⟨d0, h0⟩
  · cases hh
/-- the same, where the new object may be shared already -/
def RRw (K : PySem.W.Frag) (H0 : Hp) (S : Addr → Prop) (H : Hp) (ρ : Rho) (σ : L2.St) (v : V) : Rs → Prop
  | .kept d => Rp K S H v d
  | .fresh d => ∃ a, v = .ref a ∧ H0 a = none ∧ TopX K S H a d
  | .slot i => σ[i]? = some (some v) ∧ ∃ p, ρ[i]? = some (some p)
theorem RR.w (h : RR K H0 S H ρ σ v r) : RRw K H0 S H ρ σ v r := by
  cases r with
  | kept d => exact h
  | fresh d => obtain ⟨a, h1, h2, _, h3⟩ := h; exact ⟨a, h1, h2, h3⟩
  | slot i => exact h
/-- handed on -/
theorem RRw.keep (n : Now K σ S0 ρ0 H0 S ρ H) (h : RRw K H0 S H ρ σ v r) (e : keepR r ρ = some (d, ρ')) : ∃ S', Now K σ S0 ρ0 H0 S' ρ' H ∧ Rp K S' H v d ∧ (∀ b, S b → S' b) := by
  cases r with
  | kept d' => cases e; exact ⟨S, n, h, fun _ h => h⟩
  | fresh d' =>
    cases e
    obtain ⟨a, rfl, h0, t⟩ := h
    refine ⟨fun b => S b ∨ b = a, ⟨n.g0, ⟨n.f.dom, n.f.keep, fun b hb => .inl (n.f.sh b hb), fun b hb => ?_, n.f.len, n.f.non, n.f.sts⟩, n.g.share (fun i st d b h1 h2 h3 hb => ?_) (fun _ h => .inl h) fun b hb => ?_⟩, t.give, fun _ h => .inl h⟩
    · rcases hb with hb | rfl
      · exact n.f.new b hb
      · exact .inr (.inr h0)
    · rcases hb with hb | rfl
      · exact hb
      · obtain ⟨d', h1'⟩ := n.f.held h1 h2
        exact absurd h0 (n.g0.held h1' h2 h3)
    · rcases hb with hb | rfl
      · exact n.g.al b hb
      · exact TopX.there t
  | slot i =>
    obtain ⟨h1, ⟨st, d'⟩, h2⟩ := h
    unfold keepR at e
    simp only [h2] at e
    obtain ⟨v', e', q⟩ := n.g.sl i st d' h2
    rw [h1] at e'; cases e'
    cases st with
    | shr => cases e; exact ⟨S, n, q, fun _ h => h⟩
    | own =>
      cases e
      obtain ⟨a, rfl, ns, t⟩ := q
      have hi : i < ρ.length := (List.getElem?_eq_some_iff.mp h2).1
      have u : Uph S H (fun b => S b ∨ b = a) H := ⟨fun _ h => .inl h, fun _ _ _ h => h⟩
      refine ⟨fun b => S b ∨ b = a, ⟨n.g0, ⟨n.f.dom, n.f.keep, fun b hb => .inl (n.f.sh b hb), fun b hb => ?_, by rw [List.length_set]; exact n.f.len, fun j hj => ?_, fun j st d hj => ?_⟩, ⟨by rw [List.length_set]; exact n.g.len, fun j st d hj => ?_, fun j k b st d st' d' hj hk ha hb hvj hvk => ?_, fun b hb => ?_⟩⟩, t.give, fun _ h => .inl h⟩
      · rcases hb with hb | rfl
        · exact n.f.new b hb
        · exact .inr (.inl (n.f.mu ⟨i, .own, _, h2, rfl, h1⟩))
      · have hj' := n.f.non j hj
        have : j ≠ i := by rintro rfl; rw [h2] at hj'; cases hj'
        rw [List.getElem?_set_ne (Ne.symm this)]
        exact hj'
      · obtain ⟨st1, d1, h3, h4, h5⟩ := n.f.sts j st d hj
        by_cases hji : j = i
        · subst hji
          rw [h2] at h3; cases h3
          refine ⟨.shr, _, by rw [List.getElem?_set_self hi], ?_, h5⟩
          rcases h4 with rfl | ⟨rfl, z⟩
          · exact .inr ⟨rfl, rfl⟩
          · cases z
        · exact ⟨st1, d1, by rw [List.getElem?_set_ne (Ne.symm hji)]; exact h3, h4, h5⟩
      · rcases mem_set_slot hj with ⟨rfl, e1⟩ | ⟨hne, hj⟩
        · cases e1
          exact ⟨_, h1, t.give⟩
        · obtain ⟨w, h3, h4⟩ := n.g.sl j st d hj
          refine ⟨w, h3, ?_⟩
          have other : ∀ b, w = .ref b → st.hold = true → b ≠ a := fun b e1 hh e2 => hne (n.g.ne j i a st d .own _ hj h2 hh rfl (by rw [h3, e1, e2]) h1)
          cases st with
          | shr => exact Rp.up u h4
          | own => obtain ⟨b, rfl, ns', t'⟩ := h4; exact ⟨b, rfl, fun z => z.elim ns' (other b rfl rfl), TopX.up u (fun _ e => e) t'⟩
          | lent => obtain ⟨b, rfl, ns', t'⟩ := h4; exact ⟨b, rfl, fun z => z.elim ns' (other b rfl rfl), TopX.up u (fun _ e => e) t'⟩
          | bor => obtain ⟨b, rfl, ns', t'⟩ := h4; exact ⟨b, rfl, fun z => z.elim ns' (other b rfl rfl), TopR.up u (fun _ e => e) t'⟩
          | scr => exact h4
      · rcases mem_set_slot hj with ⟨rfl, e1⟩ | ⟨_, hj⟩
        · cases e1; cases ha
        · rcases mem_set_slot hk with ⟨rfl, e1⟩ | ⟨_, hk⟩
          · cases e1; cases hb
          · exact n.g.ne j k b st d st' _ hj hk ha hb hvj hvk
      · rcases hb with hb | rfl
        · exact n.g.al b hb
        · exact TopX.there t
    | _ => cases e
/-- keepR changes only the status of its slot -/
theorem keepR_fm (e : keepR r ρ = some (d, ρ')) : ρ' = ρ ∨ ∃ i, ρ[i]? = some (some (.own, d)) ∧ ρ' = ρ.set i (some (.shr, d)) := by
  cases r with
  | kept d' => cases e; exact .inl rfl
  | fresh d' => cases e; exact .inl rfl
  | slot i =>
    unfold keepR at e
    dsimp only at e
    split at e
    · cases e; exact .inl rfl
    · rename_i h; cases e; exact .inr ⟨i, h, rfl⟩
    · cases e
theorem RRw.mono {S' : Addr → Prop} (sh : ∀ b, S b → S' b) (hr : ∀ (i : Nat) p, ρ[i]? = some (some p) → ∃ q, ρ'[i]? = some (some q)) (h : RRw K H0 S H ρ σ v r) : RRw K H0 S' H ρ' σ v r := by
  have u : Uph S H S' H := ⟨sh, fun _ _ _ h => h⟩
  cases r with
  | kept d => exact Rp.up u h
  | fresh d => obtain ⟨a, h1, h2, h3⟩ := h; exact ⟨a, h1, h2, TopX.up u (fun _ e => e) h3⟩
  | slot i => obtain ⟨h1, p, h2⟩ := h; exact ⟨h1, hr i p h2⟩
theorem keepR_some (e : keepR r ρ = some (d, ρ')) (i : Nat) (p : Stt × PyData) (h : ρ[i]? = some (some p)) : ∃ q, ρ'[i]? = some (some q) := by
  rcases keepR_fm e with rfl | ⟨j, h1, rfl⟩
  · exact ⟨p, h⟩
  · by_cases hj : j = i
    · subst hj
      exact ⟨_, List.getElem?_set_self (List.getElem?_eq_some_iff.mp h).1⟩
    · exact ⟨p, by rw [List.getElem?_set_ne hj]; exact h⟩
inductive RRLw (K : PySem.W.Frag) (H0 : Hp) (S : Addr → Prop) (H : Hp) (ρ : Rho) (σ : L2.St) : List V → List Rs → Prop
  | nil : RRLw K H0 S H ρ σ [] []
  | cons {v : V} {vs : List V} {r : Rs} {rs : List Rs} : RRw K H0 S H ρ σ v r → RRLw K H0 S H ρ σ vs rs → RRLw K H0 S H ρ σ (v :: vs) (r :: rs)
theorem RRL.w : ∀ {vs : List V} {rs : List Rs}, RRL K H0 S H ρ σ vs rs → RRLw K H0 S H ρ σ vs rs
  | _, _, .nil => .nil
  | _, _, .cons h t => .cons h.w t.w
theorem RRLw.mono {S' : Addr → Prop} (sh : ∀ b, S b → S' b) (hr : ∀ (i : Nat) p, ρ[i]? = some (some p) → ∃ q, ρ'[i]? = some (some q)) : ∀ {vs : List V} {rs : List Rs}, RRLw K H0 S H ρ σ vs rs → RRLw K H0 S' H ρ' σ vs rs
  | _, _, .nil => .nil
  | _, _, .cons h t => .cons (h.mono sh hr) (RRLw.mono sh hr t)
theorem RRLw.keep : ∀ (rs : List Rs) {S : Addr → Prop} {ρ ρ' : Rho} {ds : List PyData} {vs : List V}, Now K σ S0 ρ0 H0 S ρ H → RRLw K H0 S H ρ σ vs rs → keepL rs ρ = some (ds, ρ') → ∃ S', Now K σ S0 ρ0 H0 S' ρ' H ∧ RpL K S' H vs ds ∧ (∀ b, S b → S' b)
  | [], S, ρ, ρ', ds, vs, n, h, e => by
    cases h
    cases retM_some e
    exact ⟨S, n, .nil, fun _ h => h⟩
  | r :: rs, S, ρ, ρ', ds, vs, n, h, e => by
    cases h with
    | cons h t =>
      obtain ⟨d, ρ1, e1, e2⟩ := bindM_some e
      obtain ⟨ds', ρ2, e3, e4⟩ := bindM_some e2
      cases retM_some e4
      obtain ⟨S1, n1, p1, sh1⟩ := h.keep n e1
      obtain ⟨S2, n2, p2, sh2⟩ := RRLw.keep rs n1 (t.mono sh1 (keepR_some e1)) e3
      exact ⟨S2, n2, .cons (Rp.up ⟨sh2, fun _ _ _ h => h⟩ p1) p2, fun b hb => sh2 b (sh1 b hb)⟩
end

/-! ### readings -/
def tD (K : PySem.W.Frag) (f : Mo Rs) : TE := fun σ H Q => ∃ S ρ r ρ', Gd K S ρ σ H ∧ f ρ = some (r, ρ') ∧ ∀ v S' H', Fm S ρ σ H S' ρ' H' → Gd K S' ρ' σ H' → RR K H S' H' ρ' σ v r → Q v H'
def tT (K : PySem.W.Frag) (f : Mo Bool) : TT := fun σ H Q => ∃ S ρ b ρ', Gd K S ρ σ H ∧ f ρ = some (b, ρ') ∧ ∀ S' H', Fm S ρ σ H S' ρ' H' → Gd K S' ρ' σ H' → Q b H'
def tA (K : PySem.W.Frag) (f : Mo (List Rs)) : TA := fun σ H Q => ∃ S ρ rs ρ', Gd K S ρ σ H ∧ f ρ = some (rs, ρ') ∧ ∀ vs S' H', Fm S ρ σ H S' ρ' H' → Gd K S' ρ' σ H' → RRL K H S' H' ρ' σ vs rs → Q vs H'
abbrev PD (X : Cx) (e : Expr) (f : Mo Rs) : Prop := PE X e (tD X.K f)
abbrev TD (X : Cx) (e : Expr) (f : Mo Bool) : Prop := PT X e (tT X.K f)
abbrev WD (X : Cx) (e : Expr) (f : Mo Bool) : Prop := PW X e (tT X.K f)
abbrev AD (X : Cx) (es : List Expr) (f : Mo (List Rs)) : Prop := PA X es (tA X.K f)
theorem PE.to {X : Cx} {e : Expr} {t t' : TE} (h : PE X e t) (i : ∀ σ H Q, t' σ H Q → t σ H Q) : PE X e t' := ⟨fun pins s σ H Q I q => h.run pins s σ H Q I (i σ H Q q)⟩
theorem PT.to {X : Cx} {e : Expr} {t t' : TT} (h : PT X e t) (i : ∀ σ H Q, t' σ H Q → t σ H Q) : PT X e t' := ⟨fun pins s σ H Q I q => h.run pins s σ H Q I (i σ H Q q)⟩
theorem PW.to {X : Cx} {e : Expr} {t t' : TT} (h : PW X e t) (i : ∀ σ H Q, t' σ H Q → t σ H Q) : PW X e t' := ⟨fun wh pins s σ H Q I q => h.run wh pins s σ H Q I (i σ H Q q)⟩
theorem PA.to {X : Cx} {e : List Expr} {t t' : TA} (h : PA X e t) (i : ∀ σ H Q, t' σ H Q → t σ H Q) : PA X e t' := ⟨fun pos pins s σ H Q I q => h.run pos pins s σ H Q I (i σ H Q q)⟩
theorem PS.to {X : Cx} {e : Stmt} {t t' : TS} (h : PS X e t) (i : ∀ D σ H, t' D σ H → t D σ H) : PS X e t' := ⟨fun pins s σ H D I q => h.run pins s σ H D I (i D σ H q)⟩
theorem PSs.to {X : Cx} {e : List Stmt} {t t' : TS} (h : PSs X e t) (i : ∀ D σ H, t' D σ H → t D σ H) : PSs X e t' := ⟨fun pins s σ H D I q => h.run pins s σ H D I (i D σ H q)⟩

/-! ### names and constants -/
def xV (i : Nat) : Mo Rs := fun ρ => match ρ[i]? with
  | some (some _) => some (.slot i, ρ)
  | _ => none
def xC (d : PyData) : Mo Rs := retM (.kept d)
section
variable {X : Cx} {pos : Pos}
theorem pd_v (i : Nat) {x : Str} (hN : X.N[i]? = some x := by rfl) (hv : Vis X.env.scope x := by first | exact Or.inl rfl | exact Or.inr (Or.inl rfl) | exact Or.inr (Or.inr rfl)) (hd : (x == ("__debug__" : Str)) = false := by decide)
    (hcd : (x == ("__classdict__" : Str)) = false := by decide) : PD X (.Name x pos) (xV i) := PE.to (pe_var hN hv hd hcd) fun σ H Q h => by
  obtain ⟨S, ρ, r, ρ', g, e, q⟩ := h
  unfold xV at e
  split at e
  · rename_i p hp
    cases e
    obtain ⟨st, d⟩ := p
    obtain ⟨v, h1, _⟩ := g.sl i st d hp
    exact ⟨v, h1, q v S H Fm.refl g ⟨h1, _, hp⟩⟩
  · cases e
theorem pd_of_tC {e : Expr} {v : V} {d : PyData} (h : PE X e (tC v)) (r : ∀ S H, Rp X.K S H v d) : PD X e (xC d) := PE.to h fun σ H Q h => by
  obtain ⟨S, ρ, r', ρ', g, e, q⟩ := h
  cases retM_some e
  exact q v S H Fm.refl g (r S H)
theorem pd_int {i j} : PD X (.Constant (.int i) j pos) (xC (.int i)) := pd_of_tC pe_int fun _ _ => .int i
theorem pd_bl {i j} : PD X (.Constant (.bool i) j pos) (xC (.bool i)) := pd_of_tC pe_bl fun _ _ => .bl i
theorem pd_non {j} : PD X (.Constant .none j pos) (xC .none) := pd_of_tC pe_non fun _ _ => .non
theorem pd_str {x j} : PD X (.Constant (.str x) j pos) (xC (.str x)) := pd_of_tC pe_str fun _ _ => .str x
end

/-! ### arguments -/
def aN : Mo (List Rs) := retM []
def aC (f : Mo Rs) (g : Mo (List Rs)) : Mo (List Rs) := bindM f fun r => bindM g fun rs => retM (r :: rs)
section
variable {X : Cx} {e : Expr} {es : List Expr} {f : Mo Rs} {g : Mo (List Rs)}
theorem ad_nil : AD X [] aN := PA.to pa_nil fun σ H Q h => by
  obtain ⟨S, ρ, r, ρ', g, e, q⟩ := h
  cases retM_some e
  exact q [] S H Fm.refl g .nil
theorem ad_cons (ha : PD X e f) (hr : AD X es g) (hs : starEach (e :: es) X.env = (false, eval e X.env) :: starEach es X.env := by rfl) : AD X (e :: es) (aC f g) := PA.to (pa_cons ha hr hs) fun σ H Q h => by
  obtain ⟨S, ρ, rs, ρ', G, e, q⟩ := h
  obtain ⟨r1, ρ1, e1, e2⟩ := bindM_some e
  obtain ⟨r2, ρ2, e3, e4⟩ := bindM_some e2
  cases retM_some e4
  refine ⟨S, ρ, r1, ρ1, G, e1, fun v S1 H1 F1 G1 R1 => ⟨S1, ρ1, r2, _, G1, e3, fun vs S2 H2 F2 G2 R2 => ?_⟩⟩
  have n1 : Now X.K σ S ρ H S1 ρ1 H1 := ⟨G, F1, G1⟩
  exact q (v :: vs) S2 H2 (F1.trans F2) G2 (.cons (R1.fm n1 F2) (R2.pre n1))
end

/-! ### operators -/
/-- a new value of data, from two values that are read -/
def rD (K : PySem.W.Frag) (op : PyData → PyData → Option PyData) : R2 := fun x y H Q => ∃ S d1 d2 d, (∀ a, S a → H a ≠ none) ∧ Rdb K S H x d1 ∧ Rdb K S H y d2 ∧ op d1 d2 = some d ∧
  ∀ v S' H', Gw S H S' H' → RR K H S' H' [] [] v (resN d) → Q v H'
/-- .. one that is within them (an item) -/
def rDi (K : PySem.W.Frag) (op : PyData → PyData → Option PyData) : R2 := fun x y H Q => ∃ S d1 d2 d, (∀ a, S a → H a ≠ none) ∧ Rdb K S H x d1 ∧ Rdb K S H y d2 ∧ op d1 d2 = some d ∧
  ∀ v S' H', Gw S H S' H' → Rp K S' H' v d → Q v H'
def x2 (f g : Mo Rs) (op : PyData → PyData → Option PyData) : Mo Rs := bindM f fun r1 => bindM g fun r2 => bindM (rdR r1) fun d1 => bindM (rdR r2) fun d2 => bindM (optM (op d1 d2)) fun d => retM (resN d)
def x2i (f g : Mo Rs) (op : PyData → PyData → Option PyData) : Mo Rs := bindM f fun r1 => bindM g fun r2 => bindM (rdR r1) fun d1 => bindM (rdR r2) fun d2 => bindM (optM (op d1 d2)) fun d => retM (.kept d)
theorem RR.new {K : PySem.W.Frag} {H0 H : Hp} {S : Addr → Prop} {ρ ρ' : Rho} {σ σ' : L2.St} {v : V} {d : PyData} (h : RR K H0 S H ρ σ v (resN d)) : RR K H0 S H ρ' σ' v (resN d) := by
  cases d <;> exact h
theorem rdR_same {r : Rs} {ρ ρ' : Rho} {d : PyData} (e : rdR r ρ = some (d, ρ')) : ρ' = ρ := by
  cases r with
  | kept d' => cases e; rfl
  | fresh d' => cases e; rfl
  | slot i =>
    unfold rdR at e
    dsimp only at e
    split at e
    · cases e
    · cases e; rfl
    · cases e
theorem x2_inv {f g : Mo Rs} {op : PyData → PyData → Option PyData} {k : PyData → Rs} {ρ ρ' : Rho} {r : Rs} (e : (bindM f fun r1 => bindM g fun r2 => bindM (rdR r1) fun d1 => bindM (rdR r2) fun d2 => bindM (optM (op d1 d2)) fun d => retM (k d)) ρ = some (r, ρ')) :
    ∃ r1 ρ1 r2 d1 d2 d, f ρ = some (r1, ρ1) ∧ g ρ1 = some (r2, ρ') ∧ rdR r1 ρ' = some (d1, ρ') ∧ rdR r2 ρ' = some (d2, ρ') ∧ op d1 d2 = some d ∧ r = k d := by
  obtain ⟨r1, ρ1, e1, a1⟩ := bindM_some e
  obtain ⟨r2, ρ2, e2, a2⟩ := bindM_some a1
  obtain ⟨d1, ρ3, e3, a3⟩ := bindM_some a2
  obtain ⟨d2, ρ4, e4, a4⟩ := bindM_some a3
  obtain ⟨d, ρ5, e5, a5⟩ := bindM_some a4
  obtain ⟨b1, b2⟩ := optM_some e5
  have c3 := rdR_same e3
  have c4 := rdR_same e4
  simp only at b1 b2
  subst c3
  subst c4
  subst b2
  cases retM_some a5
  exact ⟨r1, ρ1, r2, d1, d2, d, e1, e2, e3, e4, b1, rfl⟩
section
variable {K : PySem.W.Frag} {f g : Mo Rs} {op : PyData → PyData → Option PyData} {σ : L2.St} {H : Hp} {Q : VK}
theorem x2_ok (h : tD K (x2 f g op) σ H Q) : tOp (rD K op) (tD K f) (tD K g) σ H Q := by
  obtain ⟨S, ρ, r, ρ', G, e, q⟩ := h
  obtain ⟨r1, ρ1, r2, d1, d2, d, e1, e2, e3, e4, e5, rfl⟩ := x2_inv e
  refine ⟨S, ρ, r1, ρ1, G, e1, fun x S1 H1 F1 G1 R1 => ⟨S1, ρ1, r2, ρ', G1, e2, fun y S2 H2 F2 G2 R2 => ?_⟩⟩
  have n1 : Now K σ S ρ H S1 ρ1 H1 := ⟨G, F1, G1⟩
  have n2 : Now K σ S ρ H S2 ρ' H2 := n1.step F2 G2
  refine ⟨S2, d1, d2, d, G2.al, ((R1.fm n1 F2).rd G2 e3).1, (R2.rd G2 e4).1, e5, fun v S3 H3 E R => ?_⟩
  exact q v S3 H3 (n2.grow E).f (n2.grow E).g ((RR.new R : RR K H2 S3 H3 ρ' σ v (resN d)).pre n2)
theorem x2i_ok (h : tD K (x2i f g op) σ H Q) : tOp (rDi K op) (tD K f) (tD K g) σ H Q := by
  obtain ⟨S, ρ, r, ρ', G, e, q⟩ := h
  obtain ⟨r1, ρ1, r2, d1, d2, d, e1, e2, e3, e4, e5, rfl⟩ := x2_inv e
  refine ⟨S, ρ, r1, ρ1, G, e1, fun x S1 H1 F1 G1 R1 => ⟨S1, ρ1, r2, ρ', G1, e2, fun y S2 H2 F2 G2 R2 => ?_⟩⟩
  have n1 : Now K σ S ρ H S1 ρ1 H1 := ⟨G, F1, G1⟩
  have n2 : Now K σ S ρ H S2 ρ' H2 := n1.step F2 G2
  refine ⟨S2, d1, d2, d, G2.al, ((R1.fm n1 F2).rd G2 e3).1, (R2.rd G2 e4).1, e5, fun v S3 H3 E R => ?_⟩
  exact q v S3 H3 (n2.grow E).f (n2.grow E).g R
end
section
variable {X : Cx} {a b c : Expr} {f g k : Mo Rs} {op : PyData → PyData → Option PyData} {pos : Pos}
/-- a op b -/
theorem pd_bin {o : Operator} (ho : OpR X (binaryOp o) (rD X.K op)) (ha : PD X a f) (hb : PD X b g) : PD X (.BinOp a o b pos) (x2 f g op) := PE.to (pe_op ho ha hb) fun _ _ _ h => x2_ok h
/-- a comparison -/
theorem pd_cmp {o : CmpOp} (ho : OpR X (compareOp o) (rD X.K op)) (ha : PD X a f) (hb : PD X b g) (hm : behindInMarks o b = false := by first | exact nomark _ | with_unfolding_all rfl) : PD X (.Compare a [o] [b] pos) (x2 f g op) := PE.to (pe_cmpR ho ha hb hm) fun _ _ _ h => x2_ok h
/-- a[b] -/
theorem pd_ix (hr : IxR X (rDi X.K op)) (ha : PD X a f) (hb : PD X b g) (hs : PlainIx b := by exact fun _ _ => rfl) : PD X (.Subscript a b pos) (x2i f g op) := PE.to (pe_ix hr ha hb hs) fun _ _ _ h => x2i_ok h

/-! ### tests -/
def boolD : PyData → Option Bool
  | .bool b => some b
  | _ => none
/-- a value that is a bool, as a test -/
def tV (f : Mo Rs) : Mo Bool := bindM f fun r => bindM (rdR r) fun d => optM (boolD d)
def tNotM (f : Mo Bool) : Mo Bool := bindM f fun b => retM (!b)
def tAndM (f g : Mo Bool) : Mo Bool := bindM f fun b => if b = true then g else retM false
def tOrM (f g : Mo Bool) : Mo Bool := bindM f fun b => if b = true then retM true else g
theorem tV_inv {f : Mo Rs} {ρ ρ' : Rho} {b : Bool} (e : tV f ρ = some (b, ρ')) : ∃ r, f ρ = some (r, ρ') ∧ rdR r ρ' = some (.bool b, ρ') := by
  obtain ⟨r1, ρ1, e1, a1⟩ := bindM_some e
  obtain ⟨d, ρ2, e2, a2⟩ := bindM_some a1
  have c := rdR_same e2
  subst c
  obtain ⟨b1, b2⟩ := optM_some a2
  simp only at b1 b2
  subst b2
  cases d <;> first | (cases b1; done) | skip
  cases b1
  exact ⟨r1, e1, e2⟩
theorem Rdb.bl {K : PySem.W.Frag} {S : Addr → Prop} {H : Hp} {v : V} {b : Bool} (h : Rdb K S H v (.bool b)) : v = .bl b := by
  rcases h with h | ⟨a, _, h⟩
  · cases h; rfl
  · exact h.elim
theorem tV_ok {K : PySem.W.Frag} {f : Mo Rs} {σ : L2.St} {H : Hp} {Q : Bool → Hp → Prop} (h : tT K (tV f) σ H Q) : tD K f σ H (fun x H1 => ∃ c, x = .bl c ∧ Q c H1) := by
  obtain ⟨S, ρ, b, ρ', G, e, q⟩ := h
  obtain ⟨r, e1, e2⟩ := tV_inv e
  exact ⟨S, ρ, r, ρ', G, e1, fun v S1 H1 F1 G1 R1 => ⟨b, ((R1.rd G1 e2).1).bl, q S1 H1 F1 G1⟩⟩
/-- a comparison as a test -/
theorem td_cmp {o : CmpOp} (ho : OpR X (compareOp o) (rD X.K op)) (ha : PD X a f) (hb : PD X b g) (hm : behindInMarks o b = false := by first | exact nomark _ | with_unfolding_all rfl) : TD X (.Compare a [o] [b] pos) (tV (x2 f g op)) := PT.to (pt_cmpR ho ha hb hm) fun _ _ _ h => x2_ok (tV_ok h)
/-- an expression that gives a bool, as a test -/
theorem td_val {e : Expr} (h : PD X e f) (he : ∀ whole, isTrue e X.env whole = (do let v ← whole; standAt e.pos; holding [v] (truthy v)) := by intro _; rfl) : TD X e (tV f) := PT.to (pt_val h he) fun _ _ _ h => tV_ok h
theorem td_not {ft : Mo Bool} (h : TD X a ft) : TD X (.UnaryOp .Not a pos) (tNotM ft) := PT.to (pt_not h) fun σ H Q h => by
  obtain ⟨S, ρ, b, ρ', G, e, q⟩ := h
  obtain ⟨b1, ρ1, e1, e2⟩ := bindM_some e
  cases retM_some e2
  exact ⟨S, ρ, b1, _, G, e1, fun S1 H1 F1 G1 => q S1 H1 F1 G1⟩
theorem wd_and1 {ft : Mo Bool} (h : TD X a ft) : WD X (.BoolOp .And [a] pos) ft := pw_and1 h
theorem wd_or1 {ft : Mo Bool} (h : TD X a ft) : WD X (.BoolOp .Or [a] pos) ft := pw_or1 h
theorem wd_and {ft gt : Mo Bool} {rest : List Expr} (h : TD X a ft) (h2 : WD X (.BoolOp .And (b :: rest) pos) gt) : WD X (.BoolOp .And (a :: b :: rest) pos) (tAndM ft gt) := PW.to (pw_and h h2) fun σ H Q h => by
  obtain ⟨S, ρ, b, ρ', G, e, q⟩ := h
  obtain ⟨b1, ρ1, e1, e2⟩ := bindM_some e
  refine ⟨S, ρ, b1, ρ1, G, e1, fun S1 H1 F1 G1 => ?_⟩
  cases b1 with
  | true => exact ⟨S1, ρ1, b, ρ', G1, e2, fun S2 H2 F2 G2 => q S2 H2 (F1.trans F2) G2⟩
  | false => cases retM_some e2; exact q S1 H1 F1 G1
theorem wd_or {ft gt : Mo Bool} {rest : List Expr} (h : TD X a ft) (h2 : WD X (.BoolOp .Or (b :: rest) pos) gt) : WD X (.BoolOp .Or (a :: b :: rest) pos) (tOrM ft gt) := PW.to (pw_or h h2) fun σ H Q h => by
  obtain ⟨S, ρ, b, ρ', G, e, q⟩ := h
  obtain ⟨b1, ρ1, e1, e2⟩ := bindM_some e
  refine ⟨S, ρ, b1, ρ1, G, e1, fun S1 H1 F1 G1 => ?_⟩
  cases b1 with
  | false => exact ⟨S1, ρ1, b, ρ', G1, e2, fun S2 H2 F2 G2 => q S2 H2 (F1.trans F2) G2⟩
  | true => cases retM_some e2; exact q S1 H1 F1 G1
theorem td_w {e : Expr} {ft : Mo Bool} (h : WD X e ft) : TD X e ft := h.pt

/-! ### and, or, not, if as values -/
def xAnd (f : Mo Rs) (g : Mo Rs) : Mo Rs := bindM (tV f) fun b => if b = true then g else retM (.kept (.bool false))
def xOr (f : Mo Rs) (g : Mo Rs) : Mo Rs := bindM (tV f) fun b => if b = true then retM (.kept (.bool true)) else g
def xNot (f : Mo Rs) : Mo Rs := bindM (tV f) fun b => retM (.kept (.bool (!b)))
def xIf (t : Mo Bool) (f g : Mo Rs) : Mo Rs := bindM t fun b => if b = true then f else g
theorem pd_one {o} (h : PD X a f) : PD X (.BoolOp o [a] pos) f := pe_one h
theorem pd_and {rest : List Expr} (ha : PD X a f) (hb : PD X (.BoolOp .And (b :: rest) pos) g) : PD X (.BoolOp .And (a :: b :: rest) pos) (xAnd f g) := PE.to (pe_and ha hb) fun σ H Q h => by
  obtain ⟨S, ρ, r, ρ', G, e, q⟩ := h
  obtain ⟨b1, ρ1, e1, e2⟩ := bindM_some e
  obtain ⟨r1, e3, e4⟩ := tV_inv e1
  refine ⟨S, ρ, r1, ρ1, G, e3, fun v S1 H1 F1 G1 R1 => ⟨b1, ((R1.rd G1 e4).1).bl, ?_⟩⟩
  cases b1 with
  | true => exact ⟨S1, ρ1, r, ρ', G1, e2, fun v S2 H2 F2 G2 R2 => q v S2 H2 (F1.trans F2) G2 (R2.pre ⟨G, F1, G1⟩)⟩
  | false => cases retM_some e2; exact q _ S1 H1 F1 G1 (.bl false)
theorem pd_or {rest : List Expr} (ha : PD X a f) (hb : PD X (.BoolOp .Or (b :: rest) pos) g) : PD X (.BoolOp .Or (a :: b :: rest) pos) (xOr f g) := PE.to (pe_or ha hb) fun σ H Q h => by
  obtain ⟨S, ρ, r, ρ', G, e, q⟩ := h
  obtain ⟨b1, ρ1, e1, e2⟩ := bindM_some e
  obtain ⟨r1, e3, e4⟩ := tV_inv e1
  refine ⟨S, ρ, r1, ρ1, G, e3, fun v S1 H1 F1 G1 R1 => ⟨b1, ((R1.rd G1 e4).1).bl, ?_⟩⟩
  cases b1 with
  | false => exact ⟨S1, ρ1, r, ρ', G1, e2, fun v S2 H2 F2 G2 R2 => q v S2 H2 (F1.trans F2) G2 (R2.pre ⟨G, F1, G1⟩)⟩
  | true => cases retM_some e2; exact q _ S1 H1 F1 G1 (.bl true)
theorem pd_not (ha : PD X a f) : PD X (.UnaryOp .Not a pos) (xNot f) := PE.to (pe_not ha) fun σ H Q h => by
  obtain ⟨S, ρ, r, ρ', G, e, q⟩ := h
  obtain ⟨b1, ρ1, e1, e2⟩ := bindM_some e
  obtain ⟨r1, e3, e4⟩ := tV_inv e1
  cases retM_some e2
  exact ⟨S, ρ, r1, _, G, e3, fun v S1 H1 F1 G1 R1 => ⟨b1, ((R1.rd G1 e4).1).bl, q _ S1 H1 F1 G1 (.bl _)⟩⟩
theorem pd_if {ft : Mo Bool} (hc : TD X c ft) (ha : PD X a f) (hb : PD X b g) : PD X (.IfExp c a b pos) (xIf ft f g) := PE.to (pe_ifExp hc ha hb) fun σ H Q h => by
  obtain ⟨S, ρ, r, ρ', G, e, q⟩ := h
  obtain ⟨b1, ρ1, e1, e2⟩ := bindM_some e
  refine ⟨S, ρ, b1, ρ1, G, e1, fun S1 H1 F1 G1 => ?_⟩
  cases b1 with
  | true => exact ⟨S1, ρ1, r, ρ', G1, e2, fun v S2 H2 F2 G2 R2 => q v S2 H2 (F1.trans F2) G2 (R2.pre ⟨G, F1, G1⟩)⟩
  | false => exact ⟨S1, ρ1, r, ρ', G1, e2, fun v S2 H2 F2 G2 R2 => q v S2 H2 (F1.trans F2) G2 (R2.pre ⟨G, F1, G1⟩)⟩
end
end PyI

/-! PyI, part C: statements: stores, blocks, loops. -/
namespace PyI
open PySem PySem.Spec L2

inductive Fl | nx | bk | ct | ret (r : Rs)
/-- how a state stands behind statements -/
structure Fs (S : Addr → Prop) (ρ : Rho) (σ : L2.St) (H : Hp) (S' : Addr → Prop) (ρ' : Rho) (σ' : L2.St) (H' : Hp) : Prop where
  dom : ∀ a, H a ≠ none → H' a ≠ none
  keep : ∀ a o, H a = some o → ¬ Mu ρ σ a → H' a = some o
  sh : ∀ a, S a → S' a
  new : ∀ a, S' a → S a ∨ Mu ρ σ a ∨ H a = none
  own : ∀ (i : Nat) (d : PyData) (a : Addr), ρ'[i]? = some (some (.own, d)) → σ'[i]? = some (some (V.ref a)) → H a = none ∨ ∃ (j : Nat) (d' : PyData), ρ[j]? = some (some (.own, d')) ∧ σ[j]? = some (some (V.ref a))
  lent : ∀ (i : Nat) (d : PyData), ρ'[i]? = some (some (.lent, d)) → ∃ d', ρ[i]? = some (some (.lent, d')) ∧ σ'[i]? = σ[i]?
  len : ρ'.length = ρ.length
section
variable {K : PySem.W.Frag} {S0 S S' S'' : Addr → Prop} {ρ0 ρ ρ' ρ'' : Rho} {σ σ' σ'' : L2.St} {H0 H H' H'' : Hp} {a : Addr} {v : V} {r : Rs} {d d' : PyData}
theorem Fs.refl : Fs S ρ σ H S ρ σ H := ⟨fun _ h => h, fun _ _ h _ => h, fun _ h => h, fun _ h => .inl h, fun i d a h1 h2 => .inr ⟨i, d, h1, h2⟩, fun i d h => ⟨d, h, rfl⟩, rfl⟩
theorem Fm.fs (f : Fm S ρ σ H S' ρ' H') : Fs S ρ σ H S' ρ' σ H' where
  dom := f.dom
  keep := f.keep
  sh := f.sh
  new := f.new
  own := fun i d a h1 h2 => by
    obtain ⟨d', h⟩ := f.held h1 rfl
    exact .inr ⟨i, d', h, h2⟩
  lent := fun i d h1 => by
    obtain ⟨d', h⟩ := f.held h1 rfl
    exact ⟨d', h, rfl⟩
  len := f.len
theorem Fs.mu (f : Fs S ρ σ H S' ρ' σ' H') (h : Mu ρ' σ' a) : Mu ρ σ a ∨ H a = none := by
  obtain ⟨i, st, d, h1, h2, h3⟩ := h
  cases st with
  | own =>
    rcases f.own i d a h1 h3 with z | ⟨j, d', z1, z2⟩
    · exact .inr z
    · exact .inl ⟨j, _, d', z1, rfl, z2⟩
  | lent =>
    obtain ⟨d', z1, z2⟩ := f.lent i d h1
    exact .inl ⟨i, _, d', z1, rfl, by rw [← z2]; exact h3⟩
  | _ => cases h2
theorem Fs.trans (f : Fs S ρ σ H S' ρ' σ' H') (f' : Fs S' ρ' σ' H' S'' ρ'' σ'' H'') : Fs S ρ σ H S'' ρ'' σ'' H'' where
  dom := fun a h => f'.dom a (f.dom a h)
  keep := fun a o e n => f'.keep a o (f.keep a o e n) fun m => (f.mu m).elim n fun z => by rw [z] at e; cases e
  sh := fun a h => f'.sh a (f.sh a h)
  new := fun a h => by
    have back : H' a = none → H a = none := fun z => by
      cases e : H a with
      | none => rfl
      | some o => exact absurd z (f.dom a (by rw [e]; simp))
    rcases f'.new a h with h | h | h
    · exact f.new a h
    · rcases f.mu h with z | z
      · exact .inr (.inl z)
      · exact .inr (.inr z)
    · exact .inr (.inr (back h))
  own := fun i d a h1 h2 => by
    rcases f'.own i d a h1 h2 with z | ⟨j, d', z1, z2⟩
    · refine .inl ?_
      cases e : H a with
      | none => rfl
      | some o => exact absurd z (f.dom a (by rw [e]; simp))
    · exact f.own j d' a z1 z2
  lent := fun i d h => by
    obtain ⟨d', h1, h2⟩ := f'.lent i d h
    obtain ⟨d'', h3, h4⟩ := f.lent i d' h1
    exact ⟨d'', h3, h2.trans h4⟩
  len := f'.len.trans f.len

/-- the object of an owned or lent slot is changed -/
theorem Now.mutate {i : Nat} {st : Stt} {o' : HO} (n : Now K σ S0 ρ0 H0 S ρ H) (h : ρ[i]? = some (some (st, d))) (hm : st.mut = true) (hv : σ[i]? = some (some (V.ref a))) (t : TopX K S H a d → TopX K S (upd H a o') a d') :
    Now K σ S0 ρ0 H0 S (ρ.set i (some (st, d'))) (upd H a o') := by
  have hi : i < ρ.length := (List.getElem?_eq_some_iff.mp h).1
  have hold : st.hold = true := by cases st <;> first | rfl | cases hm
  have mu : Mu ρ σ a := ⟨i, st, d, h, hm, hv⟩
  have ns : ¬ S a := fun z => n.g.notMu z mu
  have tx : TopX K S H a d := by
    obtain ⟨v, h1, h2⟩ := n.g.sl i st d h
    rw [hv] at h1; cases h1
    cases st with
    | own => obtain ⟨b, e, _, t⟩ := h2; cases e; exact t
    | lent => obtain ⟨b, e, _, t⟩ := h2; cases e; exact t
    | _ => cases hm
  have t' := t tx
  have u : Uph S H S (upd H a o') := ⟨fun _ h => h, fun b o hb e => by rw [upd_ne (show b ≠ a from fun z => ns (z ▸ hb))]; exact e⟩
  refine ⟨n.g0, ⟨fun b hb => ?_, fun b o e nm => ?_, n.f.sh, n.f.new, by rw [List.length_set]; exact n.f.len, fun j hj => ?_, fun j st1 d1 hj => ?_⟩, ⟨by rw [List.length_set]; exact n.g.len, fun j st1 d1 hj => ?_, fun j k b st1 d1 st2 d2 hj hk ha hb hvj hvk => ?_, fun b hb => ?_⟩⟩
  · by_cases z : b = a
    · rw [z, upd_same]; simp
    · rw [upd_ne z]; exact n.f.dom b hb
  · rw [upd_ne (show b ≠ a from fun z => nm (z ▸ n.f.mu mu))]
    exact n.f.keep b o e nm
  · have hj' := n.f.non j hj
    have : j ≠ i := by rintro rfl; rw [h] at hj'; cases hj'
    rw [List.getElem?_set_ne (Ne.symm this)]
    exact hj'
  · obtain ⟨st2, d2, h3, h4, h5⟩ := n.f.sts j st1 d1 hj
    by_cases hji : j = i
    · subst hji
      rw [h] at h3; cases h3
      refine ⟨st, d', by rw [List.getElem?_set_self hi], h4, fun z => ?_⟩
      rcases h4 with rfl | ⟨rfl, _⟩
      · rw [hm] at z; cases z
      · cases z
    · exact ⟨st2, d2, by rw [List.getElem?_set_ne (Ne.symm hji)]; exact h3, h4, h5⟩
  · rcases mem_set_slot hj with ⟨rfl, e1⟩ | ⟨hne, hj⟩
    · cases e1
      refine ⟨_, hv, ?_⟩
      cases st with
      | own => exact ⟨a, rfl, ns, t'⟩
      | lent => exact ⟨a, rfl, ns, t'⟩
      | _ => cases hm
    · obtain ⟨w, h3, h4⟩ := n.g.sl j st1 d1 hj
      refine ⟨w, h3, ?_⟩
      have other : ∀ b, w = .ref b → st1.hold = true → b ≠ a := fun b e1 hh e2 => hne (n.g.ne j i a st1 d1 st d hj h hh hold (by rw [h3, e1, e2]) hv)
      cases st1 with
      | shr => exact Rp.up u h4
      | own => obtain ⟨b, rfl, ns', t1⟩ := h4; exact ⟨b, rfl, ns', TopX.up u (fun o e => by rw [upd_ne (other b rfl rfl)]; exact e) t1⟩
      | lent => obtain ⟨b, rfl, ns', t1⟩ := h4; exact ⟨b, rfl, ns', TopX.up u (fun o e => by rw [upd_ne (other b rfl rfl)]; exact e) t1⟩
      | bor => obtain ⟨b, rfl, ns', t1⟩ := h4; exact ⟨b, rfl, ns', TopR.up u (fun o e => by rw [upd_ne (other b rfl rfl)]; exact e) t1⟩
      | scr =>
        obtain ⟨b, ns1, rfl, e1, k⟩ := h4
        refine ⟨b, ns1, rfl, e1, KLst.keep (fun o e => ?_) k⟩
        by_cases z : b = a
        · subst z
          exfalso
          cases d with
          | list ds => obtain ⟨vs, q, _⟩ := tx; rw [q] at e; cases e
          | dict kvs => rcases tx with ⟨ts, q, _⟩ | ⟨ts, _, _, q, _⟩ <;> (rw [q] at e; cases e)
          | _ => exact tx.elim
        · rw [upd_ne z]; exact e
  · have f1 : ∀ {j : Nat} {st1 : Stt} {d1 : PyData}, (ρ.set i (some (st, d')))[j]? = some (some (st1, d1)) → ∃ d2, ρ[j]? = some (some (st1, d2)) := fun {j st1 d1} hj => by
      rcases mem_set_slot hj with ⟨rfl, e1⟩ | ⟨_, hj⟩
      · cases e1; exact ⟨d, h⟩
      · exact ⟨d1, hj⟩
    obtain ⟨x1, y1⟩ := f1 hj
    obtain ⟨x2, y2⟩ := f1 hk
    exact n.g.ne j k b st1 x1 st2 x2 y1 y2 ha hb hvj hvk
  · by_cases z : b = a
    · rw [z, upd_same]; simp
    · rw [upd_ne z]; exact n.g.al b hb

/-! ### a name is stored -/
def storeR (i : Nat) (r : Rs) : Mo Unit := fun ρ => match r with
  | .kept d => if i < ρ.length then some ((), ρ.set i (some (.shr, d))) else none
  | .fresh d => if i < ρ.length then some ((), ρ.set i (some (.own, d))) else none
  | .slot j => match keepR (.slot j) ρ with
    | some (d, ρ') => if i < ρ'.length then some ((), ρ'.set i (some (.shr, d))) else none
    | none => none
theorem Gd.put {i : Nat} {st : Stt} (g : Gd K S ρ σ H) (hi : i < ρ.length) (rep : SlotRep K S H v d st) (hne : ∀ b, v = .ref b → st.hold = true → ∀ (j : Nat) (st' : Stt) (d' : PyData), j ≠ i → ρ[j]? = some (some (st', d')) → st'.hold = true → σ[j]? ≠ some (some (V.ref b))) :
    Gd K S (ρ.set i (some (st, d))) (σ.set i (some v)) H := by
  have hi2 : i < σ.length := by rw [← g.len]; exact hi
  refine ⟨by rw [List.length_set, List.length_set]; exact g.len, fun j st1 d1 hj => ?_, fun j k b st1 d1 st2 d2 hj hk ha hb hvj hvk => ?_, g.al⟩
  · rcases mem_set_slot hj with ⟨rfl, e1⟩ | ⟨hne, hj⟩
    · cases e1
      exact ⟨v, by rw [List.getElem?_set_self hi2], rep⟩
    · obtain ⟨w, h3, h4⟩ := g.sl j st1 d1 hj
      exact ⟨w, by rw [List.getElem?_set_ne (Ne.symm hne)]; exact h3, h4⟩
  · rcases mem_set_slot hj with ⟨ej, e1⟩ | ⟨hj1, hj'⟩
    · cases e1
      rcases mem_set_slot hk with ⟨ek, _⟩ | ⟨hk1, hk'⟩
      · rw [ej, ek]
      · rw [ej, List.getElem?_set_self hi2] at hvj
        cases hvj
        rw [List.getElem?_set_ne (Ne.symm hk1)] at hvk
        exact absurd hvk (hne b rfl ha k st2 d2 hk1 hk' hb)
    · rw [List.getElem?_set_ne (Ne.symm hj1)] at hvj
      rcases mem_set_slot hk with ⟨ek, e1⟩ | ⟨hk1, hk'⟩
      · cases e1
        rw [ek, List.getElem?_set_self hi2] at hvk
        cases hvk
        exact absurd hvj (hne b rfl hb j st1 d1 hj1 hj' ha)
      · rw [List.getElem?_set_ne (Ne.symm hk1)] at hvk
        exact g.ne j k b st1 d1 st2 d2 hj' hk' ha hb hvj hvk
theorem Fs.put {i : Nat} {st : Stt} (f : Fs S0 ρ0 σ H0 S ρ σ' H) (hi : i < σ'.length) (hst : st = .shr ∨ (st = .own ∧ ∃ a, v = .ref a ∧ H0 a = none)) : Fs S0 ρ0 σ H0 S (ρ.set i (some (st, d))) (σ'.set i (some v)) H where
  dom := f.dom
  keep := f.keep
  sh := f.sh
  new := f.new
  own := fun j d1 b h1 h2 => by
    rcases mem_set_slot h1 with ⟨rfl, e1⟩ | ⟨hne, h1⟩
    · cases e1
      rcases hst with z | ⟨_, a, rfl, h0⟩
      · cases z
      · rw [List.getElem?_set_self hi] at h2
        cases h2
        exact .inl h0
    · rw [List.getElem?_set_ne (Ne.symm hne)] at h2
      exact f.own j d1 b h1 h2
  lent := fun j d1 h1 => by
    rcases mem_set_slot h1 with ⟨rfl, e1⟩ | ⟨hne, h1⟩
    · cases e1
      rcases hst with z | ⟨z, _⟩ <;> cases z
    · obtain ⟨d', h3, h4⟩ := f.lent j d1 h1
      exact ⟨d', h3, by rw [List.getElem?_set_ne (Ne.symm hne)]; exact h4⟩
  len := by rw [List.length_set]; exact f.len
/-- storing a result -/
theorem RR.store {i : Nat} (n : Now K σ S0 ρ0 H0 S ρ H) (h : RR K H0 S H ρ σ v r) (e : storeR i r ρ = some ((), ρ')) : ∃ S', Gd K S' ρ' (σ.set i (some v)) H ∧ Fs S0 ρ0 σ H0 S' ρ' (σ.set i (some v)) H := by
  cases r with
  | kept d =>
    unfold storeR at e
    dsimp only at e
    split at e
    · rename_i hi
      cases e
      exact ⟨S, n.g.put (st := .shr) hi h fun b _ z => (by cases z), n.f.fs.put (by rw [← n.g.len]; exact hi) (.inl rfl)⟩
    · cases e
  | fresh d =>
    unfold storeR at e
    dsimp only at e
    split at e
    · rename_i hi
      cases e
      obtain ⟨a, rfl, h0, ns, t⟩ := h
      refine ⟨S, n.g.put hi ⟨a, rfl, ns, t⟩ fun b hb _ j st' d' _ hj hh hv => ?_, n.f.fs.put (by rw [← n.g.len]; exact hi) (.inr ⟨rfl, a, rfl, h0⟩)⟩
      cases hb
      obtain ⟨d2, hj2⟩ := n.f.held hj hh
      exact n.g0.held hj2 hh hv h0
    · cases e
  | slot j =>
    unfold storeR at e
    dsimp only at e
    split at e
    · rename_i d ρ1 e1
      split at e
      · rename_i hi
        cases e
        obtain ⟨S1, n1, p1, _⟩ := h.w.keep n e1
        exact ⟨S1, n1.g.put (st := .shr) hi p1 fun b _ z => (by cases z), n1.f.fs.put (by rw [← n1.g.len]; exact hi) (.inl rfl)⟩
      · cases e
    · cases e
end

/-! ### readings of statements -/
def endOf (K : PySem.W.Frag) (D : Ends) (H0 : Hp) (S : Addr → Prop) (ρ : Rho) (σ : L2.St) (H : Hp) : Fl → Prop
  | .nx => D.nx σ H
  | .bk => D.bk σ H
  | .ct => D.ct σ H
  | .ret r => ∀ v, RR K H0 S H ρ σ v r → D.rt v H
def tS (K : PySem.W.Frag) (f : Mo Fl) : TS := fun D σ H => ∃ S ρ fl ρ', Gd K S ρ σ H ∧ f ρ = some (fl, ρ') ∧ ∀ σ' S' H', Fs S ρ σ H S' ρ' σ' H' → Gd K S' ρ' σ' H' → endOf K D H S' ρ' σ' H' fl
abbrev SD (X : Cx) (st : Stmt) (f : Mo Fl) : Prop := PS X st (tS X.K f)
abbrev BD (X : Cx) (st : List Stmt) (f : Mo Fl) : Prop := PSs X st (tS X.K f)
theorem endOf.pre {K : PySem.W.Frag} {D : Ends} {H0 H1 : Hp} {S : Addr → Prop} {ρ : Rho} {σ : L2.St} {H : Hp} {fl : Fl} (dom : ∀ a, H0 a ≠ none → H1 a ≠ none) (h : endOf K D H0 S ρ σ H fl) : endOf K D H1 S ρ σ H fl := by
  cases fl with
  | ret r =>
    intro v hr
    refine h v ?_
    cases r with
    | kept d => exact hr
    | fresh d =>
      obtain ⟨a, e, h0, q⟩ := hr
      refine ⟨a, e, ?_, q⟩
      cases z : H0 a with
      | none => rfl
      | some o => exact absurd h0 (dom a (by rw [z]; simp))
    | slot i => exact hr
  | _ => exact h
def sSeq (f g : Mo Fl) : Mo Fl := fun ρ => match f ρ with
  | some (.nx, ρ') => g ρ'
  | x => x
def sPass : Mo Fl := retM .nx
def sBreak : Mo Fl := retM .bk
def sCont : Mo Fl := retM .ct
def sDrop (f : Mo Rs) : Mo Fl := bindM f fun _ => retM .nx
def sRet (f : Mo Rs) : Mo Fl := bindM f fun r => retM (.ret r)
def sSet (i : Nat) (f : Mo Rs) : Mo Fl := bindM f fun r => bindM (storeR i r) fun _ => retM .nx
def sIf (t : Mo Bool) (f g : Mo Fl) : Mo Fl := bindM t fun b => if b = true then f else g
theorem sSeq_some {f g : Mo Fl} {ρ ρ' : Rho} {fl : Fl} (h : sSeq f g ρ = some (fl, ρ')) : (∃ ρ1, f ρ = some (.nx, ρ1) ∧ g ρ1 = some (fl, ρ')) ∨ (fl ≠ .nx ∧ f ρ = some (fl, ρ')) := by
  unfold sSeq at h
  split at h
  · rename_i ρ1 e; exact .inl ⟨ρ1, e, h⟩
  · rename_i x hx
    exact .inr ⟨by rintro rfl; exact hx ρ' h, h⟩
section
variable {X : Cx} {st : Stmt} {rest : List Stmt} {e c : Expr} {f g : Mo Fl} {fe : Mo Rs} {ft : Mo Bool} {pos : Pos}
theorem bd_nil : BD X [] sPass := PSs.to pss_nil fun D σ H h => by
  obtain ⟨S, ρ, r, ρ', g, e, q⟩ := h
  cases retM_some e
  exact q σ S H Fs.refl g
theorem bd_cons (h1 : SD X st f) (h2 : BD X rest g) : BD X (st :: rest) (sSeq f g) := PSs.to (pss_cons h1 h2) fun D σ H h => by
  obtain ⟨S, ρ, fl, ρ', G, e, q⟩ := h
  rcases sSeq_some e with ⟨ρ1, e1, e2⟩ | ⟨hn, e1⟩
  · exact ⟨S, ρ, .nx, ρ1, G, e1, fun σ1 S1 H1 F1 G1 => ⟨S1, ρ1, fl, ρ', G1, e2, fun σ2 S2 H2 F2 G2 => (q σ2 S2 H2 (F1.trans F2) G2).pre F1.dom⟩⟩
  · refine ⟨S, ρ, fl, ρ', G, e1, fun σ1 S1 H1 F1 G1 => ?_⟩
    have := q σ1 S1 H1 F1 G1
    cases fl with
    | nx => exact absurd rfl hn
    | _ => exact this
theorem bd_one (h1 : SD X st f) : BD X [st] f := pss_one h1
theorem sd_pass : SD X (.Pass pos) sPass := PS.to ps_pass fun D σ H h => by
  obtain ⟨S, ρ, r, ρ', g, e, q⟩ := h
  cases retM_some e
  exact q σ S H Fs.refl g
theorem sd_break : SD X (.Break pos) sBreak := PS.to ps_break fun D σ H h => by
  obtain ⟨S, ρ, r, ρ', g, e, q⟩ := h
  cases retM_some e
  exact q σ S H Fs.refl g
theorem sd_cont : SD X (.Continue pos) sCont := PS.to ps_continue fun D σ H h => by
  obtain ⟨S, ρ, r, ρ', g, e, q⟩ := h
  cases retM_some e
  exact q σ S H Fs.refl g
theorem sd_expr (he : PD X e fe) (hs : swapsWith e none pos.line X.env = pure false := by rfl) : SD X (.Expr e pos) (sDrop fe) := PS.to (ps_expr he hs) fun D σ H h => by
  obtain ⟨S, ρ, r, ρ', G, e, q⟩ := h
  obtain ⟨r1, ρ1, e1, e2⟩ := bindM_some e
  cases retM_some e2
  exact ⟨S, ρ, r1, _, G, e1, fun v S1 H1 F1 G1 R1 => q σ S1 H1 F1.fs G1⟩
theorem sd_ret (he : PD X e fe) : SD X (.Return (some e) pos) (sRet fe) := PS.to (ps_ret he) fun D σ H h => by
  obtain ⟨S, ρ, r, ρ', G, e, q⟩ := h
  obtain ⟨r1, ρ1, e1, e2⟩ := bindM_some e
  cases retM_some e2
  exact ⟨S, ρ, r1, _, G, e1, fun v S1 H1 F1 G1 R1 => q σ S1 H1 F1.fs G1 v R1⟩
theorem sd_retN : SD X (.Return none pos) (sRet (xC .none)) := PS.to ps_retN fun D σ H h => by
  obtain ⟨S, ρ, r, ρ', G, e, q⟩ := h
  obtain ⟨r1, ρ1, e1, e2⟩ := bindM_some e
  cases retM_some e2
  cases retM_some e1
  exact q σ S H Fs.refl G .non .non
theorem sd_set (i : Nat) {x : Str} {pos' : Pos} (hN : X.N.Nodup) (he : PD X e fe) (hi : X.N[i]? = some x := by rfl) (hx : Loc X.env.scope x := by first | exact Or.inl rfl | exact Or.inr rfl) (hs : swapsWith e (some (.Name x pos')) pos.line X.env = pure false := by rfl)
    (hf : X.fn x = true ∨ X.env.scope.names.lookup x = some .local := by first | exact .inl rfl | exact .inr rfl | assumption) : SD X (.Assign [.Name x pos'] e pos) (sSet i fe) := PS.to (ps_set hN hi hx he hs hf) fun D σ H h => by
  obtain ⟨S, ρ, r, ρ', G, e, q⟩ := h
  obtain ⟨r1, ρ1, e1, e2⟩ := bindM_some e
  obtain ⟨u, ρ2, e3, e4⟩ := bindM_some e2
  cases retM_some e4
  refine ⟨S, ρ, r1, ρ1, G, e1, fun v S1 H1 F1 G1 R1 => ?_⟩
  obtain ⟨S2, G2, F2⟩ := R1.store ⟨G, F1, G1⟩ e3
  exact q _ S2 H1 F2 G2
theorem sd_if {a b : List Stmt} (hc : TD X c ft) (ha : BD X a f) (hb : BD X b g) : SD X (.If c a b pos) (sIf ft f g) := PS.to (ps_if hc ha hb) fun D σ H h => by
  obtain ⟨S, ρ, fl, ρ', G, e, q⟩ := h
  obtain ⟨b1, ρ1, e1, e2⟩ := bindM_some e
  refine ⟨S, ρ, b1, ρ1, G, e1, fun S1 H1 F1 G1 => ?_⟩
  cases b1 with
  | true => exact ⟨S1, ρ1, fl, ρ', G1, e2, fun σ2 S2 H2 F2 G2 => (q σ2 S2 H2 (F1.fs.trans F2) G2).pre F1.dom⟩
  | false => exact ⟨S1, ρ1, fl, ρ', G1, e2, fun σ2 S2 H2 F2 G2 => (q σ2 S2 H2 (F1.fs.trans F2) G2).pre F1.dom⟩

/-! ### while -/
def whileM : Nat → Mo Bool → Mo Fl → Mo Fl
  | 0, _, _ => fun _ => none
  | m + 1, t, b => fun ρ => match t ρ with
    | some (true, ρ1) => match b ρ1 with
      | some (.nx, ρ2) => whileM m t b ρ2
      | some (.ct, ρ2) => whileM m t b ρ2
      | some (.bk, ρ2) => some (.nx, ρ2)
      | some (.ret r, ρ2) => some (.ret r, ρ2)
      | none => none
    | some (false, ρ1) => some (.nx, ρ1)
    | none => none
theorem sd_while {body : List Stmt} (m : Nat) (hc : TD X c ft) (hb : BD X body f) (hp : PassesOwn (model X.prog X.w) X.A X.env X.xe := by exact PassesOwn.never) : SD X (.While c body [] pos) (whileM m ft f) := PS.to (ps_while hp hc hb) fun D σ H h => by
  obtain ⟨S, ρ, fl, ρ', G, e, q⟩ := h
  refine ⟨fun k σ1 H1 => ∃ S1 ρ1, Gd X.K S1 ρ1 σ1 H1 ∧ Fs S ρ σ H S1 ρ1 σ1 H1 ∧ whileM k ft f ρ1 = some (fl, ρ'), ⟨m, S, ρ, G, Fs.refl, e⟩, ?_⟩
  rintro k σ1 H1 ⟨S1, ρ1, G1, F1, e1⟩
  cases k with
  | zero => cases e1
  | succ k =>
    unfold whileM at e1
    cases et : ft ρ1 with
    | none => rw [et] at e1; cases e1
    | some p =>
      obtain ⟨b, ρ2⟩ := p
      rw [et] at e1
      refine ⟨S1, ρ1, b, ρ2, G1, et, fun S2 H2 F2 G2 => ?_⟩
      have F12 := F1.trans F2.fs
      cases b with
      | false => cases e1; exact q σ1 S2 H2 F12 G2
      | true =>
        dsimp only at e1
        cases eb : f ρ2 with
        | none => rw [eb] at e1; cases e1
        | some p =>
          obtain ⟨fl2, ρ3⟩ := p
          rw [eb] at e1
          refine ⟨fun σ' H' => ∃ S' ρ', Gd X.K S' ρ' σ' H' ∧ Fs S ρ σ H S' ρ' σ' H' ∧ fl2 ≠ .bk ∧ whileM k ft f ρ' = some (fl, _), fun σ' H' ⟨S', ρ', g', f', _, e'⟩ => ⟨k, Nat.lt_succ_self k, S', ρ', g', f', e'⟩, S2, ρ2, fl2, ρ3, G2, eb, fun σ3 S3 H3 F3 G3 => ?_⟩
          have F13 := F12.trans F3
          cases fl2 with
          | nx => exact ⟨S3, ρ3, G3, F13, by simp, e1⟩
          | ct => exact ⟨S3, ρ3, G3, F13, by simp, e1⟩
          | bk => cases e1; exact q σ3 S3 H3 F13 G3
          | ret r => 
            cases e1
            exact (q σ3 S3 H3 F13 G3).pre (fun a ha => F12.dom a ha)
end
end PyI

/-! PyI, part D: targets, what a for walks, for. -/
namespace PyI
open PySem PySem.Spec L2

/-! ### targets, for data that is shared -/
/-- how a target stores; the slots that it stores -/
structure G1 where
  run : PyData → Mo Unit
  vs : List Nat
structure G2 where
  run : List PyData → Mo Unit
  vs : List Nat
/-- the slots vs alone are stored, with what is shared -/
structure Sto (vs : List Nat) (ρ : Rho) (σ : L2.St) (ρ' : Rho) (σ' : L2.St) : Prop where
  len : σ'.length = σ.length
  off : ∀ i : Nat, i ∉ vs → ρ'[i]? = ρ[i]? ∧ σ'[i]? = σ[i]?
  on : ∀ (i : Nat) (st : Stt) (d : PyData), i ∈ vs → ρ'[i]? = some (some (st, d)) → st = .shr ∨ ρ[i]? = some (some (st, d))
theorem Sto.refl {vs : List Nat} {ρ : Rho} {σ : L2.St} : Sto vs ρ σ ρ σ := ⟨rfl, fun _ _ => ⟨rfl, rfl⟩, fun _ _ _ _ h => .inr h⟩
theorem Sto.trans {vs ws : List Nat} {ρ ρ' ρ'' : Rho} {σ σ' σ'' : L2.St} (a : Sto vs ρ σ ρ' σ') (b : Sto ws ρ' σ' ρ'' σ'') : Sto (vs ++ ws) ρ σ ρ'' σ'' := by
  refine ⟨b.len.trans a.len, fun i hi => ?_, fun i st d hi h => ?_⟩
  · rw [List.mem_append, not_or] at hi
    exact ⟨(b.off i hi.2).1.trans (a.off i hi.1).1, (b.off i hi.2).2.trans (a.off i hi.1).2⟩
  · have h1 : st = .shr ∨ ρ'[i]? = some (some (st, d)) := by
      by_cases hw : i ∈ ws
      · exact b.on i st d hw h
      · rw [(b.off i hw).1] at h; exact .inr h
    rcases h1 with h1 | h1
    · exact .inl h1
    · by_cases hv : i ∈ vs
      · exact a.on i st d hv h1
      · rw [(a.off i hv).1] at h1; exact .inr h1
def tG (K : PySem.W.Frag) (g : G1) : TG := fun v σ H Q => ∃ S ρ d ρ', Gd K S ρ σ H ∧ Rp K S H v d ∧ g.run d ρ = some ((), ρ') ∧ ∀ σ', Gd K S ρ' σ' H → Fs S ρ σ H S ρ' σ' H → Sto g.vs ρ σ ρ' σ' → Q σ' H
def tGs (K : PySem.W.Frag) (g : G2) : TGs := fun vs σ H Q => ∃ S ρ ds ρ', Gd K S ρ σ H ∧ RpL K S H vs ds ∧ g.run ds ρ = some ((), ρ') ∧ ∀ σ', Gd K S ρ' σ' H → Fs S ρ σ H S ρ' σ' H → Sto g.vs ρ σ ρ' σ' → Q σ' H
abbrev GD (X : Cx) (target : Expr) (g : G1) : Prop := PG X target (tG X.K g)
abbrev GsD (X : Cx) (ts : List Expr) (g : G2) : Prop := PGs X ts (tGs X.K g)
theorem PG.to {X : Cx} {e : Expr} {t t' : TG} (h : PG X e t) (i : ∀ v σ H Q, t' v σ H Q → t v σ H Q) : PG X e t' := ⟨fun pins s σ H v u Q I r q => h.run pins s σ H v u Q I r (i v σ H Q q)⟩
theorem PGs.to {X : Cx} {e : List Expr} {t t' : TGs} (h : PGs X e t) (i : ∀ v σ H Q, t' v σ H Q → t v σ H Q) : PGs X e t' := ⟨fun pins s σ H v u Q I r q => h.run pins s σ H v u Q I r (i v σ H Q q)⟩
/-- a name -/
def gN (i : Nat) : G1 := ⟨fun d => storeR i (.kept d), [i]⟩
def gsNrun : List PyData → Mo Unit
  | [] => retM ()
  | _ => fun _ => none
def gsN : G2 := ⟨gsNrun, []⟩
def gsCrun (g : G1) (gs : G2) : List PyData → Mo Unit
  | d :: ds => bindM (g.run d) fun _ => gs.run ds
  | [] => fun _ => none
def gsC (g : G1) (gs : G2) : G2 := ⟨gsCrun g gs, g.vs ++ gs.vs⟩
/-- a tuple of targets; a list unpacked -/
def gTrun (g : G2) : PyData → Mo Unit
  | .tuple ds => g.run ds
  | _ => fun _ => none
def gT (g : G2) : G1 := ⟨gTrun g, g.vs⟩
def gLrun (g : G2) : PyData → Mo Unit
  | .list ds => g.run ds
  | _ => fun _ => none
def gL (g : G2) : G1 := ⟨gLrun g, g.vs⟩
theorem storeK {K : PySem.W.Frag} {S : Addr → Prop} {ρ ρ' : Rho} {σ : L2.St} {H : Hp} {v : V} {d : PyData} {i : Nat} (g : Gd K S ρ σ H) (r : Rp K S H v d) (e : storeR i (.kept d) ρ = some ((), ρ')) :
    Gd K S ρ' (σ.set i (some v)) H ∧ Fs S ρ σ H S ρ' (σ.set i (some v)) H ∧ Sto [i] ρ σ ρ' (σ.set i (some v)) := by
  unfold storeR at e
  dsimp only at e
  split at e
  · rename_i hi
    cases e
    refine ⟨g.put (st := .shr) hi r fun b _ z => (by cases z), Fs.refl.put (by rw [← g.len]; exact hi) (.inl rfl), by rw [List.length_set], fun j hj => ?_, fun j st d' hj h => ?_⟩
    · have hne : i ≠ j := fun z => hj (by simp [z])
      exact ⟨List.getElem?_set_ne hne, List.getElem?_set_ne hne⟩
    · have hji : j = i := by simpa using hj
      subst hji
      rw [List.getElem?_set_self hi] at h
      cases h
      exact .inl rfl
  · cases e
theorem Rdb.seqT {K : PySem.W.Frag} {S : Addr → Prop} {H : Hp} {v : V} {ds : List PyData} (h : Rdb K S H v (.tuple ds)) : ∃ a vs, v = .ref a ∧ STup K S H a vs ∧ RpL K S H vs ds := by
  rcases h with h | ⟨a, _, h⟩
  · cases h with
    | tup h1 h2 _ => exact ⟨_, _, rfl, h1, h2⟩
  · exact h.elim
theorem STup.sqT {K : PySem.W.Frag} {S : Addr → Prop} {H : Hp} {a : Addr} {vs : List V} (h : STup K S H a vs) : SqT K H a vs := by
  rcases h with ⟨_, h⟩ | h
  · exact .inl h
  · exact .inr h
theorem Rdb.seqL {K : PySem.W.Frag} {S : Addr → Prop} {H : Hp} {v : V} {ds : List PyData} (h : Rdb K S H v (.list ds)) : ∃ a vs, v = .ref a ∧ H a = some (.lst vs) ∧ RpL K S H vs ds := by
  rcases h with h | ⟨a, e, vs, h1, h2⟩
  · cases h with
    | lst h1 h2 h3 => exact ⟨_, _, rfl, h2, h3⟩
  · exact ⟨a, vs, e, h1, h2⟩
section
variable {X : Cx} {pos : Pos} {e : Expr} {es : List Expr} {g : G1} {gs : G2}
theorem gd_name (i : Nat) {x : Str} (hN : X.N.Nodup) (hi : X.N[i]? = some x := by rfl) (hx : Loc X.env.scope x := by first | exact Or.inl rfl | exact Or.inr rfl)
    (hf : X.fn x = true ∨ X.env.scope.names.lookup x = some .local := by first | exact .inl rfl | exact .inr rfl | assumption) : GD X (.Name x pos) (gN i) := PG.to (pg_name hN hi hx hf) fun v σ H Q h => by
  obtain ⟨S, ρ, d, ρ', G, r, e, q⟩ := h
  obtain ⟨G1, F1, O1⟩ := storeK G r e
  exact q _ G1 F1 O1
theorem gds_nil : GsD X [] gsN := PGs.to pgs_nil fun vs σ H Q h => by
  obtain ⟨S, ρ, ds, ρ', G, r, e, q⟩ := h
  cases ds with
  | nil =>
    cases r
    cases retM_some e
    exact ⟨rfl, q σ G Fs.refl Sto.refl⟩
  | cons d ds => cases e
theorem gds_cons (h1 : GD X e g) (h2 : GsD X es gs) (hs : (assignEach (e :: es) X.env).map (·.2) = assign e X.env :: (assignEach es X.env).map (·.2) := by rfl) : GsD X (e :: es) (gsC g gs) := PGs.to (pgs_cons h1 h2 hs) fun vs σ H Q h => by
  obtain ⟨S, ρ, ds, ρ', G, r, e, q⟩ := h
  cases ds with
  | nil => cases e
  | cons d ds =>
    cases r with
    | cons r rr =>
      obtain ⟨u, ρ1, e1, e2⟩ := bindM_some e
      refine ⟨_, _, rfl, S, ρ, d, ρ1, G, r, e1, fun σ1 G1 F1 O1 => ⟨S, ρ1, ds, ρ', G1, rr, e2, fun σ2 G2 F2 O2 => q σ2 G2 (F1.trans F2) (O1.trans O2)⟩⟩
theorem gd_tup {k : Nat} (n : Nat) (hc : X.calm = true) (h : GsD X es gs) (hl : ∀ ds ρ x, gs.run ds ρ = some x → ds.length = n) (hn : (assignEach es X.env).length = n := by rfl) (hst : (assignEach es X.env).findIdx? (·.1) = none := by rfl) : GD X (.Tuple es k pos) (gT gs) := PG.to (pg_tup hc h hn hst) fun v σ H Q h => by
  obtain ⟨S, ρ, d, ρ', G, r, e, q⟩ := h
  cases d with
  | tuple ds =>
    obtain ⟨a, vs, rfl, st, rl⟩ := Rdb.seqT (.inl r)
    exact ⟨a, vs, rfl, st.sqT, by rw [rl.len]; exact hl ds ρ _ e, S, ρ, ds, ρ', G, rl, e, q⟩
  | _ => cases e
theorem gsN_len (ds : List PyData) (ρ : Rho) (x : Unit × Rho) (h : gsN.run ds ρ = some x) : ds.length = 0 := by
  cases ds with
  | nil => rfl
  | cons d ds => cases h
theorem gsC_len {n : Nat} (hl : ∀ ds ρ x, gs.run ds ρ = some x → ds.length = n) (ds : List PyData) (ρ : Rho) (x : Unit × Rho) (h : (gsC g gs).run ds ρ = some x) : ds.length = n + 1 := by
  cases ds with
  | nil => cases h
  | cons d ds =>
    obtain ⟨u, ρ1, e1, e2⟩ := bindM_some h
    rw [List.length_cons, hl ds ρ1 x e2]
end

/-! ### what is walked -/
/-- the iterator J yields the data ds, in any state in which what was shared, and the objects of T, stand -/
def Walk (K : PySem.W.Frag) (J : It) (ds : List PyData) (T : Addr → Prop) (S0 : Addr → Prop) (H0 : Hp) : Prop :=
  ∀ (S : Addr → Prop) (H : Hp) (i : Nat), Uph S0 H0 S H → (∀ a o, T a → H0 a = some o → H a = some o) → (∀ a, S a → H a ≠ none) →
    (i < ds.length → J.go i H ∧ ∀ x H', J.yld i H x H' → ∃ S' d, Gw S H S' H' ∧ ds[i]? = some d ∧ Rp K S' H' x d) ∧ (ds.length ≤ i → J.stop i H)
def tI (K : PySem.W.Frag) (f : Mo (List PyData)) : TI := fun σ H R => ∃ S ρ ds ρ', Gd K S ρ σ H ∧ f ρ = some (ds, ρ') ∧ ∀ J S' H' T, Fm S ρ σ H S' ρ' H' → Gd K S' ρ' σ H' → (∀ a, T a → H' a ≠ none ∧ ¬ Mu ρ' σ a) → Walk K J ds T S' H' → R J H'
abbrev ID (X : Cx) (tg iter : Expr) (f : Mo (List PyData)) : Prop := PI X tg iter (tI X.K f)
theorem PI.to {X : Cx} {tg e : Expr} {t t' : TI} (h : PI X tg e t) (i : ∀ σ H R, t' σ H R → t σ H R) : PI X tg e t' := ⟨fun pins s σ H R I q => h.run pins s σ H R I (i σ H R q)⟩
/-- a list or a tuple -/
def iSeq (K : PySem.W.Frag) (tl : TE) : TI := fun σ H R => tl σ H fun x H1 => ∃ a, x = .ref a ∧ ((∃ xs, SqL K H1 a xs ∧ R (Itl K a) H1) ∨ ∃ xs, SqT K H1 a xs ∧ R (Itt K a) H1)
theorem pi_seq {X : Cx} {tg : Expr} {l : Expr} {tl : TE} (hl : PE X l tl) : PI X tg l (iSeq X.K tl) := by
  refine ⟨fun pins s σ H R I h => ?_⟩
  refine thn (hl.run pins s σ H _ I h) fun v s1 ⟨x, H1, I1, r1, q1⟩ => ?_
  obtain ⟨a, e, q⟩ := q1
  subst e
  cases r1
  have hf : ∀ b ∈ [s1.heap.objs.size], FpOk X pins H1 b := fun b hb => by
    have e : b = s1.heap.objs.size := by simpa using hb
    subst e
    exact I1.fpOk (Nat.le_refl _) (I1.hok.fresh (Nat.le_refl _))
  rcases q with ⟨xs, hq, q⟩ | ⟨xs, hq, q⟩
  · obtain ⟨its, rv, p, hz⟩ := I1.list hq
    exact wpAny_pyIter_list p.isList ⟨s1.heap.objs.size, [s1.heap.objs.size], _, _, H1, rfl, I1.kept (t' := s1.toks) fun b o e => Heap.get?_push_of_some _ e, turn_list a _, ⟨_, Heap.get?_push_size _ rfl, rfl, rfl⟩, hf, q⟩
  · obtain ⟨its, rv, p, hz⟩ := I1.tuple hq
    exact wpAny_pyIter_tuple (show s1.heap.IsTuple a its.toArray from p) ⟨s1.heap.objs.size, [s1.heap.objs.size], _, _, H1, rfl, I1.kept (t' := s1.toks) fun b o e => Heap.get?_push_of_some _ e, turn_tuple a _, ⟨_, Heap.get?_push_size _ rfl, rfl, rfl⟩, hf, q⟩
/-- what is walked may be borrowed -/
def iterR (r : Rs) : Mo PyData := fun ρ => match r with
  | .slot i => match ρ[i]? with
    | some (some (.bor, d)) => some (d, ρ)
    | _ => keepR r ρ
  | _ => keepR r ρ
def seqOf : PyData → Option (List PyData)
  | .list ds => some ds
  | .tuple ds => some ds
  | _ => none
def iS (f : Mo Rs) : Mo (List PyData) := bindM f fun r => bindM (iterR r) fun d => optM (seqOf d)
theorem walk_list {K : PySem.W.Frag} {T S0 : Addr → Prop} {H0 : Hp} {a : Addr} {vs : List V} {ds : List PyData} (h : H0 a = some (.lst vs)) (r : RpL K S0 H0 vs ds) (ht : S0 a ∨ T a) : Walk K (Itl K a) ds T S0 H0 := by
  intro S H i u t al
  have hH : H a = some (.lst vs) := ht.elim (fun z => u.at' a _ z h) fun z => t a _ z h
  have r' := RpL.up u r
  refine ⟨fun hi => ⟨?_, fun x H' y => ?_⟩, fun hi => ⟨vs, SqL.of hH, by rw [r'.len]; exact hi⟩⟩
  · obtain ⟨v, hv, _⟩ := r'.get (List.getElem?_eq_getElem hi)
    exact ⟨vs, v, SqL.of hH, hv⟩
  · obtain ⟨rfl, y⟩ := y
    obtain ⟨d, hd, rd⟩ := r'.get' (y vs (SqL.of hH))
    exact ⟨S, d, Gw.refl al, hd, rd⟩
theorem walk_tup {K : PySem.W.Frag} {T S0 : Addr → Prop} {H0 : Hp} {a : Addr} {vs : List V} {ds : List PyData} (h : STup K S0 H0 a vs) (r : RpL K S0 H0 vs ds) : Walk K (Itt K a) ds T S0 H0 := by
  intro S H i u t al
  have hH : SqT K H a vs := (u.stup h).sqT
  have r' := RpL.up u r
  refine ⟨fun hi => ⟨?_, fun x H' y => ?_⟩, fun hi => ⟨vs, hH, by rw [r'.len]; exact hi⟩⟩
  · obtain ⟨v, hv, _⟩ := r'.get (List.getElem?_eq_getElem hi)
    exact ⟨vs, v, hH, hv⟩
  · obtain ⟨rfl, y⟩ := y
    obtain ⟨d, hd, rd⟩ := r'.get' (y vs hH)
    exact ⟨S, d, Gw.refl al, hd, rd⟩
/-- what is walked, read -/
theorem RR.iter {K : PySem.W.Frag} {S0 S : Addr → Prop} {ρ0 ρ ρ' : Rho} {σ : L2.St} {H0 H : Hp} {v : V} {r : Rs} {d : PyData} (n : Now K σ S0 ρ0 H0 S ρ H) (h : RR K H0 S H ρ σ v r) (e : iterR r ρ = some (d, ρ')) :
    ∃ S', Now K σ S0 ρ0 H0 S' ρ' H ∧ (Rp K S' H v d ∨ ∃ a, v = .ref a ∧ H a ≠ none ∧ ¬ Mu ρ' σ a ∧ TopR K S' H a d) := by
  have old : keepR r ρ = some (d, ρ') → ∃ S', Now K σ S0 ρ0 H0 S' ρ' H ∧ (Rp K S' H v d ∨ ∃ a, v = .ref a ∧ H a ≠ none ∧ ¬ Mu ρ' σ a ∧ TopR K S' H a d) := fun e => by
    obtain ⟨S', n', p, _⟩ := h.w.keep n e
    exact ⟨S', n', .inl p⟩
  unfold iterR at e
  cases r with
  | kept d' => exact old e
  | fresh d' => exact old e
  | slot i =>
    dsimp only at e
    split at e
    · rename_i d' hb
      cases e
      obtain ⟨h1, _⟩ := h
      obtain ⟨w, h2, a, h3, h4, h5⟩ := n.g.sl i _ _ hb
      rw [h1] at h2; cases h2
      subst h3
      refine ⟨S, n, .inr ⟨a, rfl, TopR.there h5, ?_, h5⟩⟩
      rintro ⟨j, st, d2, z1, z2, z3⟩
      have hold : st.hold = true := by cases st <;> first | rfl | cases z2
      have := n.g.ne j i a st d2 .bor _ z1 hb hold rfl z3 h1
      subst this
      rw [hb] at z1
      cases z1
      cases z2
    · exact old e
section
variable {X : Cx} {tg l : Expr} {f : Mo Rs} {pos : Pos}
theorem id_seq (hl : PD X l f) : ID X tg l (iS f) := PI.to (pi_seq hl) fun σ H R h => by
  obtain ⟨S, ρ, ds, ρ', G, e, q⟩ := h
  obtain ⟨r, ρ1, e1, e2⟩ := bindM_some e
  obtain ⟨d, ρ2, e3, e4⟩ := bindM_some e2
  obtain ⟨e5, e6⟩ := optM_some e4
  simp only at e5 e6
  subst e6
  refine ⟨S, ρ, r, ρ1, G, e1, fun v S1 H1 F1 G1 R1 => ?_⟩
  obtain ⟨S2, n2, p⟩ := R1.iter ⟨G, F1, G1⟩ e3
  cases d with
  | list xs =>
    cases e5
    rcases p with p | ⟨a, rfl, ha, nm, vs, h1, h2⟩
    · cases p with
      | lst hs h1 h2 => exact ⟨_, rfl, .inl ⟨_, SqL.of h1, q _ S2 H1 (fun _ => False) n2.f n2.g (fun _ h => h.elim) (walk_list h1 h2 (.inl hs))⟩⟩
    · exact ⟨a, rfl, .inl ⟨_, SqL.of h1, q _ S2 H1 (fun b => b = a) n2.f n2.g (fun b h => by subst h; exact ⟨ha, nm⟩) (walk_list h1 h2 (.inr rfl))⟩⟩
  | tuple xs =>
    cases e5
    rcases p with p | ⟨a, rfl, ha, nm, z⟩
    · cases p with
      | tup h1 h2 _ => exact ⟨_, rfl, .inr ⟨_, h1.sqT, q _ S2 H1 (fun _ => False) n2.f n2.g (fun _ h => h.elim) (walk_tup h1 h2)⟩⟩
    · exact z.elim
  | _ => cases e5

/-! ### for -/
def forM : List PyData → G1 → Mo Fl → Mo Fl
  | [], _, _ => retM .nx
  | d :: ds, g, b => fun ρ => match g.run d ρ with
    | some (_, ρ1) => match b ρ1 with
      | some (.nx, ρ2) => forM ds g b ρ2
      | some (.ct, ρ2) => forM ds g b ρ2
      | some (.bk, ρ2) => some (.nx, ρ2)
      | some (.ret r, ρ2) => some (.ret r, ρ2)
      | none => none
    | none => none
def sFor (f : Mo (List PyData)) (g : G1) (b : Mo Fl) : Mo Fl := bindM f fun ds => forM ds g b
theorem for_ok {K : PySem.W.Frag} {f : Mo (List PyData)} {g : G1} {b : Mo Fl} {D : Ends} {σ : L2.St} {H : Hp} (h : tS K (sFor f g b) D σ H) : tFor (tI K f) (tG K g) (tS K b) D σ H := by
  obtain ⟨S, ρ, fl, ρ', G, e, q⟩ := h
  obtain ⟨ds, ρ1, e1, e2⟩ := bindM_some e
  refine ⟨S, ρ, ds, ρ1, G, e1, fun J S1 H1 T F1 G1 hT W => ?_⟩
  refine ⟨fun i m σ2 H2 => ∃ S2 ρ2, Gd K S2 ρ2 σ2 H2 ∧ Fs S1 ρ1 σ H1 S2 ρ2 σ2 H2 ∧ i ≤ ds.length ∧ m = ds.length - i ∧ forM (ds.drop i) g b ρ2 = some (fl, ρ'), ⟨ds.length, S1, ρ1, G1, Fs.refl, Nat.zero_le _, rfl, e2⟩, ?_⟩
  rintro i m σ2 H2 ⟨S2, ρ2, G2, F2, hi, rfl, e3⟩
  have F02 := F1.fs.trans F2
  have u : Uph S1 H1 S2 H2 := ⟨F2.sh, fun a o hs ha => F2.keep a o ha (G1.notMu hs)⟩
  have t : ∀ a o, T a → H1 a = some o → H2 a = some o := fun a o ha h => F2.keep a o h (hT a ha).2
  obtain ⟨w1, w2⟩ := W S2 H2 i u t G2.al
  by_cases hlt : i < ds.length
  · obtain ⟨go, yl⟩ := w1 hlt
    refine .inr ⟨go, fun σ' H' => ∃ S' ρ2', Gd K S' ρ2' σ' H' ∧ Fs S1 ρ1 σ H1 S' ρ2' σ' H' ∧ forM (ds.drop (i + 1)) g b ρ2' = some (fl, ρ'), fun σ' H' ⟨S', ρ2', g', f', e'⟩ => ⟨ds.length - (i + 1), by omega, S', ρ2', g', f', hlt, rfl, e'⟩, fun x H3 y => ?_⟩
    obtain ⟨S3, d, E3, hd, rp⟩ := yl x H3 y
    have hdrop : ds.drop i = d :: ds.drop (i + 1) := by
      rw [List.drop_eq_getElem_cons hlt]
      rw [List.getElem?_eq_getElem hlt] at hd
      cases hd
      rfl
    rw [hdrop] at e3
    unfold forM at e3
    cases eg : g.run d ρ2 with
    | none => rw [eg] at e3; cases e3
    | some p =>
      obtain ⟨_, ρ3⟩ := p
      rw [eg] at e3
      dsimp only at e3
      have G3 := G2.ext E3
      have F03 := F2.trans (E3.fr (ρ := ρ2) (σ := σ2)).fs
      refine ⟨S3, ρ2, d, ρ3, G3, rp, eg, fun σ4 G4 F4 _ => ?_⟩
      have F04 := F03.trans F4
      cases eb : b ρ3 with
      | none => rw [eb] at e3; cases e3
      | some p =>
        obtain ⟨fl2, ρ5⟩ := p
        rw [eb] at e3
        refine ⟨S3, ρ3, fl2, ρ5, G4, eb, fun σ5 S5 H5 F5 G5 => ?_⟩
        have F05 := F04.trans F5
        cases fl2 with
        | nx => exact ⟨S5, ρ5, G5, F05, e3⟩
        | ct => exact ⟨S5, ρ5, G5, F05, e3⟩
        | bk => cases e3; exact q σ5 S5 H5 (F1.fs.trans F05) G5
        | ret r =>
          cases e3
          exact (q σ5 S5 H5 (F1.fs.trans F05) G5).pre (fun a ha => F04.dom a (F1.dom a ha))
  · have hie : ds.drop i = [] := List.drop_eq_nil_of_le (by omega)
    rw [hie] at e3
    cases retM_some e3
    exact .inl ⟨w2 (by omega), q σ2 S2 H2 F02 G2⟩
theorem sd_for {iter : Expr} {body : List Stmt} {fi : Mo (List PyData)} {g : G1} {b : Mo Fl} (hc : X.calm = true) (hi : ID X tg iter fi) (hg : GD X tg g) (hb : BD X body b) (hp : PassesOwn (model X.prog X.w) X.A X.env X.xe := by exact PassesOwn.never)
    (hs : ∀ x, foldedSetIterable iter X.env x = pure x := by intro _; rfl) : SD X (.For tg iter body [] pos) (sFor fi g b) := PS.to (ps_for hp hc hi hg hb hs) fun D σ H h => for_ok h
/-- a, b = e -/
def sUnp (f : Mo Rs) (g : G1) : Mo Fl := bindM f fun r => bindM (keepR r) fun d => bindM (g.run d) fun _ => retM .nx
theorem sd_unp {e : Expr} {g : G1} (he : PD X e f) (hg : GD X tg g) (hs : swapsWithSole [tg] e pos.line X.env = pure false := by rfl) (hw : swappedStores [tg] e X.env = pure none := by rfl)
    (h1 : (assignEach [tg] X.env).map (·.2) = [assign tg X.env] := by rfl) : SD X (.Assign [tg] e pos) (sUnp f g) := PS.to (ps_asg he hg hs hw h1) fun D σ H h => by
  obtain ⟨S, ρ, fl, ρ', G, e, q⟩ := h
  obtain ⟨r, ρ1, e1, e2⟩ := bindM_some e
  obtain ⟨d, ρ2, e3, e4⟩ := bindM_some e2
  obtain ⟨u, ρ3, e5, e6⟩ := bindM_some e4
  cases retM_some e6
  refine ⟨S, ρ, r, ρ1, G, e1, fun v S1 H1 F1 G1 R1 => ?_⟩
  obtain ⟨S2, n2, p, _⟩ := R1.w.keep ⟨G, F1, G1⟩ e3
  exact ⟨S2, ρ2, d, _, n2.g, p, e5, fun σ' G' F' _ => q σ' S2 H1 (n2.f.fs.trans F') G'⟩
/-- a, b = x, y with plain names -/
def sPar (i j : Nat) (g : Mo (List Rs)) : Mo Fl := bindM g fun rs => bindM (keepL rs) fun ds => match ds with
  | [d1, d2] => bindM (storeR i (.kept d1)) fun _ => bindM (storeR j (.kept d2)) fun _ => retM .nx
  | _ => fun _ => none
theorem sd_par (i j : Nat) {x y : Str} {a b : Expr} {g : Mo (List Rs)} {px py pt : Pos} {kt k2 pt2} (hc : X.calm = true) (hN : X.N.Nodup) (ha : AD X [a, b] g)
    (hw : swappedStores [.Tuple [.Name x px, .Name y py] kt pt] (.Tuple [a, b] k2 pt2) X.env = pure (some [x, y]) := by rfl) (hi : X.N[i]? = some x := by rfl) (hj : X.N[j]? = some y := by rfl) (hij : i ≠ j := by decide)
    (hx : X.env.scope.names.lookup x = some .local := by rfl) (hy : X.env.scope.names.lookup y = some .local := by rfl)
    (hs : swapsWithSole [.Tuple [.Name x px, .Name y py] kt pt] (.Tuple [a, b] k2 pt2) pos.line X.env = pure false := by rfl) :
    SD X (.Assign [.Tuple [.Name x px, .Name y py] kt pt] (.Tuple [a, b] k2 pt2) pos) (sPar i j g) := PS.to (ps_par hc hN hi hj hij hx hy ha hw hs) fun D σ H h => by
  obtain ⟨S, ρ, fl, ρ', G, e, q⟩ := h
  obtain ⟨rs, ρ1, e1, e2⟩ := bindM_some e
  obtain ⟨ds, ρ2, e3, e4⟩ := bindM_some e2
  refine ⟨S, ρ, rs, ρ1, G, e1, fun vs S1 H1 F1 G1 R1 => ?_⟩
  obtain ⟨S2, n2, p, _⟩ := RRLw.keep rs ⟨G, F1, G1⟩ R1.w e3
  cases p with
  | nil => cases e4
  | cons p1 pr =>
    cases pr with
    | nil => cases e4
    | cons p2 pr =>
      cases pr with
      | nil =>
        obtain ⟨u, ρ3, e5, e6⟩ := bindM_some e4
        obtain ⟨u2, ρ4, e7, e8⟩ := bindM_some e6
        cases retM_some e8
        obtain ⟨G3, F3, _⟩ := storeK n2.g p1 e5
        obtain ⟨G4, F4, _⟩ := storeK G3 p2 e7
        exact ⟨_, _, rfl, q _ S2 H1 (n2.f.fs.trans (F3.trans F4)) G4⟩
      | cons _ _ => cases e4
end
end PyI

/-! PyI, part E: comprehensions of one clause. -/
namespace PyI
open PySem PySem.Spec L2

def LIM : Nat := 1000000
theorem lim_line {n : Nat} (h : n ≤ LIM) : n ≤ sizeLine := Nat.le_trans h (by rw [sizeLine_eq]; decide)
theorem lim_lt {n : Nat} (h : n < LIM) : n < sizeLine := Nat.lt_of_lt_of_le h (by rw [sizeLine_eq]; decide)
/-- the slots forgotten -/
def wipeE (ρ : Rho) : List Nat → Rho
  | [] => ρ
  | v :: vs => (wipeE ρ vs).set v none
/-- the slots as they were -/
def restE (ρ0 ρ : Rho) : List Nat → Rho
  | [] => ρ
  | v :: vs => match ρ0[v]? with
    | some x => (restE ρ0 ρ vs).set v x
    | none => restE ρ0 ρ vs
section
variable {ρ ρ0 : Rho}
theorem wipeE_len (ρ : Rho) : ∀ vs, (wipeE ρ vs).length = ρ.length
  | [] => rfl
  | v :: vs => by unfold wipeE; rw [List.length_set, wipeE_len ρ vs]
theorem wipeE_off {vs : List Nat} {i : Nat} (h : i ∉ vs) : (wipeE ρ vs)[i]? = ρ[i]? := by
  induction vs with
  | nil => rfl
  | cons v vs ih =>
    unfold wipeE
    rw [List.getElem?_set_ne (fun z => h (by simp [z]))]
    exact ih fun z => h (List.mem_cons_of_mem _ z)
theorem wipeE_on {vs : List Nat} {i : Nat} {x : Option (Stt × PyData)} (h : i ∈ vs) (e : (wipeE ρ vs)[i]? = some x) : x = none := by
  induction vs with
  | nil => simp at h
  | cons v vs ih =>
    unfold wipeE at e
    rcases mem_set_slot e with ⟨_, e1⟩ | ⟨hne, e1⟩
    · exact e1
    · rcases List.mem_cons.mp h with z | z
      · exact absurd z hne
      · exact ih z e1
theorem restE_len (ρ0 ρ : Rho) : ∀ vs, (restE ρ0 ρ vs).length = ρ.length
  | [] => rfl
  | v :: vs => by
    unfold restE
    split
    · rw [List.length_set, restE_len ρ0 ρ vs]
    · exact restE_len ρ0 ρ vs
theorem restE_off {vs : List Nat} {i : Nat} (h : i ∉ vs) : (restE ρ0 ρ vs)[i]? = ρ[i]? := by
  induction vs with
  | nil => rfl
  | cons v vs ih =>
    unfold restE
    have ih' := ih fun z => h (List.mem_cons_of_mem _ z)
    split
    · rw [List.getElem?_set_ne (fun z => h (by simp [z]))]
      exact ih'
    · exact ih'
theorem restE_on {vs : List Nat} {i : Nat} (hl : ρ.length = ρ0.length) (h : i ∈ vs) : (restE ρ0 ρ vs)[i]? = ρ0[i]? := by
  induction vs with
  | nil => simp at h
  | cons v vs ih =>
    unfold restE
    by_cases hv : i = v
    · subst hv
      cases e : ρ0[i]? with
      | some x =>
        dsimp only
        rw [List.getElem?_set_self]
        rw [restE_len, hl]
        exact (List.getElem?_eq_some_iff.mp e).1
      | none =>
        dsimp only
        rw [List.getElem?_eq_none_iff, restE_len, hl]
        exact List.getElem?_eq_none_iff.mp e
    · have hm : i ∈ vs := (List.mem_cons.mp h).resolve_left hv
      split
      · rw [List.getElem?_set_ne (Ne.symm hv)]
        exact ih hm
      · exact ih hm
end

/-! ### the frame's state without some slots, and back -/
section
variable {K : PySem.W.Frag} {S S' S2 S4 : Addr → Prop} {ρ ρ' ρc ρ2 ρ4 : Rho} {σ σ2 σw : L2.St} {H H' H2 H4 : Hp} {vs : List Nat} {a : Addr}
theorem wipe_off (σ : L2.St) {vs : List Nat} {i : Nat} (h : i ∉ vs) : (wipe σ vs)[i]? = σ[i]? := by
  induction vs with
  | nil => rfl
  | cons v vs ih =>
    unfold wipe
    rw [List.getElem?_set_ne (fun z => h (by simp [z]))]
    exact ih fun z => h (List.mem_cons_of_mem _ z)
theorem Gd.wiped (g : Gd K S ρ σ H) : Gd K S (wipeE ρ vs) (wipe σ vs) H := by
  have off : ∀ {i : Nat} {p : Stt × PyData}, (wipeE ρ vs)[i]? = some (some p) → i ∉ vs ∧ ρ[i]? = some (some p) := fun {i p} h => by
    by_cases hi : i ∈ vs
    · exact absurd (wipeE_on hi h) (by simp)
    · exact ⟨hi, by rw [← wipeE_off hi]; exact h⟩
  refine ⟨by rw [wipeE_len, wipe_length]; exact g.len, fun i st d h => ?_, fun i j b st d st' d' h1 h2 h3 h4 h5 h6 => ?_, g.al⟩
  · obtain ⟨hi, h⟩ := off h
    rw [wipe_off σ hi]
    exact g.sl i st d h
  · obtain ⟨hi, h1⟩ := off h1
    obtain ⟨hj, h2⟩ := off h2
    rw [wipe_off σ hi] at h5
    rw [wipe_off σ hj] at h6
    exact g.ne i j b st d st' d' h1 h2 h3 h4 h5 h6
theorem Mu.wiped (h : Mu (wipeE ρ vs) (wipe σ vs) a) : Mu ρ σ a := by
  obtain ⟨i, st, d, h1, h2, h3⟩ := h
  by_cases hi : i ∈ vs
  · exact absurd (wipeE_on hi h1) (by simp)
  · rw [wipeE_off hi] at h1
    rw [wipe_off σ hi] at h3
    exact ⟨i, st, d, h1, h2, h3⟩
/-- a turn of a block: from ρc (wiped) by a store at vs to ρ2, on to ρ4, wiped again -/
theorem turn_back (hc : ∀ (i : Nat) (x : Option (Stt × PyData)), i ∈ vs → ρc[i]? = some x → x = none) (o : Sto vs ρc σw ρ2 σ2) (hw : σw.length = ρc.length) (g4 : Gd K S4 ρ4 σ2 H4) (f : Fm S2 ρ2 σ2 H2 S4 ρ4 H4) (gc : Gd K S2 ρc σw H2) (hl : ρ2.length = ρc.length) (hwipe : wipe σ2 vs = σw) :
    Gd K S4 (wipeE ρ4 vs) σw H4 ∧ Fm S2 ρc σw H2 S4 (wipeE ρ4 vs) H4 := by
  have muIff : ∀ b, Mu ρ2 σ2 b → Mu ρc σw b := by
    rintro b ⟨i, st, d, h1, h2, h3⟩
    by_cases hi : i ∈ vs
    · rcases o.on i st d hi h1 with z | z
      · subst z; cases h2
      · have := hc i _ hi z; cases this
    · refine ⟨i, st, d, by rw [← (o.off i hi).1]; exact h1, h2, by rw [← (o.off i hi).2]; exact h3⟩
  refine ⟨?_, ⟨f.dom, fun b ob e nm => f.keep b ob e fun z => nm (muIff b z), f.sh, fun b h => ?_, by rw [wipeE_len, f.len, hl], fun i h => ?_, fun i st d h => ?_⟩⟩
  · have := g4.wiped (vs := vs)
    rw [hwipe] at this
    exact this
  · rcases f.new b h with z | z | z
    · exact .inl z
    · exact .inr (.inl (muIff b z))
    · exact .inr (.inr z)
  · by_cases hi : i ∈ vs
    · have hlt : i < (wipeE ρ4 vs).length := by
        rw [wipeE_len, f.len, hl]
        exact (List.getElem?_eq_some_iff.mp h).1
      rw [List.getElem?_eq_getElem hlt]
      rw [wipeE_on hi (List.getElem?_eq_getElem hlt)]
    · rw [wipeE_off hi]
      refine f.non i ?_
      rw [(o.off i hi).1]
      exact h
  · by_cases hi : i ∈ vs
    · have := hc i _ hi h; cases this
    · obtain ⟨st', d', h1, h2, h3⟩ := f.sts i st d (by rw [(o.off i hi).1]; exact h)
      exact ⟨st', d', by rw [wipeE_off hi]; exact h1, h2, h3⟩
/-- behind the block: the slots as they were -/
theorem block_back (g : Gd K S ρ σ H) (gw : Gd K S' ρ' (wipe σ vs) H') (f : Fm S (wipeE ρ vs) (wipe σ vs) H S' ρ' H') : Gd K S' (restE ρ ρ' vs) σ H' ∧ Fm S ρ σ H S' (restE ρ ρ' vs) H' := by
  have hl : ρ'.length = ρ.length := by rw [f.len, wipeE_len]
  have u : Uph S H S' H' := ⟨f.sh, fun b o hs e => f.keep b o e fun m => g.notMu hs m.wiped⟩
  have stay : ∀ (i : Nat) (st : Stt) (d : PyData) (b : Addr), i ∈ vs → ρ[i]? = some (some (st, d)) → st.hold = true → σ[i]? = some (some (V.ref b)) → ¬ S b → ¬ Mu (wipeE ρ vs) (wipe σ vs) b ∧ ¬ S' b := fun i st d b hi h1 hh h2 ns => by
    have nm : ¬ Mu (wipeE ρ vs) (wipe σ vs) b := by
      rintro ⟨j, st', d', z1, z2, z3⟩
      by_cases hj : j ∈ vs
      · exact absurd (wipeE_on hj z1) (by simp)
      · rw [wipeE_off hj] at z1
        rw [wipe_off σ hj] at z3
        have hold : st'.hold = true := by cases st' <;> first | rfl | cases z2
        have := g.ne i j b st d st' d' h1 z1 hh hold h2 z3
        exact hj (this ▸ hi)
    refine ⟨nm, fun s' => ?_⟩
    rcases f.new b s' with z | z | z
    · exact ns z
    · exact nm z
    · exact g.held h1 hh h2 z
  refine ⟨⟨by rw [restE_len, hl]; exact g.len, fun i st d h => ?_, fun i j b st d st' d' h1 h2 h3 h4 h5 h6 => ?_, gw.al⟩, ⟨f.dom, fun b o e nm => f.keep b o e fun z => nm z.wiped, f.sh, fun b h => ?_, by rw [restE_len, hl], fun i h => ?_, fun i st d h => ?_⟩⟩
  · by_cases hi : i ∈ vs
    · rw [restE_on hl hi] at h
      obtain ⟨v, h1, h2⟩ := g.sl i st d h
      refine ⟨v, h1, ?_⟩
      cases st with
      | shr => exact Rp.up u h2
      | own => obtain ⟨b, rfl, ns, t⟩ := h2; obtain ⟨nm, ns'⟩ := stay i _ d b hi h rfl h1 ns; exact ⟨b, rfl, ns', TopX.up u (fun o e => f.keep b o e nm) t⟩
      | lent => obtain ⟨b, rfl, ns, t⟩ := h2; obtain ⟨nm, ns'⟩ := stay i _ d b hi h rfl h1 ns; exact ⟨b, rfl, ns', TopX.up u (fun o e => f.keep b o e nm) t⟩
      | bor => obtain ⟨b, rfl, ns, t⟩ := h2; obtain ⟨nm, ns'⟩ := stay i _ d b hi h rfl h1 ns; exact ⟨b, rfl, ns', TopR.up u (fun o e => f.keep b o e nm) t⟩
      | scr =>
        obtain ⟨b, ns, rfl, e1, k⟩ := h2
        refine ⟨b, ns, rfl, e1, KLst.keep (fun o e => f.keep b _ e ?_) k⟩
        intro m
        obtain ⟨j, st', d', z1, z2, z3⟩ := m.wiped
        obtain ⟨w, y1, y2⟩ := g.sl j st' d' z1
        rw [z3] at y1; cases y1
        cases st' with
        | own => 
          obtain ⟨c, ec, _, t⟩ := y2; cases ec
          cases d' with
          | list ds => obtain ⟨vs, q, _⟩ := t; rw [q] at e; cases e
          | dict kvs => rcases t with ⟨ts, q, _⟩ | ⟨ts, _, _, q, _⟩ <;> (rw [q] at e; cases e)
          | _ => exact t.elim
        | lent => 
          obtain ⟨c, ec, _, t⟩ := y2; cases ec
          cases d' with
          | list ds => obtain ⟨vs, q, _⟩ := t; rw [q] at e; cases e
          | dict kvs => rcases t with ⟨ts, q, _⟩ | ⟨ts, _, _, q, _⟩ <;> (rw [q] at e; cases e)
          | _ => exact t.elim
        | _ => cases z2
    · rw [restE_off hi] at h
      obtain ⟨v, h1, h2⟩ := gw.sl i st d h
      rw [wipe_off σ hi] at h1
      exact ⟨v, h1, h2⟩
  · -- two held slots
    have inn : ∀ {k : Nat} {s1 : Stt} {e1 : PyData}, (restE ρ ρ' vs)[k]? = some (some (s1, e1)) → s1.hold = true → ∃ e2, ρ[k]? = some (some (s1, e2)) := fun {k s1 e1} h hh => by
      by_cases hk : k ∈ vs
      · rw [restE_on hl hk] at h; exact ⟨e1, h⟩
      · rw [restE_off hk] at h
        obtain ⟨e2, h2⟩ := f.held h hh
        rw [wipeE_off hk] at h2
        exact ⟨e2, h2⟩
    obtain ⟨e1, y1⟩ := inn h1 h3
    obtain ⟨e2, y2⟩ := inn h2 h4
    exact g.ne i j b st e1 st' e2 y1 y2 h3 h4 h5 h6
  · rcases f.new b h with z | z | z
    · exact .inl z
    · exact .inr (.inl z.wiped)
    · exact .inr (.inr z)
  · by_cases hi : i ∈ vs
    · rw [restE_on hl hi]; exact h
    · rw [restE_off hi]
      exact f.non i (by rw [wipeE_off hi]; exact h)
  · by_cases hi : i ∈ vs
    · exact ⟨st, d, by rw [restE_on hl hi]; exact h, .inl rfl, fun _ => rfl⟩
    · obtain ⟨st', d', h1, h2, h3⟩ := f.sts i st d (by rw [wipeE_off hi]; exact h)
      exact ⟨st', d', by rw [restE_off hi]; exact h1, h2, h3⟩
theorem wipe_sto (o : Sto vs (wipeE ρ vs) (wipe σ vs) ρ2 σ2) : wipe σ2 vs = wipe σ vs := by
  apply List.ext_getElem?
  intro i
  have hl : σ2.length = σ.length := by rw [o.len, wipe_length]
  by_cases hi : i ∈ vs
  · have non : ∀ τ : L2.St, ∀ x, (wipe τ vs)[i]? = some x → x = none := by
      intro τ x h
      cases x with
      | none => rfl
      | some v => exact absurd hi (wipe_some h).2
    cases h1 : (wipe σ2 vs)[i]? with
    | none =>
      rw [List.getElem?_eq_none_iff, wipe_length, hl] at h1
      exact (List.getElem?_eq_none_iff.mpr (by rw [wipe_length]; exact h1)).symm
    | some x =>
      have hx := non _ _ h1
      have hlt := (List.getElem?_eq_some_iff.mp h1).1
      rw [wipe_length, hl] at hlt
      have hlt2 : i < (wipe σ vs).length := by rw [wipe_length]; exact hlt
      rw [List.getElem?_eq_getElem hlt2, hx, non σ _ (List.getElem?_eq_getElem hlt2)]
  · rw [wipe_off σ2 hi, (o.off i hi).2]
end

/-! ### [elt for target in iter if ..] -/
def lcM (vs : List Nat) (g : G1) (t : Mo Bool) (fe : Mo Rs) : List PyData → List PyData → Mo (List PyData)
  | [], acc => retM acc
  | d :: ds, acc => fun ρ => match g.run d ρ with
    | none => none
    | some (_, ρ1) => match t ρ1 with
      | none => none
      | some (false, ρ2) => lcM vs g t fe ds acc (wipeE ρ2 vs)
      | some (true, ρ2) => match bindM fe keepR ρ2 with
        | none => none
        | some (y, ρ3) => if acc.length < LIM then lcM vs g t fe ds (acc ++ [y]) (wipeE ρ3 vs) else none
def xLc (vs : List Nat) (fi : Mo (List PyData)) (g : G1) (t : Mo Bool) (fe : Mo Rs) : Mo Rs := fun ρ => match fi ρ with
  | none => none
  | some (ds, ρ1) => match lcM vs g t fe ds [] (wipeE ρ1 vs) with
    | none => none
    | some (acc, ρ2) => some (.fresh (.list acc), restE ρ1 ρ2 vs)
def tYesM : Mo Bool := retM true
/-- an iterator that walks ds goes on doing so behind growth that leaves T alone -/
theorem lc_ok {K : PySem.W.Frag} {vs : List Nat} {fi : Mo (List PyData)} {g : G1} {t : Mo Bool} {fe : Mo Rs} {σ : L2.St} {H : Hp} {Q : VK} (hv : g.vs = vs) (h : tD K (xLc vs fi g t fe) σ H Q) : tLc (tI K fi) (tG K g) (tT K t) (tD K fe) vs σ H Q := by
  obtain ⟨S, ρ, r, ρ', G, e, q⟩ := h
  unfold xLc at e
  cases ei : fi ρ with
  | none => rw [ei] at e; cases e
  | some p =>
    obtain ⟨ds, ρ1⟩ := p
    rw [ei] at e
    dsimp only at e
    cases el : lcM vs g t fe ds [] (wipeE ρ1 vs) with
    | none => rw [el] at e; cases e
    | some p =>
      obtain ⟨accE, ρ2⟩ := p
      rw [el] at e
      cases e
      refine ⟨S, ρ, ds, ρ1, G, ei, fun J S1 H1 T F1 G1 hT W D hD => ?_⟩
      have E0 : Gw S1 H1 S1 (upd H1 D (.lst [])) := Gw.lay G1.al hD
      have nSD : ¬ S1 D := fun z => G1.al D z hD
      have Gw0 : Gd K S1 (wipeE ρ1 vs) (wipe σ vs) (upd H1 D (.lst [])) := (G1.wiped (vs := vs)).ext E0
      -- the state of a turn
      refine ⟨fun i m H2 => ∃ S2 ρc acc, Gd K S2 ρc (wipe σ vs) H2 ∧ (∀ (j : Nat) (x : Option (Stt × PyData)), j ∈ vs → ρc[j]? = some x → x = none) ∧ Fm S1 (wipeE ρ1 vs) (wipe σ vs) H1 S2 ρc H2 ∧ ¬ S2 D ∧ (∃ ws, H2 D = some (.lst ws) ∧ RpL K S2 H2 ws acc) ∧ i ≤ ds.length ∧ m = ds.length - i ∧
        lcM vs g t fe (ds.drop i) acc ρc = some (accE, ρ2), ⟨ds.length, S1, wipeE ρ1 vs, [], Gw0, fun j x hj hx => wipeE_on hj hx, E0.fr, nSD, ⟨[], upd_same, .nil⟩, Nat.zero_le _, rfl, el⟩, ?_⟩
      rintro i m H2 ⟨S2, ρc, acc, G2, hc, F2, nD2, ⟨ws, hws, rws⟩, hi, rfl, e3⟩
      have u : Uph S1 H1 S2 H2 := ⟨F2.sh, fun a o hs ha => F2.keep a o ha fun z => (G1.wiped (vs := vs)).notMu hs z⟩
      have tt : ∀ a o, T a → H1 a = some o → H2 a = some o := fun a o ha h => F2.keep a o h fun z => (hT a ha).2 z.wiped
      obtain ⟨w1, w2⟩ := W S2 H2 i u tt G2.al
      have nMD : ¬ Mu ρc (wipe σ vs) D := fun z => Mu.there (G1.wiped (vs := vs)) (F2.mu z) hD
      by_cases hlt : i < ds.length
      · obtain ⟨go, yl⟩ := w1 hlt
        refine .inr ⟨go, fun H' => ∃ S' ρ2' acc', Gd K S' ρ2' (wipe σ vs) H' ∧ (∀ (j : Nat) (x : Option (Stt × PyData)), j ∈ vs → ρ2'[j]? = some x → x = none) ∧ Fm S1 (wipeE ρ1 vs) (wipe σ vs) H1 S' ρ2' H' ∧ ¬ S' D ∧ (∃ ws, H' D = some (.lst ws) ∧ RpL K S' H' ws acc') ∧
          lcM vs g t fe (ds.drop (i + 1)) acc' ρ2' = some (accE, ρ2), fun H' ⟨S', ρ2', acc', a1, a2, a3, a4, a5, a6⟩ => ⟨ds.length - (i + 1), by omega, S', ρ2', acc', a1, a2, a3, a4, a5, hlt, rfl, a6⟩, fun x H3 y => ?_⟩
        obtain ⟨S3, d, E3, hd, rp⟩ := yl x H3 y
        have hdrop : ds.drop i = d :: ds.drop (i + 1) := by
          rw [List.drop_eq_getElem_cons hlt]
          rw [List.getElem?_eq_getElem hlt] at hd
          cases hd
          rfl
        rw [hdrop] at e3
        unfold lcM at e3
        cases eg : g.run d ρc with
        | none => rw [eg] at e3; cases e3
        | some p =>
          obtain ⟨_, ρ3⟩ := p
          rw [eg] at e3
          dsimp only at e3
          have G3 := G2.ext E3
          have nD3 : ¬ S3 D := fun z => (E3.new D z).elim nD2 (by rw [hws]; simp)
          have hws3 : H3 D = some (.lst ws) := E3.keep D _ hws
          have rws3 := RpL.up E3.up rws
          refine ⟨S3, ρc, d, ρ3, G3, rp, eg, fun σ4 G4 F4 O4 => ?_⟩
          rw [hv] at O4
          have hwp : wipe σ4 vs = wipe σ vs := by
            have O4' : Sto vs (wipeE ρc vs) (wipe (wipe σ vs) vs) ρ3 σ4 := by
              have e1 : wipeE ρc vs = ρc := by
                apply List.ext_getElem?
                intro j
                by_cases hj : j ∈ vs
                · cases h1 : ρc[j]? with
                  | none => rw [List.getElem?_eq_none_iff] at h1 ⊢; rw [wipeE_len]; exact h1
                  | some x =>
                    have hx := hc j x hj h1
                    have hlt := (List.getElem?_eq_some_iff.mp h1).1
                    have hlt2 : j < (wipeE ρc vs).length := by rw [wipeE_len]; exact hlt
                    rw [List.getElem?_eq_getElem hlt2, wipeE_on hj (List.getElem?_eq_getElem hlt2), hx]
                · exact wipeE_off hj
              have e2 : wipe (wipe σ vs) vs = wipe σ vs := by
                have := wipe_sto (ρ := ρc) (σ := σ) (vs := vs) (ρ2 := wipeE ρc vs) (σ2 := wipe σ vs) Sto.refl
                exact this
              rw [e1, e2]; exact O4
            have := wipe_sto O4'
            have e2 : wipe (wipe σ vs) vs = wipe σ vs := wipe_sto (ρ := ρc) (σ := σ) (vs := vs) (ρ2 := wipeE ρc vs) (σ2 := wipe σ vs) Sto.refl
            rw [this, e2]
          refine ⟨hwp, ?_⟩
          have hl3 : ρ3.length = ρc.length := F4.len
          cases et : t ρ3 with
          | none => rw [et] at e3; cases e3
          | some p =>
            obtain ⟨b, ρ4⟩ := p
            rw [et] at e3
            refine ⟨S3, ρ3, b, ρ4, G4, et, fun S5 H5 F5 G5 => ?_⟩
            have nMD3 : ¬ Mu ρ3 σ4 D := fun z => (F4.mu z).elim nMD (by rw [hws3]; simp)
            have keepD : ∀ {Sx : Addr → Prop} {ρx : Rho} {Hx : Hp}, Fm S3 ρ3 σ4 H3 Sx ρx Hx → Hx D = some (.lst ws) ∧ ¬ Sx D := fun {Sx ρx Hx} f => ⟨f.keep D _ hws3 nMD3, fun z => (f.new D z).elim nD3 fun z => z.elim nMD3 (by rw [hws3]; simp)⟩
            have done : ∀ {Sx : Addr → Prop} {ρx : Rho} {Hx : Hp}, Fm S3 ρ3 σ4 H3 Sx ρx Hx → Gd K Sx ρx σ4 Hx → Gd K Sx (wipeE ρx vs) (wipe σ vs) Hx ∧ Fm S1 (wipeE ρ1 vs) (wipe σ vs) H1 Sx (wipeE ρx vs) Hx := fun {Sx ρx Hx} f gx => by
              obtain ⟨b1, b2⟩ := turn_back hc O4 (by rw [wipe_length]; exact (by have := G2.len; rw [wipe_length] at this; exact this.symm)) gx f G3 hl3 hwp
              exact ⟨b1, F2.trans (E3.fr.trans b2)⟩
            cases b with
            | false =>
              dsimp only at e3
              obtain ⟨b1, b2⟩ := done F5 G5
              obtain ⟨k1, k2⟩ := keepD F5
              exact iteF ⟨S5, wipeE ρ4 vs, acc, b1, fun j x hj hx => wipeE_on hj hx, b2, k2, ⟨ws, k1, RpL.up (F5.up G4) rws3⟩, e3⟩
            | true =>
              dsimp only at e3
              refine iteT ?_
              cases ee : bindM fe keepR ρ4 with
              | none => rw [ee] at e3; cases e3
              | some p =>
                obtain ⟨yd, ρ6⟩ := p
                rw [ee] at e3
                dsimp only at e3
                obtain ⟨r6, ρ5, e6, e7⟩ := bindM_some ee
                split at e3
                · rename_i hlim
                  refine ⟨S5, ρ4, r6, ρ5, G5, e6, fun v S6 H6 F6 G6 R6 => ?_⟩
                  have n6 : Now K σ4 S3 ρ3 H3 S6 ρ5 H6 := (⟨G4, F5, G5⟩ : Now K σ4 S3 ρ3 H3 S5 ρ4 H5).step F6 G6
                  have R6' : RR K H3 S6 H6 ρ5 σ4 v r6 := R6.pre ⟨G4, F5, G5⟩
                  obtain ⟨S7, n7, p7, sh7⟩ := R6'.w.keep n6 e7
                  obtain ⟨k1, k2⟩ := keepD n7.f
                  obtain ⟨b1, b2⟩ := done n7.f n7.g
                  have rws7 := RpL.up (n7.f.up G4) rws3
                  have al7 := n7.g.al
                  have u7 : Uph S7 H6 S7 (upd H6 D (.lst (ws ++ [v]))) := ⟨fun _ h => h, fun b o hb hh => by rw [upd_ne (show b ≠ D from fun z => k2 (z ▸ hb))]; exact hh⟩
                  have nMw : ¬ Mu (wipeE ρ6 vs) (wipe σ vs) D := fun z => Mu.there (G1.wiped (vs := vs)) (b2.mu z) hD
                  refine ⟨ws, k1, by rw [rws7.len]; exact lim_lt hlim, S7, wipeE ρ6 vs, acc ++ [yd], ?_, fun j x hj hx => wipeE_on hj hx, ⟨fun b hb => ?_, fun b o hb nm => ?_, b2.sh, b2.new, b2.len, b2.non, b2.sts⟩, k2, ⟨ws ++ [v], upd_same, (RpL.up u7 rws7).app (.cons (Rp.up u7 p7) .nil)⟩, e3⟩
                  · -- the new list has one more item: no slot holds it
                    refine ⟨b1.len, fun j st d' hj => ?_, b1.ne, fun b hb => ?_⟩
                    · obtain ⟨w', z1, z2⟩ := b1.sl j st d' hj
                      refine ⟨w', z1, ?_⟩
                      have other : ∀ b, w' = .ref b → st.hold = true → b ≠ D := fun b eb hh zz => by
                        subst eb
                        obtain ⟨d2, hj2⟩ := b2.held hj hh
                        have := (G1.wiped (vs := vs)).held hj2 hh z1
                        rw [zz] at this
                        exact this hD
                      cases st with
                      | shr => exact Rp.up u7 z2
                      | own => obtain ⟨b, rfl, ns, tx⟩ := z2; exact ⟨b, rfl, ns, TopX.up u7 (fun o hh => by rw [upd_ne (other b rfl rfl)]; exact hh) tx⟩
                      | lent => obtain ⟨b, rfl, ns, tx⟩ := z2; exact ⟨b, rfl, ns, TopX.up u7 (fun o hh => by rw [upd_ne (other b rfl rfl)]; exact hh) tx⟩
                      | bor => obtain ⟨b, rfl, ns, tx⟩ := z2; exact ⟨b, rfl, ns, TopR.up u7 (fun o hh => by rw [upd_ne (other b rfl rfl)]; exact hh) tx⟩
                      | scr =>
                        obtain ⟨b, ns1, rfl, e1, k⟩ := z2
                        refine ⟨b, ns1, rfl, e1, KLst.keep (fun o hh => ?_) k⟩
                        rw [upd_ne (ne_of hh k1 (by intro z; cases z))]
                        exact hh
                    · by_cases z : b = D
                      · exact absurd (z ▸ hb) k2
                      · rw [upd_ne z]; exact b1.al b hb
                  · by_cases z : b = D
                    · rw [z, upd_same]; simp
                    · rw [upd_ne z]; exact b2.dom b hb
                  · rw [upd_ne (ne_of_none hb hD)]
                    exact b2.keep b o hb nm
                · cases e3
      · have hie : ds.drop i = [] := List.drop_eq_nil_of_le (by omega)
        rw [hie] at e3
        cases retM_some e3
        refine .inl ⟨w2 (by omega), ?_⟩
        obtain ⟨c1, c2⟩ := block_back G1 G2 F2
        have n1 : Now K σ S ρ H S1 ρ1 H1 := ⟨G, F1, G1⟩
        exact q (.ref D) S2 H2 (F1.trans c2) c1 ⟨D, rfl, n1.none0 hD, nD2, ws, hws, rws⟩
abbrev TsD (X : Cx) (ifs : List Expr) (f : Mo Bool) : Prop := PTs X ifs (tT X.K f)
theorem PTs.to {X : Cx} {e : List Expr} {t t' : TT} (h : PTs X e t) (i : ∀ σ H Q, t' σ H Q → t σ H Q) : PTs X e t' := ⟨fun pins s σ H Q I q => h.run pins s σ H Q I (i σ H Q q)⟩
section
variable {X : Cx} {elt tg iter : Expr} {ifs : List Expr} {scope : Scope} {pos : Pos} {fi : Mo (List PyData)} {g : G1} {t : Mo Bool} {fe : Mo Rs}
theorem tsd_nil : TsD X [] tYesM := PTs.to pts_nil fun σ H Q h => by
  obtain ⟨S, ρ, b, ρ', G, e, q⟩ := h
  cases retM_some e
  exact q S H Fm.refl G
theorem tsd_one {c : Expr} (h : TD X c t) : TsD X [c] t := pts_one h
theorem pd_lc (own : List (Str × Nat)) (hc : X.calm = true) (hN : X.N.Nodup) (hi : ID X tg iter fi) (ok : BlkOk X.N X.env.scope scope own) (hv : g.vs = own.map (·.2))
    (hg : ∀ (s : Shared) (H : Hp) (C : Addr) (cl : List (Str × Addr)) (fp : List Addr), GD (X.blk s H scope (compEnvC scope cl C X.env) fp) tg g) (ht : ∀ (s : Shared) (H : Hp) (C : Addr) (cl : List (Str × Addr)) (fp : List Addr), TsD (X.blk s H scope (compEnvC scope cl C X.env) fp) ifs t)
    (he : ∀ (s : Shared) (H : Hp) (C : Addr) (cl : List (Str × Addr)) (fp : List Addr), PD (X.blk s H scope (compEnvC scope cl C X.env) fp) elt fe) (hs : ∀ x, foldedSetIterable iter X.env x = pure x := by intro _; rfl) :
    PD X (.ListComp elt [⟨tg, iter, ifs, 0⟩] scope pos) (xLc (own.map (·.2)) fi g t fe) := PE.to (pe_lc hc hN hi ok hg ht he hs) fun σ H Q h => lc_ok hv h
/-- name = [..] on one line -/
theorem sd_setLc (i : Nat) {y : Str} {py spos : Pos} (own : List (Str × Nat)) (hc : X.calm = true) (hN : X.N.Nodup) (hi : ID X tg iter fi) (ok : BlkOk X.N X.env.scope scope own) (hv : g.vs = own.map (·.2))
    (hg : ∀ (s : Shared) (H : Hp) (C : Addr) (cl : List (Str × Addr)) (fp : List Addr), GD (X.blk s H scope (compEnvC scope cl C X.env) fp) tg g) (ht : ∀ (s : Shared) (H : Hp) (C : Addr) (cl : List (Str × Addr)) (fp : List Addr), TsD (X.blk s H scope (compEnvC scope cl C X.env) fp) ifs t)
    (he : ∀ (s : Shared) (H : Hp) (C : Addr) (cl : List (Str × Addr)) (fp : List Addr), PD (X.blk s H scope (compEnvC scope cl C X.env) fp) elt fe) (hsw : swapsWith (.ListComp elt [⟨tg, iter, ifs, 0⟩] scope pos) (some (.Name y py)) spos.line X.env = pure true)
    (hy : X.N[i]? = some y := by rfl) (hyl : X.env.scope.names.lookup y = some .local := by rfl) (hs : ∀ x, foldedSetIterable iter X.env x = pure x := by intro _; rfl) :
    SD X (.Assign [.Name y py] (.ListComp elt [⟨tg, iter, ifs, 0⟩] scope pos) spos) (sSet i (xLc (own.map (·.2)) fi g t fe)) := PS.to (ps_setLc hc hN hy hyl hsw hi ok hg ht he hs) fun D σ H h => by
  refine lc_ok (t := t) (fe := fe) hv ?_
  obtain ⟨S, ρ, r, ρ', G, e, q⟩ := h
  obtain ⟨r1, ρ1, e1, e2⟩ := bindM_some e
  obtain ⟨u, ρ2, e3, e4⟩ := bindM_some e2
  cases retM_some e4
  refine ⟨S, ρ, r1, ρ1, G, e1, fun v S1 H1 F1 G1 R1 => ?_⟩
  obtain ⟨S2, G2, F2⟩ := R1.store ⟨G, F1, G1⟩ e3
  exact q _ S2 H1 F2 G2
end
end PyI

/-! PyI, part F: defs and their calls. -/
namespace PyI
open PySem PySem.Spec L2

/-- a def, as a function of its arguments: what it gives; what its first argument is behind it, where that is lent -/
abbrev Fn := List (Stt × PyData) → Option (Rs × Option PyData)
/-- what is given back -/
def retOf (ρ : Rho) : Fl → Option Rs
  | .nx => some (.kept .none)
  | .ret (.kept d) => some (.kept d)
  | .ret (.fresh d) => some (.fresh d)
  | .ret (.slot i) => match ρ[i]? with
    | some (some (.shr, d)) => some (.kept d)
    | some (some (.own, d)) => some (.fresh d)
    | _ => none
  | _ => none
def lentOf (ρ : Rho) : List (Stt × PyData) → Option (Option PyData)
  | (.lent, _) :: _ => match ρ[(0 : Nat)]? with
    | some (some (Stt.lent, d)) => some (some d)
    | _ => none
  | _ => some none
/-- the first argument alone may be lent, none is owned -/
def argsFit (np : Nat) (args : List (Stt × PyData)) : Bool := args.length == np && args.all (fun p => match p.1 with | .own => false | _ => true) && (args.drop 1).all (fun p => match p.1 with | .lent => false | _ => true)
def runF (np n : Nat) (body : Mo Fl) : Fn := fun args =>
  if argsFit np args = true then
    match body (args.map some ++ List.replicate (n - args.length) none) with
    | some (fl, ρ') => match retOf ρ' fl with
      | some r => match lentOf ρ' args with
        | some l => some (r, l)
        | none => none
      | none => none
    | none => none
  else none
/-- the frame of a call -/
structure Fc (S : Addr → Prop) (ρ : Rho) (σ : L2.St) (H : Hp) (S' : Addr → Prop) (H' : Hp) : Prop where
  dom : ∀ a, H a ≠ none → H' a ≠ none
  keep : ∀ a o, H a = some o → ¬ Mu ρ σ a → H' a = some o
  sh : ∀ a, S a → S' a
  new : ∀ a, S' a → S a ∨ Mu ρ σ a ∨ H a = none
  al : ∀ a, S' a → H' a ≠ none
def spI (K : PySem.W.Frag) (fn : Fn) : Sp := fun vs H Q _ => ∃ S args r l, Gd K S (args.map some) (vs.map some) H ∧ fn args = some (r, l) ∧
  ∀ v S' H', Fc S (args.map some) (vs.map some) H S' H' → RR K H S' H' [] [] v r → (∀ d', l = some d' → ∃ a, vs[0]? = some (.ref a) ∧ ¬ S' a ∧ TopX K S' H' a d') → Q v H'
theorem runF_fit {np n : Nat} {body : Mo Fl} {args : List (Stt × PyData)} {x : Rs × Option PyData} (e : runF np n body args = some x) : argsFit np args = true := by
  unfold runF at e
  split at e
  · assumption
  · cases e
theorem argsFit_len {np : Nat} {args : List (Stt × PyData)} (h : argsFit np args = true) : args.length = np := by
  unfold argsFit at h
  simp only [Bool.and_eq_true, beq_iff_eq] at h
  exact h.1.1
theorem argsFit_own {np : Nat} {args : List (Stt × PyData)} (h : argsFit np args = true) {i : Nat} {d : PyData} : args[i]? ≠ some (.own, d) := by
  intro e
  unfold argsFit at h
  simp only [Bool.and_eq_true, List.all_eq_true] at h
  have := h.1.2 _ (List.mem_of_getElem? e)
  simp at this
theorem argsFit_lent {np : Nat} {args : List (Stt × PyData)} (h : argsFit np args = true) {i : Nat} {d : PyData} (e : args[i]? = some (.lent, d)) : i = 0 := by
  cases i with
  | zero => rfl
  | succ i =>
    unfold argsFit at h
    simp only [Bool.and_eq_true, List.all_eq_true] at h
    have e' : (args.drop 1)[i]? = some (.lent, d) := by rw [List.getElem?_drop, Nat.add_comm]; exact e
    have := h.2 _ (List.mem_of_getElem? e')
    simp at this
section
variable {K : PySem.W.Frag} {S : Addr → Prop} {H : Hp}
theorem get_map_some {α : Type} {l : List α} {i : Nat} {x : Option α} (h : (l.map some)[i]? = some x) : ∃ y, x = some y ∧ l[i]? = some y := by
  rw [List.getElem?_map] at h
  cases e : l[i]? with
  | none => rw [e] at h; cases h
  | some y => rw [e] at h; cases h; exact ⟨y, rfl, rfl⟩
theorem get_start {α : Type} {l : List α} {n i : Nat} {y : α} (h : (l.map some ++ List.replicate n none)[i]? = some (some y)) : (l.map some)[i]? = some (some y) := by
  by_cases hi : i < (l.map some).length
  · rw [List.getElem?_append_left hi] at h
    exact h
  · rw [List.getElem?_append_right (Nat.le_of_not_lt hi), List.getElem?_replicate] at h
    split at h <;> cases h
theorem start_get {α : Type} {l : List α} {n i : Nat} {y : α} (h : (l.map some)[i]? = some (some y)) : (l.map some ++ List.replicate n none)[i]? = some (some y) := by
  rw [List.getElem?_append_left (List.getElem?_eq_some_iff.mp h).1]
  exact h
theorem Gd.entry {args : List (Stt × PyData)} {vs : List V} (n : Nat) (g : Gd K S (args.map some) (vs.map some) H) : Gd K S (args.map some ++ List.replicate (n - args.length) none) (vs.map some ++ List.replicate (n - vs.length) none) H := by
  have hl : args.length = vs.length := by have := g.len; simpa using this
  refine ⟨by simp [hl], fun i st d h => ?_, fun i j a st d st' d' h1 h2 h3 h4 h5 h6 => ?_, g.al⟩
  · obtain ⟨v, h1, h2⟩ := g.sl i st d (get_start h)
    exact ⟨v, start_get h1, h2⟩
  · exact g.ne i j a st d st' d' (get_start h1) (get_start h2) h3 h4 (get_start h5) (get_start h6)
theorem Mu.entry {args : List (Stt × PyData)} {vs : List V} {n m : Nat} {a : Addr} (h : Mu (args.map some ++ List.replicate n none) (vs.map some ++ List.replicate m none) a) : Mu (args.map some) (vs.map some) a := by
  obtain ⟨i, st, d, h1, h2, h3⟩ := h
  exact ⟨i, st, d, get_start h1, h2, get_start h3⟩
end
section
variable {P : Program} {w : World} {K : PySem.W.Frag} {mg : Str → Option Value} {base : Heap}
/-- THE RULE for a def: its body, as a function of the evaluator -/
theorem fnI_ok {x qual : Str} {st : Stmt} {f : Addr} {fd : FuncData} {N ps : List Str} {k : Nat} {body : Mo Fl} (F : Fun K x qual st f fd) (S : FnScope N ps (defScope st))
    (hbody : ∀ (cdv : Value) (A : Around) (outer : List Env) (s : Shared) (H : Hp) (E : XK), Room k (A.deeper (PyProof.Rows.envOfC qual (defScope st) s.heap.objs.size f cdv)) → BD (cxOf CX0 P w K mg base N qual (defScope st) f cdv A outer s H E).nox (defBody st) body) :
    FnOk P w K mg base CX0 (k + 1) f fd ps (spI K (runF ps.length N.length body)) := by
  refine F.ok S (fun vs H Q E h => ?_) (fun cdv A outer s H vs Q E hr h => ?_)
  · obtain ⟨S, args, r, l, g, e, _⟩ := h
    have hf := runF_fit e
    have := g.len
    simp only [List.length_map] at this
    rw [← this, argsFit_len hf]
  · obtain ⟨S0, args, r, l, g, e, q⟩ := h
    have hf := runF_fit e
    have hl : args.length = vs.length := by have := g.len; simpa using this
    refine ⟨_, hbody cdv A outer s H E hr, ?_⟩
    unfold runF at e
    rw [if_pos hf] at e
    cases eb : body (args.map some ++ List.replicate (N.length - args.length) none) with
    | none => rw [eb] at e; cases e
    | some p =>
      obtain ⟨fl, ρ'⟩ := p
      rw [eb] at e
      dsimp only at e
      cases er : retOf ρ' fl with
      | none => rw [er] at e; cases e
      | some r' =>
        rw [er] at e
        dsimp only at e
        cases el : lentOf ρ' args with
        | none => rw [el] at e; cases e
        | some l' =>
          rw [el] at e
          cases e
          refine ⟨S0, _, fl, ρ', g.entry N.length, eb, fun σ' S' H' f' g' => ?_⟩
          have fc : Fc S0 (args.map some) (vs.map some) H S' H' := ⟨f'.dom, fun a o e nm => f'.keep a o e fun m => nm m.entry, f'.sh, fun a h => by
            rcases f'.new a h with z | z | z
            · exact .inl z
            · exact .inr (.inl z.entry)
            · exact .inr (.inr z), g'.al⟩
          have lt : ∀ d', l = some d' → ∃ a, vs[0]? = some (.ref a) ∧ ¬ S' a ∧ TopX K S' H' a d' := by
            intro d' hd
            subst hd
            cases args with
            | nil => cases el
            | cons p rest =>
              obtain ⟨st0, d0⟩ := p
              cases st0 with
              | lent =>
                unfold lentOf at el
                dsimp only at el
                split at el
                · rename_i d2 h2
                  cases el
                  obtain ⟨v, h3, a, h4, h5, h6⟩ := g'.sl 0 .lent d' h2
                  obtain ⟨_, _, h8⟩ := f'.lent 0 _ h2
                  subst h4
                  rw [h3] at h8
                  have h9 := get_start h8.symm
                  rw [List.getElem?_map] at h9
                  cases hv : vs[0]? with
                  | none => rw [hv] at h9; cases h9
                  | some v0 => rw [hv] at h9; cases h9; exact ⟨a, rfl, h5, h6⟩
                · cases el
              | _ => cases el
          cases fl with
          | nx => cases er; exact q .non S' H' fc .non lt
          | bk => cases er
          | ct => cases er
          | ret r0 =>
            intro v hr0
            cases r0 with
            | kept d => cases er; exact q v S' H' fc hr0 lt
            | fresh d => cases er; exact q v S' H' fc hr0 lt
            | slot i =>
              unfold retOf at er
              dsimp only at er
              obtain ⟨hv, _⟩ := hr0
              split at er
              · rename_i d hd
                cases er
                obtain ⟨v', h1, h2⟩ := g'.sl i .shr d hd
                rw [hv] at h1; cases h1
                exact q v S' H' fc h2 lt
              · rename_i d hd
                cases er
                obtain ⟨v', h1, a, h2, h3, h4⟩ := g'.sl i .own d hd
                rw [hv] at h1; cases h1
                subst h2
                refine q _ S' H' fc ⟨a, rfl, ?_, h3, h4⟩ lt
                rcases f'.own i d a hd hv with z | ⟨j, d', z1, z2⟩
                · exact z
                · obtain ⟨y, hy1, hy2⟩ := get_map_some (get_start z1)
                  cases hy1
                  exact absurd hy2 (argsFit_own hf)
              · cases er

/-! ### calls -/
/-- the def x of the module, as fn, by at most level k -/
def Cl (P : Program) (w : World) (K : PySem.W.Frag) (mg : Str → Option Value) (base : Heap) (k : Nat) (x : Str) (fn : Fn) : Prop :=
  ∃ f fd ps, FnOk P w K mg base CX0 k f fd ps (spI K fn) ∧ mg x = some (.ref f) ∧ PySem.W.keepIn K (.ref f) = true ∧ Binds K fd ps []
end
/-- how an argument is handed over (not lent) -/
def argV (r : Rs) (ρ : Rho) : Option (Stt × PyData) := match r with
  | .kept d => some (.shr, d)
  | .fresh d => some (.shr, d)
  | .slot i => match ρ[i]? with
    | some (some (.shr, d)) => some (.shr, d)
    | some (some (.own, d)) => some (.bor, d)
    | some (some (.lent, d)) => some (.bor, d)
    | some (some (.bor, d)) => some (.bor, d)
    | some (some (.scr, d)) => some (.scr, d)
    | _ => none
/-- .. lent -/
def argL (r : Rs) (ρ : Rho) : Option (Stt × PyData) := match r with
  | .slot i => match ρ[i]? with
    | some (some (.own, d)) => some (.lent, d)
    | some (some (.lent, d)) => some (.lent, d)
    | _ => none
  | _ => none
def argVs (ρ : Rho) (lend : Bool) : List Rs → Option (List (Stt × PyData))
  | [] => some []
  | r :: rs => match (if lend = true then argL r ρ else argV r ρ), argVs ρ false rs with
    | some a, some l => some (a :: l)
    | _, _ => none
/-- one list or dict in two places -/
def clash (ρ : Rho) : Rs → Rs → Bool
  | .slot i, .slot j => i == j && (match ρ[i]? with
    | some (some (st, _)) => st.hold
    | _ => false)
  | _, _ => false
def noClash (ρ : Rho) : List Rs → Bool
  | [] => true
  | r :: rs => rs.all (fun r' => !clash ρ r r') && noClash ρ rs
/-- f(..) -/
def xCall (fn : Fn) (g : Mo (List Rs)) : Mo Rs := bindM g fun rs => fun ρ => match argVs ρ false rs with
  | some args => if noClash ρ rs = true then
      match fn args with
      | some (r, _) => match r with
        | .slot _ => none
        | r => some (r, ρ)
      | none => none
    else none
  | none => none
/-- f(state, ..): the first argument is lent -/
def xCallL (fn : Fn) (g : Mo (List Rs)) : Mo Rs := bindM g fun rs => fun ρ => match argVs ρ true rs with
  | some args => if noClash ρ rs = true then
      match fn args with
      | some (r, some d') => match rs, r with
        | .slot i :: _, .kept d => match ρ[i]? with
          | some (some (st, _)) => some (.kept d, ρ.set i (some (st, d')))
          | _ => none
        | .slot i :: _, .fresh d => match ρ[i]? with
          | some (some (st, _)) => some (.fresh d, ρ.set i (some (st, d')))
          | _ => none
        | _, _ => none
      | _ => none
    else none
  | none => none

/-- what is handed over: v stands for the result r, and what was new is shared -/
def ArgR (K : PySem.W.Frag) (S : Addr → Prop) (H : Hp) (ρ : Rho) (σ : L2.St) (v : V) : Rs → Prop
  | .kept d => Rp K S H v d
  | .fresh d => Rp K S H v d
  | .slot i => σ[i]? = some (some v) ∧ ∃ p, ρ[i]? = some (some p)
section
variable {K : PySem.W.Frag} {S0 S S' S'' : Addr → Prop} {ρ0 ρ ρ' ρ'' : Rho} {σ : L2.St} {H0 H H' H'' : Hp} {a : Addr} {v : V} {r : Rs} {d d' : PyData}
inductive ArgRL (K : PySem.W.Frag) (S : Addr → Prop) (H : Hp) (ρ : Rho) (σ : L2.St) : List V → List Rs → Prop
  | nil : ArgRL K S H ρ σ [] []
  | cons {v : V} {vs : List V} {r : Rs} {rs : List Rs} : ArgR K S H ρ σ v r → ArgRL K S H ρ σ vs rs → ArgRL K S H ρ σ (v :: vs) (r :: rs)
theorem ArgR.up (sh : ∀ b, S b → S' b) (h : ArgR K S H ρ σ v r) : ArgR K S' H ρ σ v r := by
  have u : Uph S H S' H := ⟨sh, fun _ _ _ h => h⟩
  cases r with
  | kept d => exact Rp.up u h
  | fresh d => exact Rp.up u h
  | slot i => exact h
theorem RRLw.hand : ∀ (rs : List Rs) {S : Addr → Prop} {vs : List V}, Now K σ S0 ρ0 H0 S ρ H → RRLw K H0 S H ρ σ vs rs → ∃ S', Now K σ S0 ρ0 H0 S' ρ H ∧ ArgRL K S' H ρ σ vs rs ∧ (∀ b, S b → S' b)
  | [], S, vs, n, h => by
    cases h
    exact ⟨S, n, .nil, fun _ h => h⟩
  | r :: rs, S, vs, n, h => by
    cases h with
    | cons h t =>
      rename_i v vs
      have go : ∃ S1, Now K σ S0 ρ0 H0 S1 ρ H ∧ ArgR K S1 H ρ σ v r ∧ ∀ b, S b → S1 b := by
        cases r with
        | kept d => exact ⟨S, n, h, fun _ h => h⟩
        | fresh d => exact RRw.keep n h (ρ' := ρ) (d := d) rfl
        | slot i => exact ⟨S, n, h, fun _ h => h⟩
      obtain ⟨S1, n1, p1, sh1⟩ := go
      obtain ⟨S2, n2, p2, sh2⟩ := RRLw.hand rs n1 (t.mono sh1 fun i p h => ⟨p, h⟩)
      exact ⟨S2, n2, .cons (p1.up sh2) p2, fun b hb => sh2 b (sh1 b hb)⟩
theorem noClash_get : ∀ {rs : List Rs} {i j : Nat} {r r' : Rs}, noClash ρ rs = true → i < j → rs[i]? = some r → rs[j]? = some r' → clash ρ r r' = false
  | [], _, _, _, _, _, _, h, _ => by simp at h
  | q :: rs, i, j, r, r', h, hij, h1, h2 => by
    unfold noClash at h
    simp only [Bool.and_eq_true, List.all_eq_true] at h
    cases j with
    | zero => omega
    | succ j =>
      rw [List.getElem?_cons_succ] at h2
      cases i with
      | zero =>
        simp at h1
        subst h1
        have := h.1 _ (List.mem_of_getElem? h2)
        simpa using this
      | succ i =>
        rw [List.getElem?_cons_succ] at h1
        exact noClash_get h.2 (by omega) h1 h2
/-- an argument and what it stands for -/
theorem argOne {lend : Bool} {st : Stt} (g : Gd K S ρ σ H) (h : ArgR K S H ρ σ v r) (e : (if lend = true then argL r ρ else argV r ρ) = some (st, d)) :
    SlotRep K S H v d st ∧ (st.hold = true → ∃ j st0, r = .slot j ∧ ρ[j]? = some (some (st0, d)) ∧ st0.hold = true ∧ σ[j]? = some (some v) ∧ (lend = true → st0.mut = true)) ∧ (lend = false → st.mut = false) ∧ (lend = true → st = .lent) := by
  cases lend with
  | true =>
    rw [if_pos rfl] at e
    unfold argL at e
    cases r with
    | slot i =>
      dsimp only at e
      obtain ⟨hv, _⟩ := h
      split at e
      · rename_i d1 h1
        cases e
        obtain ⟨v1, h2, h3⟩ := g.sl i .own d h1
        rw [hv] at h2; cases h2
        exact ⟨h3, fun _ => ⟨i, .own, rfl, h1, rfl, hv, fun _ => rfl⟩, fun z => (by cases z), fun _ => rfl⟩
      · rename_i d1 h1
        cases e
        obtain ⟨v1, h2, h3⟩ := g.sl i .lent d h1
        rw [hv] at h2; cases h2
        exact ⟨h3, fun _ => ⟨i, .lent, rfl, h1, rfl, hv, fun _ => rfl⟩, fun z => (by cases z), fun _ => rfl⟩
      · cases e
    | _ => cases e
  | false =>
    rw [if_neg (by decide)] at e
    unfold argV at e
    cases r with
    | kept d1 => cases e; exact ⟨h, fun z => (by cases z), fun _ => rfl, fun z => by cases z⟩
    | fresh d1 => cases e; exact ⟨h, fun z => (by cases z), fun _ => rfl, fun z => by cases z⟩
    | slot i =>
      dsimp only at e
      obtain ⟨hv, _⟩ := h
      split at e
      · rename_i d1 h1
        cases e
        obtain ⟨v1, h2, h3⟩ := g.sl i .shr d h1
        rw [hv] at h2; cases h2
        exact ⟨h3, fun z => (by cases z), fun _ => rfl, fun z => by cases z⟩
      · rename_i d1 h1
        cases e
        obtain ⟨v1, h2, a, h3, h4, h5⟩ := g.sl i .own d h1
        rw [hv] at h2; cases h2
        exact ⟨⟨a, h3, h4, TopX.r h5⟩, fun _ => ⟨i, .own, rfl, h1, rfl, hv, fun z => by cases z⟩, fun _ => rfl, fun z => by cases z⟩
      · rename_i d1 h1
        cases e
        obtain ⟨v1, h2, a, h3, h4, h5⟩ := g.sl i .lent d h1
        rw [hv] at h2; cases h2
        exact ⟨⟨a, h3, h4, TopX.r h5⟩, fun _ => ⟨i, .lent, rfl, h1, rfl, hv, fun z => by cases z⟩, fun _ => rfl, fun z => by cases z⟩
      · rename_i d1 h1
        cases e
        obtain ⟨v1, h2, h3⟩ := g.sl i .bor d h1
        rw [hv] at h2; cases h2
        exact ⟨h3, fun _ => ⟨i, .bor, rfl, h1, rfl, hv, fun z => by cases z⟩, fun _ => rfl, fun z => by cases z⟩
      · rename_i d1 h1
        cases e
        obtain ⟨v1, h2, h3⟩ := g.sl i .scr d h1
        rw [hv] at h2; cases h2
        exact ⟨h3, fun z => (by cases z), fun _ => rfl, fun z => by cases z⟩
      · cases e
/-- all of them -/
theorem argAll : ∀ {lend : Bool} {rs : List Rs} {vs : List V} {args : List (Stt × PyData)}, Gd K S ρ σ H → ArgRL K S H ρ σ vs rs → argVs ρ lend rs = some args →
    args.length = vs.length ∧ ∀ (i : Nat) (st : Stt) (d : PyData), args[i]? = some (st, d) → ∃ v r, vs[i]? = some v ∧ rs[i]? = some r ∧ SlotRep K S H v d st ∧
      (st.hold = true → ∃ j st0, r = .slot j ∧ ρ[j]? = some (some (st0, d)) ∧ st0.hold = true ∧ σ[j]? = some (some v) ∧ ((lend = true ∧ i = 0) → st0.mut = true)) ∧ (¬ (lend = true ∧ i = 0) → st.mut = false) ∧ ((lend = true ∧ i = 0) → st = .lent)
  | lend, [], vs, args, g, h, e => by
    cases h
    cases e
    exact ⟨rfl, fun i st d h => by simp at h⟩
  | lend, r :: rs, vs, args, g, h, e => by
    cases h with
    | cons h t =>
      rename_i v vs
      unfold argVs at e
      split at e
      · rename_i p l e1 e2
        cases e
        obtain ⟨hl, ih⟩ := argAll g t e2
        refine ⟨by rw [List.length_cons, List.length_cons, hl], fun i st d hi => ?_⟩
        cases i with
        | zero =>
          simp at hi
          subst hi
          obtain ⟨a1, a2, a3, a4⟩ := argOne g h e1
          refine ⟨v, r, rfl, rfl, a1, fun z => ?_, fun z => a3 ?_, fun z => a4 z.1⟩
          · obtain ⟨j, st0, b1, b2, b3, b4, b5⟩ := a2 z
            exact ⟨j, st0, b1, b2, b3, b4, fun y => b5 y.1⟩
          · cases lend with
            | false => rfl
            | true => exact absurd ⟨rfl, rfl⟩ z
        | succ i =>
          rw [List.getElem?_cons_succ] at hi
          obtain ⟨v1, r1, b1, b2, b3, b4, b5, _⟩ := ih i st d hi
          refine ⟨v1, r1, by simpa using b1, by simpa using b2, b3, fun z => ?_, fun _ => b5 (fun z => Bool.noConfusion z.1), fun z => Nat.noConfusion z.2⟩
          obtain ⟨j, st0, c1, c2, c3, c4, _⟩ := b4 z
          exact ⟨j, st0, c1, c2, c3, c4, fun y => Nat.noConfusion y.2⟩
      · cases e
theorem argGd {lend : Bool} {rs : List Rs} {vs : List V} {args : List (Stt × PyData)} (g : Gd K S ρ σ H) (h : ArgRL K S H ρ σ vs rs) (e : argVs ρ lend rs = some args) (nc : noClash ρ rs = true) : Gd K S (args.map some) (vs.map some) H := by
  obtain ⟨hl, hall⟩ := argAll g h e
  refine ⟨by simp [hl], fun i st d hi => ?_, fun i j a st d st' d' hi hj h1 h2 h3 h4 => ?_, g.al⟩
  · obtain ⟨y, hy1, hy2⟩ := get_map_some hi
    cases hy1
    obtain ⟨v, r, b1, b2, b3, _⟩ := hall i st d hy2
    exact ⟨v, by rw [List.getElem?_map, b1]; rfl, b3⟩
  · obtain ⟨y, hy1, hy2⟩ := get_map_some hi
    cases hy1
    obtain ⟨z, hz1, hz2⟩ := get_map_some hj
    cases hz1
    obtain ⟨v, r, b1, b2, b3, b4, _⟩ := hall i st d hy2
    obtain ⟨v', r', c1, c2, c3, c4, _⟩ := hall j st' d' hz2
    obtain ⟨si, sti, e1, e2, e3, e4, _⟩ := b4 h1
    obtain ⟨sj, stj, f1, f2, f3, f4, _⟩ := c4 h2
    rw [List.getElem?_map, b1] at h3; cases h3
    rw [List.getElem?_map, c1] at h4; cases h4
    have hs := g.ne si sj a sti d stj d' e2 f2 e3 f3 e4 f4
    subst hs
    subst e1
    subst f1
    have bad : ∀ {m n : Nat}, m < n → rs[m]? = some (.slot si) → rs[n]? = some (.slot si) → False := fun {m n} hmn hm hn => by
      have := noClash_get nc hmn hm hn
      unfold clash at this
      simp [e2, e3] at this
    rcases Nat.lt_trichotomy i j with hij | hij | hij
    · exact (bad hij b2 c2).elim
    · exact hij
    · exact (bad hij c2 b2).elim
/-- the call gives new things alone -/
theorem Fc.gw {args : List (Option (Stt × PyData))} {vs : L2.St} (f : Fc S args vs H S' H') (nm : ∀ a, ¬ Mu args vs a) : Gw S H S' H' :=
  ⟨fun a o e => f.keep a o e (nm a), f.sh, fun a h => (f.new a h).imp_right fun z => z.resolve_left (nm a), f.al⟩
/-- a call that changes the object of one slot -/
theorem Now.called {i : Nat} {st : Stt} (n : Now K σ S0 ρ0 H0 S ρ H) (h : ρ[i]? = some (some (st, d))) (hm : st.mut = true) (hv : σ[i]? = some (some (V.ref a)))
    (dom : ∀ b, H b ≠ none → H' b ≠ none) (keep : ∀ b o, H b = some o → b ≠ a → H' b = some o) (sh : ∀ b, S b → S' b) (new : ∀ b, S' b → S b ∨ H b = none) (al : ∀ b, S' b → H' b ≠ none) (nS : ¬ S' a) (t : TopX K S' H' a d') :
    Now K σ S0 ρ0 H0 S' (ρ.set i (some (st, d'))) H' := by
  have hi : i < ρ.length := (List.getElem?_eq_some_iff.mp h).1
  have hold : st.hold = true := by cases st <;> first | rfl | cases hm
  have mu : Mu ρ σ a := ⟨i, st, d, h, hm, hv⟩
  have ns : ¬ S a := fun z => n.g.notMu z mu
  have tx : TopX K S H a d := by
    obtain ⟨v, h1, h2⟩ := n.g.sl i st d h
    rw [hv] at h1; cases h1
    cases st with
    | own => obtain ⟨b, e, _, t⟩ := h2; cases e; exact t
    | lent => obtain ⟨b, e, _, t⟩ := h2; cases e; exact t
    | _ => cases hm
  have u : Uph S H S' H' := ⟨sh, fun b o hb e => keep b o e (show b ≠ a from fun z => ns (z ▸ hb))⟩
  have nw : ∀ b, H b ≠ none → ¬ S b → ¬ S' b := fun b h1 h2 h3 => (new b h3).elim h2 h1
  refine ⟨n.g0, ⟨fun b hb => dom b (n.f.dom b hb), fun b o e nm => keep b o (n.f.keep b o e nm) (show b ≠ a from fun z => nm (z ▸ n.f.mu mu)), fun b hb => sh b (n.f.sh b hb), fun b hb => ?_, by rw [List.length_set]; exact n.f.len, fun j hj => ?_, fun j st1 d1 hj => ?_⟩, ⟨by rw [List.length_set]; exact n.g.len, fun j st1 d1 hj => ?_, fun j k b st1 d1 st2 d2 hj hk ha hb hvj hvk => ?_, al⟩⟩
  · rcases new b hb with z | z
    · exact n.f.new b z
    · exact .inr (.inr (n.none0 z))
  · have hj' := n.f.non j hj
    have : j ≠ i := by rintro rfl; rw [h] at hj'; cases hj'
    rw [List.getElem?_set_ne (Ne.symm this)]
    exact hj'
  · obtain ⟨st2, d2, h3, h4, h5⟩ := n.f.sts j st1 d1 hj
    by_cases hji : j = i
    · subst hji
      rw [h] at h3; cases h3
      refine ⟨st, d', by rw [List.getElem?_set_self hi], h4, fun z => ?_⟩
      rcases h4 with rfl | ⟨rfl, _⟩
      · rw [hm] at z; cases z
      · cases z
    · exact ⟨st2, d2, by rw [List.getElem?_set_ne (Ne.symm hji)]; exact h3, h4, h5⟩
  · rcases mem_set_slot hj with ⟨rfl, e1⟩ | ⟨hne, hj⟩
    · cases e1
      refine ⟨_, hv, ?_⟩
      cases st with
      | own => exact ⟨a, rfl, nS, t⟩
      | lent => exact ⟨a, rfl, nS, t⟩
      | _ => cases hm
    · obtain ⟨w, h3, h4⟩ := n.g.sl j st1 d1 hj
      refine ⟨w, h3, ?_⟩
      have other : ∀ b, w = .ref b → st1.hold = true → b ≠ a := fun b e1 hh e2 => hne (n.g.ne j i a st1 d1 st d hj h hh hold (by rw [h3, e1, e2]) hv)
      cases st1 with
      | shr => exact Rp.up u h4
      | own => obtain ⟨b, rfl, ns', t1⟩ := h4; exact ⟨b, rfl, nw b (TopX.there t1) ns', TopX.up u (fun o e => keep b o e (other b rfl rfl)) t1⟩
      | lent => obtain ⟨b, rfl, ns', t1⟩ := h4; exact ⟨b, rfl, nw b (TopX.there t1) ns', TopX.up u (fun o e => keep b o e (other b rfl rfl)) t1⟩
      | bor => obtain ⟨b, rfl, ns', t1⟩ := h4; exact ⟨b, rfl, nw b (TopR.there t1) ns', TopR.up u (fun o e => keep b o e (other b rfl rfl)) t1⟩
      | scr =>
        obtain ⟨b, ns1, rfl, e1, k⟩ := h4
        refine ⟨b, ns1, rfl, e1, KLst.keep (fun o e => keep b _ e fun z => ?_) k⟩
        subst z
        cases d with
        | list ds => obtain ⟨vs, q, _⟩ := tx; rw [q] at e; cases e
        | dict kvs => rcases tx with ⟨ts, q, _⟩ | ⟨ts, _, _, q, _⟩ <;> (rw [q] at e; cases e)
        | _ => exact tx.elim
  · have f1 : ∀ {j : Nat} {st1 : Stt} {d1 : PyData}, (ρ.set i (some (st, d')))[j]? = some (some (st1, d1)) → ∃ d2, ρ[j]? = some (some (st1, d2)) := fun {j st1 d1} hj => by
      rcases mem_set_slot hj with ⟨rfl, e1⟩ | ⟨_, hj⟩
      · cases e1; exact ⟨d, h⟩
      · exact ⟨d1, hj⟩
    obtain ⟨x1, y1⟩ := f1 hj
    obtain ⟨x2, y2⟩ := f1 hk
    exact n.g.ne j k b st1 x1 st2 x2 y1 y2 ha hb hvj hvk
theorem RR.any {ρ1 ρ2 : Rho} {σ1 σ2 : L2.St} (h : RR K H0 S H ρ1 σ1 v r) (ns : ∀ i, r ≠ .slot i) : RR K H0 S H ρ2 σ2 v r := by
  cases r with
  | kept d => exact h
  | fresh d => exact h
  | slot i => exact absurd rfl (ns i)
end
section
variable {X : Cx} {k : Nat} {x : Str} {fn : Fn} {p pos : Pos} {e : Expr} {es : List Expr} {g : Mo (List Rs)}
theorem pd_call (c : Cl X.prog X.w X.K X.mg X.base k x fn) (hr : Room k X.A) (hg : Gl X x) (ha : AD X (e :: es) g) (hdb : (x == ("__debug__" : Str)) = false := by decide)
    (he : starEach (e :: es) X.env = (false, eval e X.env) :: starEach es X.env := by rfl) (hpl : (backTo pos (starEach es X.env)).any (·.1) = false := by rfl) : PD X (.Call (.Name x p) (e :: es) [] pos) (xCall fn g) := by
  obtain ⟨f, fd, ps, F, hm, hk, hb⟩ := c
  refine PE.to (pe_call F hr hg hm hk hb .nil pass0 ha hdb he hpl) fun σ H Q h => ?_
  obtain ⟨S, ρ, r, ρ', G, e, q⟩ := h
  obtain ⟨rs, ρ1, e1, e2⟩ := bindM_some e
  refine ⟨S, ρ, rs, ρ1, G, e1, fun vs S1 H1 F1 G1 R1 => ?_⟩
  have n1 : Now X.K σ S ρ H S1 ρ1 H1 := ⟨G, F1, G1⟩
  obtain ⟨S2, n2, A2, sh2⟩ := RRLw.hand rs n1 R1.w
  split at e2
  · rename_i args ea
    split at e2
    · rename_i nc
      split at e2
      · rename_i r0 l0 ef
        have hns : ∀ i, r0 ≠ .slot i := fun i z => by subst z; cases e2
        have he2 : r = r0 ∧ ρ' = ρ1 := by
          cases r0 with
          | slot i => cases e2
          | kept d => cases e2; exact ⟨rfl, rfl⟩
          | fresh d => cases e2; exact ⟨rfl, rfl⟩
        obtain ⟨rfl, rfl⟩ := he2
        show spI X.K fn (vs ++ []) H1 Q E0
        rw [List.append_nil]
        refine ⟨S2, args, r, l0, argGd n2.g A2 ea nc, ef, fun v S3 H3 fc rr _ => ?_⟩
        have gw : Gw S2 H1 S3 H3 := fc.gw fun a m => by
          obtain ⟨i, st, d, m1, m2, m3⟩ := m
          obtain ⟨y, hy1, hy2⟩ := get_map_some m1
          cases hy1
          obtain ⟨_, hall⟩ := argAll n2.g A2 ea
          obtain ⟨_, _, _, _, _, _, b5, _⟩ := hall i st d hy2
          rw [b5 (fun z => Bool.noConfusion z.1)] at m2
          cases m2
        exact q v S3 H3 (n2.grow gw).f (n2.grow gw).g ((rr.any hns).pre n2)
      · cases e2
    · cases e2
  · cases e2
theorem pd_callL (c : Cl X.prog X.w X.K X.mg X.base k x fn) (hr : Room k X.A) (hg : Gl X x) (ha : AD X (e :: es) g) (hdb : (x == ("__debug__" : Str)) = false := by decide)
    (he : starEach (e :: es) X.env = (false, eval e X.env) :: starEach es X.env := by rfl) (hpl : (backTo pos (starEach es X.env)).any (·.1) = false := by rfl) : PD X (.Call (.Name x p) (e :: es) [] pos) (xCallL fn g) := by
  obtain ⟨f, fd, ps, F, hm, hk, hb⟩ := c
  refine PE.to (pe_call F hr hg hm hk hb .nil pass0 ha hdb he hpl) fun σ H Q h => ?_
  obtain ⟨S, ρ, r, ρ', G, e, q⟩ := h
  obtain ⟨rs, ρ1, e1, e2⟩ := bindM_some e
  refine ⟨S, ρ, rs, ρ1, G, e1, fun vs S1 H1 F1 G1 R1 => ?_⟩
  have n1 : Now X.K σ S ρ H S1 ρ1 H1 := ⟨G, F1, G1⟩
  obtain ⟨S2, n2, A2, sh2⟩ := RRLw.hand rs n1 R1.w
  split at e2
  · rename_i args ea
    split at e2
    · rename_i nc
      split at e2
      · rename_i r0 d' ef
        have he2 : ∃ i rest st d0, rs = .slot i :: rest ∧ ρ1[i]? = some (some (st, d0)) ∧ r = r0 ∧ ρ' = ρ1.set i (some (st, d')) ∧ ∀ j, r0 ≠ .slot j := by
          split at e2
          · split at e2
            · cases e2; exact ⟨_, _, _, _, rfl, ‹_›, rfl, rfl, fun j z => by cases z⟩
            · cases e2
          · split at e2
            · cases e2; exact ⟨_, _, _, _, rfl, ‹_›, rfl, rfl, fun j z => by cases z⟩
            · cases e2
          · cases e2
        obtain ⟨i, rest, st, d0, rfl, hi, rfl, rfl, hns⟩ := he2
        show spI X.K fn (vs ++ []) H1 Q E0
        rw [List.append_nil]
        obtain ⟨hl, hall⟩ := argAll n2.g A2 ea
        refine ⟨S2, args, r, some d', argGd n2.g A2 ea nc, ef, fun v S3 H3 fc rr lt => ?_⟩
        obtain ⟨a, hv0, ns, tx⟩ := lt d' rfl
        have h0 : ∃ p, args[0]? = some p := by
          cases args with
          | nil => cases A2; simp at hl
          | cons p _ => exact ⟨p, rfl⟩
        obtain ⟨⟨st1, d1⟩, h0⟩ := h0
        obtain ⟨v1, r1, b1, b2, b3, b4, _, b6⟩ := hall 0 st1 d1 h0
        have hl1 := b6 ⟨rfl, rfl⟩
        subst hl1
        obtain ⟨j, st0, c1, c2, c3, c4, c5⟩ := b4 rfl
        simp at b2
        subst b2
        cases c1
        rw [hi] at c2; cases c2
        rw [hv0] at b1; cases b1
        have hm := c5 ⟨rfl, rfl⟩
        have only : ∀ b, Mu (args.map some) (vs.map some) b → b = a := fun b m => by
          obtain ⟨i1, st2, d2, m1, m2, m3⟩ := m
          obtain ⟨y, hy1, hy2⟩ := get_map_some m1
          cases hy1
          by_cases z : i1 = 0
          · subst z
            rw [List.getElem?_map, hv0] at m3
            cases m3; rfl
          · obtain ⟨_, _, _, _, _, _, b5, _⟩ := hall i1 st2 d2 hy2
            rw [b5 fun y => z y.2] at m2
            cases m2
        have n3 : Now X.K σ S ρ H S3 (ρ1.set i (some (st, d'))) H3 := n2.called hi hm c4 fc.dom (fun b o e nb => fc.keep b o e fun m => nb (only b m)) fc.sh (fun b hb => by
          rcases fc.new b hb with z | z | z
          · exact .inl z
          · exact absurd hb (only b z ▸ ns)
          · exact .inr z) fc.al ns tx
        exact q v S3 H3 n3.f n3.g ((rr.any hns).pre n2)
      · cases e2
    · cases e2
  · cases e2
end
end PyI

/-! PyI, part G: operators, displays, items. -/
namespace PyI
open PySem PySem.Spec L2

section
variable {K : PySem.W.Frag} {S S' : Addr → Prop} {H H' : Hp} {v : V} {d : PyData} {ds : List PyData} {kvs : List (PyData × PyData)} {a : Addr} {vs : List V}
theorem Rdb.int {i : Int} (h : Rdb K S H v (.int i)) : v = .int i := by
  rcases h with h | ⟨a, _, h⟩
  · cases h; rfl
  · exact h.elim
theorem Rdb.str {x : Str} (h : Rdb K S H v (.str x)) : v = .str x := by
  rcases h with h | ⟨a, _, h⟩
  · cases h; rfl
  · exact h.elim
theorem Rdb.non (h : Rdb K S H v .none) : v = .non := by
  rcases h with h | ⟨a, _, h⟩
  · cases h; rfl
  · exact h.elim
theorem Rdb.lst (h : Rdb K S H v (.list ds)) : ∃ a vs, v = .ref a ∧ H a = some (.lst vs) ∧ RpL K S H vs ds := by
  rcases h with h | ⟨a, e, h⟩
  · cases h with
    | lst _ h r => exact ⟨_, _, rfl, h, r⟩
  · obtain ⟨vs, h1, h2⟩ := h; exact ⟨a, vs, e, h1, h2⟩
theorem Rdb.tup (h : Rdb K S H v (.tuple ds)) : ∃ a vs, v = .ref a ∧ STup K S H a vs ∧ RpL K S H vs ds := by
  rcases h with h | ⟨a, e, h⟩
  · cases h with
    | tup h r _ => exact ⟨_, _, rfl, h, r⟩
  · exact h.elim
theorem Rdb.tupP (h : Rdb K S H v (.tuple ds)) : ∃ a vs, v = .ref a ∧ STup K S H a vs ∧ RpL K S H vs ds ∧ TF K S H a vs ds := by
  rcases h with h | ⟨a, e, h⟩
  · cases h with
    | tup h r p => exact ⟨_, _, rfl, h, r, p⟩
  · exact h.elim
theorem Rdb.dct (h : Rdb K S H v (.dict kvs)) (n : isM kvs = false) : ∃ a ts, v = .ref a ∧ Rd H a (.dK ts) ∧ kvs.map (·.1) = ts.map (fun p => keyD p.1) ∧ RpL K S H (ts.map (·.2)) (kvs.map (·.2)) := by
  rcases h with h | ⟨a, e, h⟩
  · cases h with
    | dct _ h k r => exact ⟨_, _, rfl, h, k, r⟩
    | dctT => cases n
  · rcases h with ⟨ts, h1, h2, h3⟩ | ⟨ts, kvs', rfl, _⟩
    · exact ⟨a, ts, e, h1, h2, h3⟩
    · cases n
theorem Rdb.dctT (h : Rdb K S H v (.dict kvs)) (n : isM kvs = true) : ∃ a ts kvs', v = .ref a ∧ kvs = (.none, .none) :: kvs' ∧ H a = some (.dT ts) ∧ kvs'.map (·.1) = ts.map (fun p => PyData.tuple (p.1.map keyD)) ∧ RpL K S H (ts.map (·.2)) (kvs'.map (·.2)) := by
  rcases h with h | ⟨a, e, h⟩
  · cases h with
    | dct _ h k r => rw [keyD_noM k] at n; cases n
    | dctT _ h k r => exact ⟨_, _, _, rfl, rfl, h, k, r⟩
  · rcases h with ⟨ts, h1, h2, h3⟩ | ⟨ts, kvs', e1, h1, h2, h3⟩
    · rw [keyD_noM h2] at n; cases n
    · exact ⟨a, ts, kvs', e, e1, h1, h2, h3⟩
theorem STup.sq (h : STup K S H a vs) : SqT K H a vs := by
  rcases h with ⟨_, h⟩ | ⟨o, its, n, h1, h2, h3, h4, h5⟩
  · exact .inl h
  · exact .inr ⟨o, its, n, h1, h2, h3, h4, h5⟩
mutual
theorem Rp.dp : ∀ {v : V} {d : PyData}, Rp K S H v d → d.plain = true → Dp K H v d
  | _, _, .non, _ => .non
  | _, _, .bl b, _ => .bl b
  | _, _, .int i, _ => .int i
  | _, _, .str x, _ => .str x
  | _, _, .tup h r _, p => .tup h.sq (RpL.dp r (by simpa [PyData.plain] using p))
  | _, _, .lst _ h r, p => .lst (SqL.of h) (RpL.dp r (by simpa [PyData.plain] using p))
  | _, _, .dct _ _ _ _, p => nomatch p
  | _, _, .dctT _ _ _ _, p => nomatch p
theorem RpL.dp : ∀ {vs : List V} {ds : List PyData}, RpL K S H vs ds → PyData.plainAll ds = true → DpAll K H vs ds
  | _, _, .nil, _ => .nil
  | _, _, .cons h r, p => by
    rw [PyData.plainAll, Bool.and_eq_true] at p
    exact .cons (Rp.dp h p.1) (RpL.dp r p.2)
end
theorem Rdb.dp (h : Rdb K S H v d) (p : d.plain = true) : Dp K H v d := by
  rcases h with h | ⟨a, rfl, h⟩
  · exact h.dp p
  · cases d with
    | list ds => obtain ⟨vs, h1, h2⟩ := h; exact .lst (SqL.of h1) (h2.dp (by simpa [PyData.plain] using p))
    | dict _ => nomatch p
    | _ => exact h.elim
theorem lay_lst {H0 : Hp} {ρ : Rho} {σ : L2.St} (al : ∀ a, S a → H a ≠ none) (r : RpL K S H vs ds) {p : Addr} (hp : H p = none) (h0 : H0 p = none) : RR K H0 S (upd H p (.lst vs)) ρ σ (.ref p) (.fresh (.list ds)) :=
  ⟨p, rfl, h0, fun z => al p z hp, vs, upd_same, r.up (Gw.lay al hp).up⟩
theorem lay_tup (al : ∀ a, S a → H a ≠ none) (r : RpL K S H vs ds) {p : Addr} (hp : H p = none) (n : pairsB ds = false) : Rp K (fun b => S b ∨ b = p) (upd H p (.tup vs)) (.ref p) (.tuple ds) :=
  .tup (.inl ⟨.inr rfl, .inl upd_same⟩) (r.up (Gw.layS al hp).up) ⟨fun e => absurd (n.symm.trans e) (by decide), fun _ => ⟨.inr rfl, upd_same⟩⟩
theorem lay_tupN (al : ∀ a, S a → H a ≠ none) (r : RpL K S H vs ds) {p : Addr} {o : Obj} (hp : H p = none) (ho : o.dict = none) (n : keyB ds = false) : Rp K (fun b => S b ∨ b = p) (upd H p (.frz o (.tup vs))) (.ref p) (.tuple ds) :=
  .tup (.inl ⟨.inr rfl, .inr ⟨o, upd_same⟩⟩) (r.up (Gw.layS al hp).up) ⟨fun _ => .inl ⟨.inr rfl, o, upd_same, ho⟩, fun e => absurd (n.symm.trans e) (by decide)⟩
theorem newT_rp {Q : VK} (al : ∀ a, S a → H a ≠ none) (r : RpL K S H vs ds) (q : ∀ (p : Addr) (o : HO), H p = none → Rp K (fun b => S b ∨ b = p) (upd H p o) (.ref p) (.tuple ds) → Q (.ref p) (upd H p o)) : NewT H vs Q := by
  cases hk : keyB ds with
  | false => exact .inl fun p o hp ho => q p _ hp (lay_tupN al r hp ho hk)
  | true => exact .inr fun p hp => q p _ hp (lay_tup al r hp (keyB_pairs hk))
end

/-! ### + - * // % ** -/
def opAdd : PyData → PyData → Option PyData
  | .int i, .int j => some (.int (i + j))
  | .str x, .str y => if x.length + y.length ≤ sizeLine then some (.str (x ++ y)) else none
  | .list xs, .list ys => if xs.length + ys.length ≤ sizeLine then some (.list (xs ++ ys)) else none
  | .tuple xs, .tuple ys => if xs.length + ys.length ≤ sizeLine then some (.tuple (xs ++ ys)) else none
  | _, _ => none
def opSub : PyData → PyData → Option PyData
  | .int i, .int j => some (.int (i - j))
  | _, _ => none
def opMul : PyData → PyData → Option PyData
  | .int i, .int j => if (-(2 ^ 64) < i ∧ i < 2 ^ 64) ∨ (-(2 ^ 64) < j ∧ j < 2 ^ 64) then some (.int (i * j)) else none
  | _, _ => none
def opFdiv : PyData → PyData → Option PyData
  | .int i, .int j => if 0 < j ∧ j < 1073741824 then some (.int (i / j)) else none
  | _, _ => none
def opMod : PyData → PyData → Option PyData
  | .int i, .int j => if 0 < j then some (.int (i % j)) else none
  | _, _ => none
def opPow : PyData → PyData → Option PyData
  | .int i, .int j => if 0 ≤ j ∧ j ≤ 1000000 ∧ i.natAbs < 18446744073709551616 then some (.int (i ^ j.toNat)) else none
  | _, _ => none
section
variable {X : Cx}
/-- an operator on ints -/
theorem oi {f : Value → Value → Sem Value} {C : Int → Int → Prop} {g : Int → Int → Int} {op : PyData → PyData → Option PyData} (h : OpR X f (rI C fun i j => .int (g i j)))
    (hop : ∀ a b d, op a b = some d → ∃ i j, a = .int i ∧ b = .int j ∧ C i j ∧ d = .int (g i j)) : OpR X f (rD X.K op) := by
  intro pins s σ H x y v u Q I rx ry q
  obtain ⟨S, d1, d2, d, al, r1, r2, e, q⟩ := q
  obtain ⟨i, j, rfl, rfl, hc, rfl⟩ := hop _ _ _ e
  exact h pins s σ H x y v u Q I rx ry ⟨i, j, r1.int, r2.int, hc, q _ S H (Gw.refl al) (.int _)⟩
theorem oi0 {f : Value → Value → Sem Value} {g : Int → Int → Int} {op : PyData → PyData → Option PyData} (h : OpR X f (rI0 fun i j => .int (g i j)))
    (hop : ∀ a b d, op a b = some d → ∃ i j, a = .int i ∧ b = .int j ∧ d = .int (g i j)) : OpR X f (rD X.K op) := by
  intro pins s σ H x y v u Q I rx ry q
  obtain ⟨S, d1, d2, d, al, r1, r2, e, q⟩ := q
  obtain ⟨i, j, rfl, rfl, rfl⟩ := hop _ _ _ e
  exact h pins s σ H x y v u Q I rx ry ⟨i, j, r1.int, r2.int, q _ S H (Gw.refl al) (.int _)⟩
theorem oib {f : Value → Value → Sem Value} {g : Int → Int → Bool} {op : PyData → PyData → Option PyData} (h : OpR X f (rI0 fun i j => .bl (g i j)))
    (hop : ∀ a b d, op a b = some d → ∃ i j, a = .int i ∧ b = .int j ∧ d = .bool (g i j)) : OpR X f (rD X.K op) := by
  intro pins s σ H x y v u Q I rx ry q
  obtain ⟨S, d1, d2, d, al, r1, r2, e, q⟩ := q
  obtain ⟨i, j, rfl, rfl, rfl⟩ := hop _ _ _ e
  exact h pins s σ H x y v u Q I rx ry ⟨i, j, r1.int, r2.int, q _ S H (Gw.refl al) (.bl _)⟩
theorem o_sub : OpR X (binaryOp .Sub) (rD X.K opSub) := oi0 op_sub fun a b d e => by
  unfold opSub at e; split at e
  · cases e; exact ⟨_, _, rfl, rfl, rfl⟩
  · cases e
theorem o_mul : OpR X (binaryOp .Mult) (rD X.K opMul) := oi op_mul fun a b d e => by
  unfold opMul at e; split at e
  · split at e
    · rename_i hc; cases e; exact ⟨_, _, rfl, rfl, hc, rfl⟩
    · cases e
  · cases e
theorem o_fdiv : OpR X (binaryOp .FloorDiv) (rD X.K opFdiv) := oi op_fdiv fun a b d e => by
  unfold opFdiv at e; split at e
  · split at e
    · rename_i hc; cases e; exact ⟨_, _, rfl, rfl, hc, rfl⟩
    · cases e
  · cases e
theorem o_mod : OpR X (binaryOp .Mod) (rD X.K opMod) := oi op_mod fun a b d e => by
  unfold opMod at e; split at e
  · split at e
    · rename_i hc; cases e; exact ⟨_, _, rfl, rfl, hc, rfl⟩
    · cases e
  · cases e
theorem o_pow : OpR X (binaryOp .Pow) (rD X.K opPow) := oi op_pow fun a b d e => by
  unfold opPow at e; split at e
  · split at e
    · rename_i hc; cases e; exact ⟨_, _, rfl, rfl, ⟨hc.1, hc.2.1, by simpa using hc.2.2⟩, rfl⟩
    · cases e
  · cases e
theorem o_add : OpR X (binaryOp .Add) (rD X.K opAdd) := by
  intro pins s σ H x y v u Q I rx ry q
  obtain ⟨S, d1, d2, d, al, r1, r2, e, q⟩ := q
  unfold opAdd at e
  split at e
  · cases e
    exact op_add pins s σ H x y v u Q I rx ry ⟨_, _, r1.int, r2.int, q _ S H (Gw.refl al) (.int _)⟩
  · split at e
    · rename_i hz
      cases e
      exact op_add_str pins s σ H x y v u Q I rx ry ⟨_, _, r1.str, r2.str, hz, q _ S H (Gw.refl al) (.str _)⟩
    · cases e
  · split at e
    · rename_i hz
      cases e
      obtain ⟨a, xs, rfl, h1, p1⟩ := r1.lst
      obtain ⟨b, zs, rfl, h2, p2⟩ := r2.lst
      exact op_cat pins s σ H _ _ v u Q I rx ry ⟨a, b, xs, zs, rfl, rfl, h1, h2, by rw [p1.len, p2.len]; exact hz, fun p hp => q _ S _ (Gw.lay al hp) (lay_lst al (p1.app p2) hp hp)⟩
    · cases e
  · split at e
    · rename_i hz
      cases e
      obtain ⟨a, xs, rfl, h1, p1, l1⟩ := r1.tupP
      obtain ⟨b, zs, rfl, h2, p2, l2⟩ := r2.tupP
      refine op_catN pins s σ H _ _ v u Q I rx ry ⟨a, b, xs, zs, rfl, rfl, h1.sq, h2.sq, by rw [p1.len, p2.len]; exact hz, fun ex => ?_, fun _ ey => ?_, fun _ _ => newT_rp al (p1.app p2) fun p o hp rp => q _ _ _ (Gw.layS al hp) rp⟩
      · subst ex
        cases p1
        exact q _ S H (Gw.refl al) (.tup h2 p2 l2)
      · subst ey
        cases p2
        refine q _ S H (Gw.refl al) (.tup h1 ?_ ?_)
        · rw [List.append_nil]; exact p1
        · rw [List.append_nil]; exact l1
    · cases e
  · cases e
end

/-! ### comparisons -/
def opLt : PyData → PyData → Option PyData
  | .int i, .int j => some (.bool (decide (i < j)))
  | _, _ => none
def opLe : PyData → PyData → Option PyData
  | .int i, .int j => some (.bool (decide (i ≤ j)))
  | _, _ => none
def opGt : PyData → PyData → Option PyData
  | .int i, .int j => some (.bool (decide (j < i)))
  | _, _ => none
def opGe : PyData → PyData → Option PyData
  | .int i, .int j => some (.bool (decide (j ≤ i)))
  | _, _ => none
def isNone : PyData → Bool
  | .none => true | _ => false
def opIsN : PyData → PyData → Option PyData
  | d, .none => some (.bool (isNone d))
  | _, _ => none
def opNotN : PyData → PyData → Option PyData
  | d, .none => some (.bool (!isNone d))
  | _, _ => none
/-- one key, another one -/
def keyEq : PyData → PyData → Bool
  | .int i, .int j => i == j
  | .str x, .str y => x == y
  | _, _ => false
def lookD (k : PyData) : List (PyData × PyData) → Option PyData
  | [] => none
  | p :: r => if keyEq p.1 k = true then some p.2 else lookD k r
/-- the values are small data -/
def okVals (n : Nat) : List (PyData × PyData) → Bool
  | [] => true
  | p :: r => p.2.plain && decide (p.2.depth ≤ n) && okVals n r
def hitsD (b : List (PyData × PyData)) : List (PyData × PyData) → Bool
  | [] => true
  | p :: r => match lookD p.1 b with
    | none => false
    | some y => PyData.eqv p.2 y && hitsD b r
def eqD : PyData → PyData → Option Bool
  | .dict a, .dict b => if (okVals 50 a = true ∧ okVals 50 b = true) ∧ isM a = false ∧ isM b = false then some (a.length == b.length && hitsD b a) else none
  | a, b => if a.plain = true ∧ b.plain = true ∧ min a.depth b.depth ≤ 60 then some (PyData.eqv a b) else none
def opEq (a b : PyData) : Option PyData := (eqD a b).map .bool
def opNe (a b : PyData) : Option PyData := (eqD a b).map fun b => .bool (!b)
theorem eqD_int {i j : Int} : eqD (.int i) (.int j) = some (i == j) := by simp [eqD, PyData.plain, PyData.depth, PyData.eqv]
theorem keyEq_keyD {k k' : Key} : keyEq (keyD k) (keyD k') = decide (k = k') := by
  cases k <;> cases k' <;> simp [keyD, keyEq]
  all_goals (rename_i a b; by_cases h : a = b <;> simp [h])
section
variable {K : PySem.W.Frag} {S S' : Addr → Prop} {H H' : Hp}
/-- a key's value, by the values and by the data -/
theorem look_of : ∀ {ts : List (Key × V)} {kvs : List (PyData × PyData)} (k : Key), kvs.map (·.1) = ts.map (fun p => keyD p.1) → RpL K S H (ts.map (·.2)) (kvs.map (·.2)) →
    (valV ts k = none ∧ lookD (keyD k) kvs = none) ∨ ∃ v d, valV ts k = some v ∧ lookD (keyD k) kvs = some d ∧ Rp K S H v d
  | [], [], k, _, _ => .inl ⟨rfl, rfl⟩
  | [], _ :: _, _, e, _ => by simp at e
  | _ :: _, [], _, e, _ => by simp at e
  | (j, w) :: ts, (jd, wd) :: kvs, k, e, r => by
    simp only [List.map_cons, List.cons.injEq] at e
    obtain ⟨e1, e2⟩ := e
    simp only [List.map_cons] at r
    cases r with
    | cons h t =>
      unfold lookD
      simp only at e1 ⊢
      rw [e1, keyEq_keyD]
      by_cases hk : j = k
      · rw [if_pos (decide_eq_true hk), valV_pos (p := (j, w)) hk]
        exact .inr ⟨w, wd, rfl, rfl, h⟩
      · rw [if_neg (by simpa using hk), valV_neg (p := (j, w)) hk]
        exact look_of k e2 t
theorem okVals_at : ∀ {kvs : List (PyData × PyData)} {n : Nat} {k : PyData} {d : PyData}, okVals n kvs = true → lookD k kvs = some d → d.plain = true ∧ d.depth ≤ n
  | p :: r, n, k, d, h, e => by
    unfold okVals at h
    simp only [Bool.and_eq_true, decide_eq_true_eq] at h
    unfold lookD at e
    split at e
    · cases e; exact h.1
    · exact okVals_at h.2 e
end
section
variable {X : Cx}
theorem o_lt : OpR X (compareOp .Lt) (rD X.K opLt) := oib op_lt fun a b d e => by
  unfold opLt at e; split at e
  · cases e; exact ⟨_, _, rfl, rfl, rfl⟩
  · cases e
theorem o_le : OpR X (compareOp .LtE) (rD X.K opLe) := oib op_le fun a b d e => by
  unfold opLe at e; split at e
  · cases e; exact ⟨_, _, rfl, rfl, rfl⟩
  · cases e
theorem o_gt : OpR X (compareOp .Gt) (rD X.K opGt) := oib op_gt fun a b d e => by
  unfold opGt at e; split at e
  · cases e; exact ⟨_, _, rfl, rfl, rfl⟩
  · cases e
theorem o_ge : OpR X (compareOp .GtE) (rD X.K opGe) := oib op_ge fun a b d e => by
  unfold opGe at e; split at e
  · cases e; exact ⟨_, _, rfl, rfl, rfl⟩
  · cases e
theorem Rdb.isNone {K : PySem.W.Frag} {S : Addr → Prop} {H : Hp} {v : V} {d : PyData} (h : Rdb K S H v d) : decide (v = .non) = PyI.isNone d := by
  rcases h with h | ⟨a, rfl, h⟩
  · cases h <;> rfl
  · cases d <;> first | rfl | exact h.elim
theorem o_isN : OpR X (compareOp .Is) (rD X.K opIsN) := by
  intro pins s σ H x y v u Q I rx ry q
  obtain ⟨S, d1, d2, d, al, r1, r2, e, q⟩ := q
  unfold opIsN at e
  split at e
  · cases e
    refine op_isN pins s σ H x y v u Q I rx ry ⟨r2.non, ?_⟩
    rw [r1.isNone]
    exact q _ S H (Gw.refl al) (.bl _)
  · cases e
theorem o_notN : OpR X (compareOp .IsNot) (rD X.K opNotN) := by
  intro pins s σ H x y v u Q I rx ry q
  obtain ⟨S, d1, d2, d, al, r1, r2, e, q⟩ := q
  unfold opNotN at e
  split at e
  · cases e
    refine op_notN pins s σ H x y v u Q I rx ry ⟨r2.non, ?_⟩
    rw [r1.isNone]
    exact q _ S H (Gw.refl al) (.bl _)
  · cases e
/-- the pairs of one dict are looked for in the other one -/
theorem hits_of {pins : List (Addr × Obj)} {s : Shared} {σ : L2.St} {H : Hp} {S : Addr → Prop} (I : Inv X pins σ H s) (hu : X.A.units + 64 < cLine) {ls : List (Key × V)} {vb : List (Key × Value)} {b : List (PyData × PyData)}
    (rb : KV ls vb) (kb : b.map (·.1) = ls.map (fun p => keyD p.1)) (pb : RpL X.K S H (ls.map (·.2)) (b.map (·.2))) (ob : okVals 50 b = true) :
    ∀ {ks : List (Key × V)} {va : List (Key × Value)} {a : List (PyData × PyData)}, KV ks va → a.map (·.1) = ks.map (fun p => keyD p.1) → RpL X.K S H (ks.map (·.2)) (a.map (·.2)) → okVals 50 a = true → PySem.W.KeqHits X.A.in1 s vb va (hitsD b a)
  | [], _, [], .nil, _, _, _ => .nil
  | [], _, _ :: _, _, e, _, _ => by simp at e
  | _ :: _, _, [], _, e, _, _ => by simp at e
  | (k, w) :: ks, (k', u) :: va, (kd, wd) :: a, .cons h t, e, r, o => by
    obtain ⟨h1, h2⟩ := h
    simp only at h1 h2
    subst h1
    simp only [List.map_cons, List.cons.injEq] at e
    obtain ⟨e1, e2⟩ := e
    simp only [List.map_cons] at r
    cases r with
    | cons rw' rt =>
      unfold okVals at o
      simp only [Bool.and_eq_true, decide_eq_true_eq] at o
      have ih := hits_of I hu rb kb pb ob t e2 rt o.2
      unfold hitsD
      simp only at e1 ⊢
      rw [e1]
      have rv := rb.val k
      rcases look_of k kb pb with ⟨n1, n2⟩ | ⟨y, yd, n1, n2, n3⟩
      · rw [n2]
        rw [n1] at rv
        refine .miss ?_
        cases hva : valueAt vb k with
        | none => rfl
        | some z => rw [hva] at rv; exact rv.elim
      · rw [n2]
        rw [n1] at rv
        obtain ⟨z, hz, rz⟩ := rv.some_of
        have oy := okVals_at ob n2
        obtain ⟨as, q1⟩ := Dp.reads I wd w u (rw'.dp o.1.1) h2
        obtain ⟨bs, q2⟩ := Dp.reads I yd y z (n3.dp oy.1) rz
        refine .hit hz (SeqAt.eqAt_plain wd yd X.A.in1 s u z as bs q1 q2 o.1.1 oy.1 ?_) ih
        have := o.1.2
        show X.A.units + 1 + min wd.depth yd.depth < cLine
        omega
theorem eqD_run {pins : List (Addr × Obj)} {s : Shared} {σ : L2.St} {H : Hp} {S : Addr → Prop} {x y : V} {v u : Value} {a b : PyData} {r : Bool} (I : Inv X pins σ H s) (hu : X.A.units + 64 < cLine) (rx : RelV x v) (ry : RelV y u) (r1 : Rdb X.K S H x a) (r2 : Rdb X.K S H y b) (e : eqD a b = some r) :
    (∀ {E Q : Value → Shared → Prop}, Q (.bool r) s → wpAny (model X.prog X.w) X.A (compareOp .Eq v u) Q E s) ∧ ∀ {E Q : Value → Shared → Prop}, Q (.bool (!r)) s → wpAny (model X.prog X.w) X.A (compareOp .NotEq v u) Q E s := by
  unfold eqD at e
  split at e
  · split at e
    · rename_i ks ls ok
      cases e
      obtain ⟨ok, n1, n2⟩ := ok
      obtain ⟨pa, ta, rfl, ha, ka, ra⟩ := r1.dct n1
      obtain ⟨pb, tb, rfl, hb, kb, rb⟩ := r2.dct n2
      obtain rfl : v = Value.ref pa := rx
      obtain rfl : u = Value.ref pb := ry
      obtain ⟨_, ya, va, ra', da⟩ := dk_rd I.hok ha
      obtain ⟨_, yb, vb, rb', db⟩ := dk_rd I.hok hb
      have l1 : va.length = ks.length := by rw [← ra'.length]; have := congrArg List.length ka; simpa using this.symm
      have l2 : vb.length = ls.length := by rw [← rb'.length]; have := congrArg List.length kb; simpa using this.symm
      have hh := hits_of I hu rb' kb rb ok.2 ra' ka ra ok.1
      refine ⟨fun {E Q} q => ?_, fun {E Q} q => ?_⟩
      · exact PySem.W.keq_eq (knd := mixKind X.prog X.w) ya yb da db (by omega) (fun _ => hh) (by rw [l1, l2]; exact q)
      · exact PySem.W.keq_ne (knd := mixKind X.prog X.w) ya yb da db (by omega) (fun _ => hh) (by rw [l1, l2]; exact q)
    · cases e
  · split at e
    · rename_i ok
      cases e
      obtain ⟨as, q1⟩ := Dp.reads I a x v (r1.dp ok.1) rx
      obtain ⟨bs, q2⟩ := Dp.reads I b y u (r2.dp ok.2.1) ry
      refine ⟨fun {E Q} q => SeqAt.eq_plain q1 q2 ok.1 ok.2.1 ?_ q, fun {E Q} q => SeqAt.ne_plain q1 q2 ok.1 ok.2.1 ?_ q⟩ <;> (have := ok.2.2; omega)
    · cases e
theorem o_eq (hu : X.A.units + 64 < cLine) : OpR X (compareOp .Eq) (rD X.K opEq) := by
  intro pins s σ H x y v u Q I rx ry q
  obtain ⟨S, d1, d2, d, al, r1, r2, e, q⟩ := q
  unfold opEq at e
  obtain ⟨r, e1, rfl⟩ := Option.map_eq_some_iff.mp e
  exact (eqD_run I hu rx ry r1 r2 e1).1 ⟨.bl r, H, I, rfl, q _ S H (Gw.refl al) (.bl _)⟩
theorem o_ne (hu : X.A.units + 64 < cLine) : OpR X (compareOp .NotEq) (rD X.K opNe) := by
  intro pins s σ H x y v u Q I rx ry q
  obtain ⟨S, d1, d2, d, al, r1, r2, e, q⟩ := q
  unfold opNe at e
  obtain ⟨r, e1, rfl⟩ := Option.map_eq_some_iff.mp e
  exact (eqD_run I hu rx ry r1 r2 e1).2 ⟨.bl (!r), H, I, rfl, q _ S H (Gw.refl al) (.bl _)⟩
end
/-- x in c: a list, a tuple, a text, a dict -/
def inD : PyData → PyData → Option Bool
  | d, .list xs => if d.plain = true ∧ PyData.plainAll xs = true ∧ d.depth ≤ 50 then some (xs.any fun y => PyData.eqv y d) else none
  | d, .tuple xs => if d.plain = true ∧ PyData.plainAll xs = true ∧ d.depth ≤ 50 then some (xs.any fun y => PyData.eqv y d) else none
  | .str x, .str y => some (!(Builtin.Str.occurrences y x 0 y.length 1).isEmpty)
  | _, _ => none
/-- .. a dict -/
def inK : PyData → PyData → Option Bool
  | .str x, .dict kvs => some (lookD (.str x) kvs).isSome
  | .int x, .dict kvs => some (lookD (.int x) kvs).isSome
  | _, _ => none
def opIn (a b : PyData) : Option PyData := (inD a b).map .bool
def opNotIn (a b : PyData) : Option PyData := (inD a b).map fun b => .bool (!b)
def opInK (a b : PyData) : Option PyData := (inK a b).map .bool
def opNotInK (a b : PyData) : Option PyData := (inK a b).map fun b => .bool (!b)
section
variable {X : Cx}
theorem inD_run {pins : List (Addr × Obj)} {s : Shared} {σ : L2.St} {H : Hp} {S : Addr → Prop} {x y : V} {v u : Value} {a b : PyData} {r : Bool} (I : Inv X pins σ H s) (hu : X.A.units + 64 < cLine) (rx : RelV x v) (ry : RelV y u) (r1 : Rdb X.K S H x a) (r2 : Rdb X.K S H y b) (e : inD a b = some r) :
    (∀ {E : Value → Shared → Prop} {Q : VK}, Q (.bl r) H → wpAny (model X.prog X.w) X.A (compareOp .In v u) (EP X pins σ Q) X.xe s) ∧ ∀ {E : Value → Shared → Prop} {Q : VK}, Q (.bl (!r)) H → wpAny (model X.prog X.w) X.A (compareOp .NotIn v u) (EP X pins σ Q) X.xe s := by
  unfold inD at e
  split at e
  · split at e
    · rename_i ok
      cases e
      have pl : (PyData.list ‹_›).plain = true := by unfold PyData.plain; exact ok.2.1
      obtain ⟨as, q1⟩ := Dp.reads I _ x v (r1.dp ok.1) rx
      obtain ⟨bs, q2⟩ := Dp.reads I _ y u (r2.dp pl) ry
      refine ⟨fun {E Q} q => SeqAt.in_list_data q2 q1 ok.2.1 ok.1 ?_ ⟨.bl _, H, I, rfl, q⟩, fun {E Q} q => SeqAt.notIn_list_data q2 q1 ok.2.1 ok.1 ?_ ⟨.bl _, H, I, rfl, q⟩⟩ <;> (have := ok.2.2; omega)
    · cases e
  · split at e
    · rename_i ok
      cases e
      have pl : (PyData.tuple ‹_›).plain = true := by unfold PyData.plain; exact ok.2.1
      obtain ⟨as, q1⟩ := Dp.reads I _ x v (r1.dp ok.1) rx
      obtain ⟨bs, q2⟩ := Dp.reads I _ y u (r2.dp pl) ry
      refine ⟨fun {E Q} q => SeqAt.in_tuple_data q2 q1 ok.2.1 ok.1 ?_ ⟨.bl _, H, I, rfl, q⟩, fun {E Q} q => SeqAt.notIn_tuple_data q2 q1 ok.2.1 ok.1 ?_ ⟨.bl _, H, I, rfl, q⟩⟩ <;> (have := ok.2.2; omega)
    · cases e
  · cases e
    exact ⟨fun {E Q} q => op_in_str pins s σ H x y v u Q I rx ry ⟨_, _, r1.str, r2.str, q⟩, fun {E Q} q => op_notin_str pins s σ H x y v u Q I rx ry ⟨_, _, r1.str, r2.str, q⟩⟩
  · cases e
theorem o_in (hu : X.A.units + 64 < cLine) : OpR X (compareOp .In) (rD X.K opIn) := by
  intro pins s σ H x y v u Q I rx ry q
  obtain ⟨S, d1, d2, d, al, r1, r2, e, q⟩ := q
  unfold opIn at e
  obtain ⟨r, e1, rfl⟩ := Option.map_eq_some_iff.mp e
  exact (inD_run I hu rx ry r1 r2 e1).1 (E := X.xe) (q _ S H (Gw.refl al) (.bl _))
theorem o_notIn (hu : X.A.units + 64 < cLine) : OpR X (compareOp .NotIn) (rD X.K opNotIn) := by
  intro pins s σ H x y v u Q I rx ry q
  obtain ⟨S, d1, d2, d, al, r1, r2, e, q⟩ := q
  unfold opNotIn at e
  obtain ⟨r, e1, rfl⟩ := Option.map_eq_some_iff.mp e
  exact (inD_run I hu rx ry r1 r2 e1).2 (E := X.xe) (q _ S H (Gw.refl al) (.bl _))
end
end PyI

/-! PyI, part H: items, slices, displays, the calls of built-ins. -/
namespace PyI
open PySem PySem.Spec L2

/-! ### a[b] -/
/-- a data key, by the values -/
def keyOf? : PyData → Option Key
  | .int i => some (.inl i)
  | .str x => some (.inr x)
  | _ => none
theorem keyOf_keyD {d : PyData} {k : Key} (h : keyOf? d = some k) : d = keyD k := by
  cases d <;> cases h <;> rfl
theorem Rdb.key {K : PySem.W.Frag} {S : Addr → Prop} {H : Hp} {v : V} {d : PyData} {k : Key} (r : Rdb K S H v d) (h : keyOf? d = some k) : v = kV k := by
  cases d <;> cases h
  · exact r.int
  · exact r.str
/-- a key of two parts -/
def keysOf? : PyData → Option (List Key)
  | .tuple [x, y] => match keyOf? x, keyOf? y with
    | some a, some b => some [a, b]
    | _, _ => none
  | _ => none
theorem keyOf_of (k : Key) : keyOf? (keyD k) = some k := by cases k <;> rfl
theorem keysOf_key {d : PyData} {ks : List Key} (h : keysOf? d = some ks) : d = .tuple (ks.map keyD) ∧ ks.length = 2 := by
  unfold keysOf? at h
  split at h
  · split at h
    · rename_i a b h1 h2
      cases h
      rw [keyOf_keyD h1, keyOf_keyD h2]
      exact ⟨rfl, rfl⟩
    · cases h
  · cases h
theorem keysOf_of {ks : List Key} (h : ks.length = 2) : keysOf? (.tuple (ks.map keyD)) = some ks := by
  match ks, h with
  | [a, b], _ =>
    show (match keyOf? (keyD a), keyOf? (keyD b) with | some a, some b => some [a, b] | _, _ => none) = _
    rw [keyOf_of, keyOf_of]
def tkEq (p : PyData) (ks : List Key) : Bool := decide (keysOf? p = some ks)
theorem tkEq_of {k ks : List Key} (h : ks.length = 2) : tkEq (.tuple (k.map keyD)) ks = decide (k = ks) := by
  unfold tkEq
  by_cases hk : k.length = 2
  · rw [keysOf_of hk]; simp
  · have h1 : ¬ k = ks := fun z => hk (z ▸ h)
    have h2 : ¬ keysOf? (.tuple (k.map keyD)) = some ks := fun z => by
      have := (keysOf_key z).1
      injection this with e
      have := congrArg List.length e
      rw [List.length_map, List.length_map] at this
      omega
    rw [decide_eq_false h1, decide_eq_false h2]
def lookP (ks : List Key) : List (PyData × PyData) → Option PyData
  | [] => none
  | p :: r => if tkEq p.1 ks = true then some p.2 else lookP ks r
def lookT (k : PyData) (kvs : List (PyData × PyData)) : Option PyData := match keysOf? k with
  | some ks => if isM kvs = true then lookP ks kvs else none
  | none => none
theorem lookP_of {K : PySem.W.Frag} {S : Addr → Prop} {H : Hp} (ks : List Key) (hk : ks.length = 2) : ∀ {ts : List (List Key × V)} {kvs : List (PyData × PyData)}, kvs.map (·.1) = ts.map (fun p => PyData.tuple (p.1.map keyD)) → RpL K S H (ts.map (·.2)) (kvs.map (·.2)) →
    (valV ts ks = none ∧ lookP ks kvs = none) ∨ ∃ v d, valV ts ks = some v ∧ lookP ks kvs = some d ∧ Rp K S H v d
  | [], [], _, _ => .inl ⟨rfl, rfl⟩
  | [], _ :: _, e, _ => by simp at e
  | _ :: _, [], e, _ => by simp at e
  | (j, w) :: ts, (jd, wd) :: kvs, e, r => by
    simp only [List.map_cons, List.cons.injEq] at e
    obtain ⟨e1, e2⟩ := e
    simp only [List.map_cons] at r
    cases r with
    | cons h t =>
      unfold lookP
      rw [e1, tkEq_of hk]
      by_cases z : j = ks
      · exact .inr ⟨w, wd, by rw [valV_pos (p := (j, w)) z], by rw [if_pos (by simpa using z)], h⟩
      · rw [valV_neg (p := (j, w)) z, if_neg (by simpa using z)]
        exact lookP_of ks hk e2 t
theorem Rdb.keyT {K : PySem.W.Frag} {S : Addr → Prop} {H : Hp} {v : V} {d : PyData} {ks : List Key} (r : Rdb K S H v d) (h : keysOf? d = some ks) : ∃ b, v = .ref b ∧ H b = some (.tup (ks.map kV)) := by
  obtain ⟨rfl, hl⟩ := keysOf_key h
  obtain ⟨a, vs, rfl, h1, p1, l1⟩ := r.tupP
  match ks, hl with
  | [x, y], _ =>
    have hb : keyB [keyD x, keyD y] = true := by cases x <;> cases y <;> rfl
    refine ⟨a, rfl, ?_⟩
    rw [(l1.2 hb).2]
    cases p1 with
    | cons g1 t1 =>
      cases t1 with
      | cons g2 t2 =>
        cases t2
        have e1 := Rdb.key (.inl g1) (keyOf_of x)
        have e2 := Rdb.key (.inl g2) (keyOf_of y)
        rw [e1, e2]; rfl
theorem lookD_T (k : Key) : ∀ {ts : List (List Key × V)} {kvs : List (PyData × PyData)}, kvs.map (·.1) = ts.map (fun p => PyData.tuple (p.1.map keyD)) → lookD (keyD k) ((.none, .none) :: kvs) = none := by
  have go : ∀ {ts : List (List Key × V)} {kvs : List (PyData × PyData)}, kvs.map (·.1) = ts.map (fun p => PyData.tuple (p.1.map keyD)) → lookD (keyD k) kvs = none := by
    intro ts
    induction ts with
    | nil => intro kvs e; cases kvs with
      | nil => rfl
      | cons p r => simp at e
    | cons t ts ih =>
      intro kvs e
      cases kvs with
      | nil => rfl
      | cons p r =>
        simp only [List.map_cons, List.cons.injEq] at e
        obtain ⟨e1, e2⟩ := e
        unfold lookD
        rw [e1, ih e2]
        cases k <;> rfl
  intro ts kvs e
  unfold lookD
  rw [go e]
  cases k <;> rfl
def opIx : PyData → PyData → Option PyData
  | .list ds, .int i => atI ds i
  | .tuple ds, .int i => atI ds i
  | .str z, .int i => if z.length ≤ sizeLine then (atI z.cps.toList i).map fun c => .str ⟨#[c]⟩ else none
  | .dict kvs, k => match keyOf? k with
    | some k => lookD (keyD k) kvs
    | none => lookT k kvs
  | _, _ => none
theorem atI_rp {K : PySem.W.Frag} {S : Addr → Prop} {H : Hp} {vs : List V} {ds : List PyData} {i : Int} {d : PyData} (r : RpL K S H vs ds) (e : atI ds i = some d) : ∃ v, atI vs i = some v ∧ Rp K S H v d := by
  unfold atI at e ⊢
  rw [r.len]
  cases h : ixN ds.length i with
  | none => rw [h] at e; cases e
  | some j =>
    rw [h] at e
    exact r.get e
section
variable {X : Cx}
theorem DGet.of {H : Hp} {a : Addr} {ts : List (Key × V)} {k : Key} (e : Rd H a (.dK ts)) : DGet H a (kV k) (valV ts k) := .inl ⟨ts, k, e, rfl, rfl⟩
theorem ix_data (hu : X.A.units + 64 < cLine) : IxR X (rDi X.K opIx) := by
  intro value slice pins s σ H x y v u Q I rx ry h hs
  obtain ⟨S, d1, d2, d, al, r1, r2, e, q⟩ := h
  unfold opIx at e
  split at e
  · obtain ⟨a, vs, rfl, h1, p1⟩ := r1.lst
    obtain ⟨w, e1, e2⟩ := atI_rp p1 e
    exact ix_list value slice pins s σ H _ _ v u Q I rx ry ⟨a, vs, _, w, rfl, r2.int, SqL.of h1, e1, q w S H (Gw.refl al) e2⟩ hs
  · obtain ⟨a, vs, rfl, h1, p1⟩ := r1.tup
    obtain ⟨w, e1, e2⟩ := atI_rp p1 e
    exact ix_tup value slice pins s σ H _ _ v u Q I rx ry ⟨a, vs, _, w, rfl, r2.int, h1.sq, e1, q w S H (Gw.refl al) e2⟩ hs
  · split at e
    · rename_i hz
      obtain ⟨c, e1, rfl⟩ := Option.map_eq_some_iff.mp e
      exact ix_str value slice pins s σ H _ _ v u Q I rx ry ⟨_, _, c, r1.str, r2.int, hz, e1, q _ S H (Gw.refl al) (.str _)⟩ hs
    · cases e
  · split at e
    · rename_i kvs _ k hk
      cases hM : isM kvs with
      | true =>
        obtain ⟨a, ts, kvs', rfl, rfl, h1, p1, p2⟩ := r1.dctT hM
        rw [lookD_T k p1] at e; cases e
      | false =>
      obtain ⟨a, ts, rfl, h1, p1, p2⟩ := r1.dct hM
      obtain rfl := r2.key hk
      rcases look_of k p1 p2 with ⟨n1, n2⟩ | ⟨w, d', n1, n2, n3⟩
      · rw [n2] at e; cases e
      · rw [n2] at e
        cases e
        have g : DGet H a (kV k) (some w) := by rw [← n1]; exact DGet.of h1
        obtain rfl : v = Value.ref a := rx
        exact PyProof.Rows.tail_any (dict_typeIs I g) PySem.F.slot_dict_getitem.lookup (d_getItem (by omega) I g ry fun w' s3 I3 rw' => ⟨w, H, I3, rw', q w S H (Gw.refl al) n3⟩) hs
    · unfold lookT at e
      split at e
      · rename_i ks hks
        split at e
        · rename_i kvs _ _ hM
          obtain ⟨a, ts, kvs', rfl, rfl, h1, p1, p2⟩ := r1.dctT hM
          obtain ⟨b, rfl, hb⟩ := r2.keyT hks
          have e : lookP ks kvs' = _ := e
          rcases lookP_of ks (keysOf_key hks).2 p1 p2 with ⟨n1, n2⟩ | ⟨w, d', n1, n2, n3⟩
          · rw [n2] at e; cases e
          · rw [n2] at e
            cases e
            have g : DGet H a (.ref b) (some w) := by rw [← n1]; exact DGet.t h1 hb
            obtain rfl : v = Value.ref a := rx
            exact PyProof.Rows.tail_any (dict_typeIs I g) PySem.F.slot_dict_getitem.lookup (d_getItem (by omega) I g ry fun w' s3 I3 rw' => ⟨w, H, I3, rw', q w S H (Gw.refl al) n3⟩) hs
        · cases e
      · cases e
  · cases e

/-! ### k in d -/
def inKD : PyData → PyData → Option Bool
  | k, .dict kvs => if isM kvs = true then match keysOf? k with
      | some ks => some (lookP ks kvs).isSome
      | none => none
    else match keyOf? k with
      | some k => some (lookD (keyD k) kvs).isSome
      | none => none
  | _, _ => none
def anyIn (a b : PyData) : Option Bool := match b with
  | .dict _ => inKD a b
  | _ => inD a b
def opInA (a b : PyData) : Option PyData := (anyIn a b).map .bool
def opNotInA (a b : PyData) : Option PyData := (anyIn a b).map fun b => .bool (!b)
theorem inKD_run {pins : List (Addr × Obj)} {s : Shared} {σ : L2.St} {H : Hp} {S : Addr → Prop} {x y : V} {v u : Value} {a b : PyData} {r : Bool} (I : Inv X pins σ H s) (hu : X.A.units + 64 < cLine) (rx : RelV x v) (ry : RelV y u) (r1 : Rdb X.K S H x a) (r2 : Rdb X.K S H y b) (e : inKD a b = some r) :
    (∀ {E : Value → Shared → Prop} {Q : VK}, Q (.bl r) H → wpAny (model X.prog X.w) X.A (compareOp .In v u) (EP X pins σ Q) X.xe s) ∧ ∀ {E : Value → Shared → Prop} {Q : VK}, Q (.bl (!r)) H → wpAny (model X.prog X.w) X.A (compareOp .NotIn v u) (EP X pins σ Q) X.xe s := by
  unfold inKD at e
  split at e
  · split at e
    · rename_i kvs hM
      split at e
      · rename_i ks hks
        cases e
        obtain ⟨p, ts, kvs', rfl, rfl, h1, p1, p2⟩ := r2.dctT hM
        obtain ⟨b, rfl, hb⟩ := r1.keyT hks
        obtain rfl : u = Value.ref p := ry
        have g : DGet H p (.ref b) (valV ts ks) := DGet.t h1 hb
        have er : (lookP ks ((.none, .none) :: kvs')).isSome = (valV ts ks).isSome := by
          show (lookP ks kvs').isSome = _
          rcases lookP_of ks (keysOf_key hks).2 p1 p2 with ⟨n1, n2⟩ | ⟨w, d', n1, n2, n3⟩ <;> rw [n1, n2] <;> rfl
        rw [er]
        exact ⟨fun {E Q} q => d_in (by omega) I g rx fun s3 I3 => ⟨.bl _, H, I3, rfl, q⟩, fun {E Q} q => d_notIn (by omega) I g rx fun s3 I3 => ⟨.bl _, H, I3, rfl, q⟩⟩
      · cases e
    · rename_i hM
      split at e
      · rename_i k hk
        cases e
        obtain ⟨p, ts, rfl, h1, p1, p2⟩ := r2.dct (by simpa using hM)
        obtain rfl := r1.key hk
        obtain rfl : u = Value.ref p := ry
        have g : DGet H p (kV k) (valV ts k) := DGet.of h1
        have er : (lookD (keyD k) ‹_›).isSome = (valV ts k).isSome := by
          rcases look_of k p1 p2 with ⟨n1, n2⟩ | ⟨w, d', n1, n2, n3⟩ <;> rw [n1, n2] <;> rfl
        rw [er]
        exact ⟨fun {E Q} q => d_in (by omega) I g rx fun s3 I3 => ⟨.bl _, H, I3, rfl, q⟩, fun {E Q} q => d_notIn (by omega) I g rx fun s3 I3 => ⟨.bl _, H, I3, rfl, q⟩⟩
      · cases e
  · cases e
theorem anyIn_run {pins : List (Addr × Obj)} {s : Shared} {σ : L2.St} {H : Hp} {S : Addr → Prop} {x y : V} {v u : Value} {a b : PyData} {r : Bool} (I : Inv X pins σ H s) (hu : X.A.units + 64 < cLine) (rx : RelV x v) (ry : RelV y u) (r1 : Rdb X.K S H x a) (r2 : Rdb X.K S H y b) (e : anyIn a b = some r) :
    (∀ {E : Value → Shared → Prop} {Q : VK}, Q (.bl r) H → wpAny (model X.prog X.w) X.A (compareOp .In v u) (EP X pins σ Q) X.xe s) ∧ ∀ {E : Value → Shared → Prop} {Q : VK}, Q (.bl (!r)) H → wpAny (model X.prog X.w) X.A (compareOp .NotIn v u) (EP X pins σ Q) X.xe s := by
  unfold anyIn at e
  split at e
  · exact inKD_run I hu rx ry r1 r2 e
  · exact inD_run I hu rx ry r1 r2 e
theorem o_inA (hu : X.A.units + 64 < cLine) : OpR X (compareOp .In) (rD X.K opInA) := by
  intro pins s σ H x y v u Q I rx ry q
  obtain ⟨S, d1, d2, d, al, r1, r2, e, q⟩ := q
  unfold opInA at e
  obtain ⟨r, e1, rfl⟩ := Option.map_eq_some_iff.mp e
  exact (anyIn_run I hu rx ry r1 r2 e1).1 (E := X.xe) (q _ S H (Gw.refl al) (.bl _))
theorem o_notInA (hu : X.A.units + 64 < cLine) : OpR X (compareOp .NotIn) (rD X.K opNotInA) := by
  intro pins s σ H x y v u Q I rx ry q
  obtain ⟨S, d1, d2, d, al, r1, r2, e, q⟩ := q
  unfold opNotInA at e
  obtain ⟨r, e1, rfl⟩ := Option.map_eq_some_iff.mp e
  exact (anyIn_run I hu rx ry r1 r2 e1).2 (E := X.xe) (q _ S H (Gw.refl al) (.bl _))
end

/-! ### (..), [..], {} -/
def lenOk {α : Type} (l : List α) : Bool := decide (l.length ≤ sizeLine)
theorem lenOk_le {α : Type} {l : List α} (h : lenOk l = true) : l.length ≤ sizeLine := of_decide_eq_true h
def xTup (g : Mo (List Rs)) : Mo Rs := bindM g fun rs => bindM (keepL rs) fun ds => if lenOk ds = true then retM (.kept (.tuple ds)) else fun _ => none
def xLst (g : Mo (List Rs)) : Mo Rs := bindM g fun rs => bindM (keepL rs) fun ds => if lenOk ds = true then retM (.fresh (.list ds)) else fun _ => none
def xDict0 : Mo Rs := retM (.fresh (.dict []))
section
variable {X : Cx} {es : List Expr} {g : Mo (List Rs)} {pos : Pos}
theorem pd_tup {x1} (h : AD X es g) : PD X (.Tuple es x1 pos) (xTup g) := PE.to (pe_tupN h) fun σ H Q hq => by
  obtain ⟨S, ρ, r, ρ', G, e, q⟩ := hq
  obtain ⟨rs, ρ1, e1, e2⟩ := bindM_some e
  obtain ⟨ds, ρ2, e3, e4⟩ := bindM_some e2
  split at e4
  · rename_i hz
    cases retM_some e4
    refine ⟨S, ρ, rs, ρ1, G, e1, fun vs S1 H1 F1 G1 R1 => ?_⟩
    obtain ⟨S2, n2, p2, sh2⟩ := RRLw.keep rs ⟨G, F1, G1⟩ R1.w e3
    refine ⟨by rw [p2.len]; exact lenOk_le hz, newT_rp n2.g.al p2 fun p o hp rp => ?_⟩
    have gw := Gw.layS (o := o) n2.g.al hp
    exact q _ _ _ (n2.grow gw).f (n2.grow gw).g rp
  · cases e4
theorem pd_lst (h : AD X es g) : PD X (.List es pos) (xLst g) := PE.to (pe_lst h) fun σ H Q hq => by
  obtain ⟨S, ρ, r, ρ', G, e, q⟩ := hq
  obtain ⟨rs, ρ1, e1, e2⟩ := bindM_some e
  obtain ⟨ds, ρ2, e3, e4⟩ := bindM_some e2
  split at e4
  · rename_i hz
    cases retM_some e4
    refine ⟨S, ρ, rs, ρ1, G, e1, fun vs S1 H1 F1 G1 R1 => ?_⟩
    obtain ⟨S2, n2, p2, sh2⟩ := RRLw.keep rs ⟨G, F1, G1⟩ R1.w e3
    refine ⟨by rw [p2.len]; exact lenOk_le hz, fun p hp => ?_⟩
    have gw := Gw.lay (o := .lst vs) n2.g.al hp
    exact q _ _ _ (n2.grow gw).f (n2.grow gw).g (lay_lst n2.g.al p2 hp (n2.none0 hp))
  · cases e4
theorem pd_dict0 : PD X (.Dict [] [] pos) xDict0 := PE.to pe_dnewK fun σ H Q hq => by
  obtain ⟨S, ρ, r, ρ', G, e, q⟩ := hq
  cases retM_some e
  intro p hp
  have gw := Gw.lay (o := .dK []) G.al hp
  exact q _ _ _ gw.fr (G.ext gw) ⟨p, rfl, hp, fun z => G.al p z hp, .inl ⟨[], upd_same, rfl, .nil⟩⟩
end

/-! ### the calls of built-ins -/
inductive RdbL (K : PySem.W.Frag) (S : Addr → Prop) (H : Hp) : List V → List PyData → Prop
  | nil : RdbL K S H [] []
  | cons {v : V} {vs : List V} {d : PyData} {ds : List PyData} : Rdb K S H v d → RdbL K S H vs ds → RdbL K S H (v :: vs) (d :: ds)
def rdL : List Rs → Mo (List PyData)
  | [] => retM []
  | r :: rs => bindM (rdR r) fun d => bindM (rdL rs) fun ds => retM (d :: ds)
theorem rdL_ok {K : PySem.W.Frag} {H0 H : Hp} {S : Addr → Prop} {ρ : Rho} {σ : L2.St} (g : Gd K S ρ σ H) : ∀ {rs : List Rs} {vs : List V} {ds : List PyData} {ρ' : Rho}, RRL K H0 S H ρ σ vs rs → rdL rs ρ = some (ds, ρ') → RdbL K S H vs ds ∧ ρ' = ρ
  | [], _, _, _, .nil, e => by cases retM_some e; exact ⟨.nil, rfl⟩
  | r :: rs, _, _, _, .cons h t, e => by
    obtain ⟨d, ρ1, e1, e2⟩ := bindM_some e
    obtain ⟨ds, ρ2, e3, e4⟩ := bindM_some e2
    cases retM_some e4
    obtain ⟨q1, rfl⟩ := h.rd g e1
    obtain ⟨q2, rfl⟩ := rdL_ok g t e3
    exact ⟨.cons q1 q2, rfl⟩
def rB (K : PySem.W.Frag) (op : List PyData → Option PyData) : List V → Hp → VK → Prop := fun xs H Q => ∃ S ds d, (∀ a, S a → H a ≠ none) ∧ RdbL K S H xs ds ∧ op ds = some d ∧ ∀ v S' H', Gw S H S' H' → RR K H S' H' [] [] v (resN d) → Q v H'
def xB (op : List PyData → Option PyData) (g : Mo (List Rs)) : Mo Rs := bindM g fun rs => bindM (rdL rs) fun ds => bindM (optM (op ds)) fun d => retM (resN d)
section
variable {X : Cx} {op : List PyData → Option PyData} {g : Mo (List Rs)} {id T : String} {x : Str} {p pos : Pos} {e : Expr} {es : List Expr}
theorem xB_ok {K : PySem.W.Frag} {σ : L2.St} {H : Hp} {Q : VK} (h : tD K (xB op g) σ H Q) : tCB (rB K op) (tA K g) σ H Q := by
  obtain ⟨S, ρ, r, ρ', G, e, q⟩ := h
  obtain ⟨rs, ρ1, e1, e2⟩ := bindM_some e
  obtain ⟨ds, ρ2, e3, e4⟩ := bindM_some e2
  obtain ⟨d, ρ3, e5, e6⟩ := bindM_some e4
  obtain ⟨b1, b2⟩ := optM_some e5
  simp only at b1 b2
  cases retM_some e6
  refine ⟨S, ρ, rs, ρ1, G, e1, fun vs S1 H1 F1 G1 R1 => ?_⟩
  obtain ⟨r1, rfl⟩ := rdL_ok G1 R1 e3
  subst b2
  have n1 : Now K σ S ρ H S1 ρ' H1 := ⟨G, F1, G1⟩
  refine ⟨S1, ds, d, G1.al, r1, b1, fun v S3 H3 E R => ?_⟩
  exact q v S3 H3 (n1.grow E).f (n1.grow E).g ((RR.new R : RR K H1 S3 H3 ρ' σ v (resN d)).pre n1)
theorem pd_callB (hc : CallR X (.builtin id) (rB X.K op)) (hg : Gl X x) (hm : X.mg x = none) (hv : bootBuiltins x = some (.builtin id)) (ha : AD X (e :: es) g) (hn : x ≠ "__name__" := by decide) (hdb : (x == ("__debug__" : Str)) = false := by decide)
    (he : starEach (e :: es) X.env = (false, eval e X.env) :: starEach es X.env := by rfl) (hpl : (backTo pos (starEach es X.env)).any (·.1) = false := by rfl) : PD X (.Call (.Name x p) (e :: es) [] pos) (xB op g) :=
  PE.to (pe_callB hc hg hm hv ha hn hdb he hpl) fun _ _ _ h => xB_ok h
theorem pd_callTy (hc : CallR X (.type T) (rB X.K op)) (hg : Gl X x) (hm : X.mg x = none) (hv : bootBuiltins x = some (.type T)) (ha : AD X (e :: es) g) (hn : x ≠ "__name__" := by decide) (hdb : (x == ("__debug__" : Str)) = false := by decide)
    (he : starEach (e :: es) X.env = (false, eval e X.env) :: starEach es X.env := by rfl) (hpl : (backTo pos (starEach es X.env)).any (·.1) = false := by rfl) : PD X (.Call (.Name x p) (e :: es) [] pos) (xB op g) :=
  PE.to (pe_callTy hc hg hm hv ha hn hdb he hpl) fun _ _ _ h => xB_ok h
end
def oLen : List PyData → Option PyData
  | [.list ds] => some (.int ds.length)
  | [.tuple ds] => some (.int ds.length)
  | [.dict kvs] => if isM kvs = true then none else some (.int kvs.length)
  | [.str z] => if z.length ≤ sizeLine then some (.int z.length) else none
  | _ => none
def oInt : List PyData → Option PyData
  | [.int i] => some (.int i)
  | [.bool b] => some (.int (if b then 1 else 0))
  | _ => none
def oStr : List PyData → Option PyData
  | [.int i] => if i.natAbs.log2 < 1920 then some (.str (toString i)) else none
  | _ => none
def oList : List PyData → Option PyData
  | [.list ds] => some (.list ds)
  | [.tuple ds] => some (.list ds)
  | _ => none
def oTuple : List PyData → Option PyData
  | [.list ds] => some (.tuple ds)
  | [.tuple ds] => some (.tuple ds)
  | _ => none
def oDict : List PyData → Option PyData
  | [.dict kvs] => if isM kvs = true then none else some (.dict kvs)
  | _ => none
def oAbs : List PyData → Option PyData
  | [.int i] => some (.int (if i < 0 then -i else i))
  | _ => none
def oMin2 : List PyData → Option PyData
  | [.int i, .int j] => some (.int (if j < i then j else i))
  | _ => none
def oMax2 : List PyData → Option PyData
  | [.int i, .int j] => some (.int (if j > i then j else i))
  | _ => none
section
variable {X : Cx}
theorem RdbL.one {K : PySem.W.Frag} {S : Addr → Prop} {H : Hp} {vs : List V} {d : PyData} (h : RdbL K S H vs [d]) : ∃ v, vs = [v] ∧ Rdb K S H v d := by
  cases h with
  | cons h t => cases t; exact ⟨_, rfl, h⟩
theorem RdbL.two {K : PySem.W.Frag} {S : Addr → Prop} {H : Hp} {vs : List V} {d e : PyData} (h : RdbL K S H vs [d, e]) : ∃ v w, vs = [v, w] ∧ Rdb K S H v d ∧ Rdb K S H w e := by
  cases h with
  | cons h t =>
    obtain ⟨w, rfl, r⟩ := t.one
    exact ⟨_, w, rfl, h, r⟩
theorem b_len : CallR X (.builtin "len") (rB X.K oLen) := by
  intro pins s σ H xs us Q I r h
  obtain ⟨S, ds, d, al, rs, e, q⟩ := h
  unfold oLen at e
  split at e
  · cases e
    obtain ⟨v, rfl, r1⟩ := rs.one
    obtain ⟨a, vs, rfl, h1, p1⟩ := r1.lst
    refine call_len_seq pins s σ H _ us Q I r ⟨a, vs, rfl, .inl (SqL.of h1), ?_⟩
    rw [p1.len]
    exact q _ S H (Gw.refl al) (.int _)
  · cases e
    obtain ⟨v, rfl, r1⟩ := rs.one
    obtain ⟨a, vs, rfl, h1, p1⟩ := r1.tup
    refine call_len_seq pins s σ H _ us Q I r ⟨a, vs, rfl, .inr h1.sq, ?_⟩
    rw [p1.len]
    exact q _ S H (Gw.refl al) (.int _)
  · rename_i kvs
    split at e
    · cases e
    rename_i hM
    cases e
    obtain ⟨v, rfl, r1⟩ := rs.one
    obtain ⟨a, ts, rfl, h1, p1, p2⟩ := r1.dct (by simpa using hM)
    rw [Vals.ref1 r]
    have hl : ts.length = kvs.length := by have := congrArg List.length p1; simpa using this.symm
    exact d_len I h1 fun t s3 I3 => ⟨.int ts.length, H, I3, ⟨t, rfl⟩, by rw [hl]; exact q _ S H (Gw.refl al) (.int _)⟩
  · split at e
    · rename_i hz
      cases e
      obtain ⟨v, rfl, r1⟩ := rs.one
      obtain rfl := r1.str
      exact call_len_str pins s σ H _ us Q I r ⟨_, rfl, hz, q _ S H (Gw.refl al) (.int _)⟩
    · cases e
  · cases e
theorem b_int : CallR X (.type "int") (rB X.K oInt) := by
  intro pins s σ H xs us Q I r h
  obtain ⟨S, ds, d, al, rs, e, q⟩ := h
  unfold oInt at e
  split at e
  · cases e
    obtain ⟨v, rfl, r1⟩ := rs.one
    obtain rfl := r1.int
    exact call_int1 pins s σ H _ us Q I r (.inl ⟨_, rfl, q _ S H (Gw.refl al) (.int _)⟩)
  · cases e
    obtain ⟨v, rfl, r1⟩ := rs.one
    obtain rfl := r1.bl
    exact call_int1 pins s σ H _ us Q I r (.inr ⟨_, rfl, q _ S H (Gw.refl al) (.int _)⟩)
  · cases e
theorem b_str : CallR X (.type "str") (rB X.K oStr) := by
  intro pins s σ H xs us Q I r h
  obtain ⟨S, ds, d, al, rs, e, q⟩ := h
  unfold oStr at e
  split at e
  · split at e
    · rename_i hz
      cases e
      obtain ⟨v, rfl, r1⟩ := rs.one
      obtain rfl := r1.int
      exact call_str_int pins s σ H _ us Q I r ⟨_, rfl, hz, q _ S H (Gw.refl al) (.str _)⟩
    · cases e
  · cases e
theorem b_list : CallR X (.type "list") (rB X.K oList) := by
  intro pins s σ H xs us Q I r h
  obtain ⟨S, ds, d, al, rs, e, q⟩ := h
  unfold oList at e
  split at e
  · cases e
    obtain ⟨v, rfl, r1⟩ := rs.one
    obtain ⟨a, vs, rfl, h1, p1⟩ := r1.lst
    exact call_list_of pins s σ H _ us Q I r ⟨a, vs, rfl, .inl (SqL.of h1), fun p hp => q _ S _ (Gw.lay al hp) (lay_lst al p1 hp hp)⟩
  · cases e
    obtain ⟨v, rfl, r1⟩ := rs.one
    obtain ⟨a, vs, rfl, h1, p1⟩ := r1.tup
    exact call_list_of pins s σ H _ us Q I r ⟨a, vs, rfl, .inr h1.sq, fun p hp => q _ S _ (Gw.lay al hp) (lay_lst al p1 hp hp)⟩
  · cases e
theorem b_tuple : CallR X (.type "tuple") (rB X.K oTuple) := by
  intro pins s σ H xs us Q I r h
  obtain ⟨S, ds, d, al, rs, e, q⟩ := h
  unfold oTuple at e
  split at e
  · cases e
    obtain ⟨v, rfl, r1⟩ := rs.one
    obtain ⟨a, vs, rfl, h1, p1⟩ := r1.lst
    exact call_tupN pins s σ H _ us Q I r ⟨a, vs, rfl, .inl ⟨SqL.of h1, newT_rp al p1 fun p o hp rp => q _ _ _ (Gw.layS al hp) rp⟩⟩
  · cases e
    obtain ⟨v, rfl, r1⟩ := rs.one
    obtain ⟨a, vs, rfl, h1, p1, l1⟩ := r1.tupP
    exact call_tupN pins s σ H _ us Q I r ⟨a, vs, rfl, .inr ⟨h1.sq, q _ S H (Gw.refl al) (.tup h1 p1 l1)⟩⟩
  · cases e
theorem b_dict : CallR X (.type "dict") (rB X.K oDict) := by
  intro pins s σ H xs us Q I r h
  obtain ⟨S, ds, d, al, rs, e, q⟩ := h
  unfold oDict at e
  split at e
  · split at e
    · cases e
    rename_i hM
    cases e
    obtain ⟨v, rfl, r1⟩ := rs.one
    obtain ⟨a, ts, rfl, h1, p1, p2⟩ := r1.dct (by simpa using hM)
    exact call_dictD pins s σ H _ us Q I r ⟨a, ts, rfl, h1, fun p hp => q _ S _ (Gw.lay al hp) ⟨p, rfl, hp, fun z => al p z hp, .inl ⟨ts, upd_same, p1, p2.up (Gw.lay al hp).up⟩⟩⟩
  · cases e
theorem b_abs : CallR X (.builtin "abs") (rB X.K oAbs) := by
  intro pins s σ H xs us Q I r h
  obtain ⟨S, ds, d, al, rs, e, q⟩ := h
  unfold oAbs at e
  split at e
  · cases e
    obtain ⟨v, rfl, r1⟩ := rs.one
    obtain rfl := r1.int
    exact call_abs pins s σ H _ us Q I r ⟨_, rfl, q _ S H (Gw.refl al) (.int _)⟩
  · cases e
theorem b_min2 (hc : X.calm = true) : CallR X (.builtin "min") (rB X.K oMin2) := by
  intro pins s σ H xs us Q I r h
  obtain ⟨S, ds, d, al, rs, e, q⟩ := h
  unfold oMin2 at e
  split at e
  · cases e
    obtain ⟨v, w, rfl, r1, r2⟩ := rs.two
    obtain rfl := r1.int
    obtain rfl := r2.int
    exact call_min2 hc pins s σ H _ us Q I r ⟨_, _, rfl, q _ S H (Gw.refl al) (.int _)⟩
  · cases e
theorem b_max2 (hc : X.calm = true) : CallR X (.builtin "max") (rB X.K oMax2) := by
  intro pins s σ H xs us Q I r h
  obtain ⟨S, ds, d, al, rs, e, q⟩ := h
  unfold oMax2 at e
  split at e
  · cases e
    obtain ⟨v, w, rfl, r1, r2⟩ := rs.two
    obtain rfl := r1.int
    obtain rfl := r2.int
    exact call_max2 hc pins s σ H _ us Q I r ⟨_, _, rfl, q _ S H (Gw.refl al) (.int _)⟩
  · cases e
end

/-! ### isinstance -/
def tyD : PyData → String
  | .none => "NoneType"
  | .bool _ => "bool"
  | .int _ => "int"
  | .str _ => "str"
  | .list _ => "list"
  | .tuple _ => "tuple"
  | .dict _ => "dict"
def isSub (t T : String) : Bool := t == T || (t == "bool" && T == "int")
def xIsi (T : String) (f : Mo Rs) : Mo Rs := bindM f fun r => bindM (rdR r) fun d => retM (.kept (.bool (isSub (tyD d) T)))
theorem Rd.tyx {K : PySem.W.Frag} {H : Hp} {a : Addr} {ts : List (Key × V)} (h : Rd H a (.dK ts)) : TyX K H (.ref a) (.type "dict") := by
  rcases h with h | ⟨o, h⟩
  · exact .base (.dK h)
  · exact .fDict h
theorem Rdb.tyx {K : PySem.W.Frag} {S : Addr → Prop} {H : Hp} {v : V} {d : PyData} (h : Rdb K S H v d) : TyX K H v (.type (tyD d)) := by
  rcases h with h | ⟨a, rfl, h⟩
  · cases h with
    | non => exact .base .non
    | bl b => exact .base (.bl b)
    | int i => exact .base (.int i)
    | str x => exact .base (.str x)
    | tup h r _ =>
      rcases h with ⟨_, h | ⟨o, h⟩⟩ | ⟨o, _, _, h1, h2, _⟩
      · exact .base (.tup h)
      · exact .fTuple h
      · exact .kTuple h1 h2
    | lst _ h _ => exact .base (.lst h)
    | dct _ h _ _ => exact Rd.tyx h
    | dctT _ h _ _ => exact .base (.dT h)
  · cases d with
    | list ds => obtain ⟨vs, h, _⟩ := h; exact .base (.lst h)
    | dict kvs =>
      rcases h with ⟨ts, h, _⟩ | ⟨ts, _, _, h, _⟩
      · exact Rd.tyx h
      · exact .base (.dT h)
    | _ => exact h.elim
/-- the answers of isinstance, for the types of data -/
structure Kit (K : PySem.W.Frag) (T : String) : Prop where
  ok : ∀ d : PyData, PySem.W.kitOne K (.type (tyD d)) (.type T) = some (isSub (tyD d) T)
section
variable {X : Cx} {f : Mo Rs} {e : Expr} {T : String} {x z : Str} {p p2 pos : Pos}
theorem pd_isi (k : Kit X.K T) (he : PD X e f) (hg : Gl X "isinstance") (hm : X.mg "isinstance" = none) (hg2 : Gl X z) (hm2 : X.mg z = none) (hv : bootBuiltins "isinstance" = some (.builtin "isinstance")) (hv2 : bootBuiltins z = some (.type T))
    (hn2 : z ≠ "__name__" := by decide) (hd2 : (z == ("__debug__" : Str)) = false := by decide) (h1 : starEach [e, .Name z p2] X.env = (false, eval e X.env) :: starEach [.Name z p2] X.env := by rfl) (hpl : (backTo pos (starEach [.Name z p2] X.env)).any (·.1) = false := by rfl) :
    PD X (.Call (.Name "isinstance" p) [e, .Name z p2] [] pos) (xIsi T f) :=
  PE.to (pe_callB call_isi hg hm hv (pa_cons he (pa_cons (pe_bltn hg2 hm2 hv2 (v := .ty T) rfl hn2 hd2) pa_nil) h1) (he := h1) (hpl := hpl)) fun σ H Q h => by
    obtain ⟨S, ρ, r, ρ', G, e, q⟩ := h
    obtain ⟨r1, ρ1, e1, e2⟩ := bindM_some e
    obtain ⟨d, ρ2, e3, e4⟩ := bindM_some e2
    cases retM_some e4
    refine ⟨S, ρ, r1, ρ1, G, e1, fun v S1 H1 F1 G1 R1 => ?_⟩
    obtain ⟨rd, rfl⟩ := R1.rd G1 e3
    exact ⟨v, .ty T, .type (tyD d), .type T, _, rfl, .ty T, rd.tyx, k.ok d, q _ S1 H1 F1 G1 (.bl _)⟩
end

/-! ### a[lo:hi] -/
def cutD {α : Type} (xs : List α) (lo hi : Option Int) : List α := (xs.drop (HT.sIx xs.length 0 lo)).take (HT.sIx xs.length xs.length hi - HT.sIx xs.length 0 lo)
def opSl (d : PyData) (lo hi : Option Int) : Option PyData := match d with
  | .list ds => some (.list (cutD ds lo hi))
  | .tuple ds => some (.tuple (cutD ds lo hi))
  | .str z => if z.length ≤ sizeLine then some (.str (cutS z lo hi)) else none
  | _ => none
theorem RpL.cut {K : PySem.W.Frag} {S : Addr → Prop} {H : Hp} {vs : List V} {ds : List PyData} (r : RpL K S H vs ds) (lo hi : Option Int) : RpL K S H (cutV vs lo hi) (cutD ds lo hi) := by
  unfold cutV cutD
  rw [r.len]
  exact (r.drop _).take _
/-- a part of a slice -/
def tO (K : PySem.W.Frag) (f : Mo (Option Int)) : TO := fun σ H Q => ∃ S ρ o ρ', Gd K S ρ σ H ∧ f ρ = some (o, ρ') ∧ ∀ S' H', Fm S ρ σ H S' ρ' H' → Gd K S' ρ' σ H' → Q o H'
abbrev OD (X : Cx) (e : Option Expr) (f : Mo (Option Int)) : Prop := PO X e (tO X.K f)
def oN : Mo (Option Int) := retM none
def intD : PyData → Option Int
  | .int i => some i
  | _ => none
def oS (f : Mo Rs) : Mo (Option Int) := bindM f fun r => bindM (rdR r) fun d => bindM (optM (intD d)) fun i => retM (some i)
def xSl (f : Mo Rs) (lo hi : Mo (Option Int)) : Mo Rs := bindM f fun r => bindM lo fun l => bindM hi fun h => bindM (rdR r) fun d => bindM (optM (opSl d l h)) fun d' => retM (resN d')
theorem PO.to {X : Cx} {e : Option Expr} {t t' : TO} (h : PO X e t) (i : ∀ σ H Q, t' σ H Q → t σ H Q) : PO X e t' := ⟨fun pins s σ H Q I q => h.run pins s σ H Q I (i σ H Q q)⟩
section
variable {X : Cx} {f : Mo Rs} {e : Expr} {lo hi : Option Expr} {gl gh : Mo (Option Int)} {p2 pos : Pos}
theorem od_none : OD X none oN := PO.to po_none fun σ H Q h => by
  obtain ⟨S, ρ, r, ρ', G, e, q⟩ := h
  cases retM_some e
  exact q S H Fm.refl G
theorem od_some (h : PD X e f) : OD X (some e) (oS f) := PO.to (po_some h) fun σ H Q h => by
  obtain ⟨S, ρ, o, ρ', G, e, q⟩ := h
  obtain ⟨r1, ρ1, e1, e2⟩ := bindM_some e
  obtain ⟨d, ρ2, e3, e4⟩ := bindM_some e2
  obtain ⟨i, ρ3, e5, e6⟩ := bindM_some e4
  cases retM_some e6
  obtain ⟨b1, b2⟩ := optM_some e5
  simp only at b1 b2
  refine ⟨S, ρ, r1, ρ1, G, e1, fun v S1 H1 F1 G1 R1 => ?_⟩
  obtain ⟨rd, rfl⟩ := R1.rd G1 e3
  subst b2
  cases d with
  | int j => cases b1; exact ⟨i, rd.int, q S1 H1 F1 G1⟩
  | _ => cases b1
def rSlD (K : PySem.W.Frag) : V → Option Int → Option Int → Hp → VK → Prop := fun x lo hi H Q => ∃ S d d', (∀ a, S a → H a ≠ none) ∧ Rdb K S H x d ∧ opSl d lo hi = some d' ∧ ∀ v S' H', Gw S H S' H' → RR K H S' H' [] [] v (resN d') → Q v H'
theorem sl_data : SlR X (rSlD X.K) := by
  intro pins s σ H x v vl vu lo hi sl Q I rx hs pl pu h
  obtain ⟨S, d, d', al, r1, e, q⟩ := h
  unfold opSl at e
  split at e
  · cases e
    obtain ⟨a, vs, rfl, h1, p1⟩ := r1.lst
    exact sl_list pins s σ H _ v vl vu lo hi sl Q I rx hs pl pu ⟨a, vs, rfl, SqL.of h1, fun p hp => q _ S _ (Gw.lay al hp) (lay_lst al (p1.cut lo hi) hp hp)⟩
  · cases e
    obtain ⟨a, vs, rfl, h1, p1, l1⟩ := r1.tupP
    refine sl_tupN pins s σ H _ v vl vu lo hi sl Q I rx hs pl pu ⟨a, vs, rfl, h1.sq, fun ⟨z1, z2⟩ => ?_, fun _ => newT_rp al (p1.cut lo hi) fun p o hp rp => q _ _ _ (Gw.layS al hp) rp⟩
    have ec : cutV vs lo hi = vs := by
      unfold cutV
      rw [z1, z2]
      simp
    have key : ∀ dl : List PyData, RpL X.K S H vs dl → TF X.K S H a vs dl → Rp X.K S H (.ref a) (.tuple (cutD dl lo hi)) := fun dl p1 l1 => by
      have ed : cutD dl lo hi = dl := by
        unfold cutD
        rw [← p1.len, z1, z2, p1.len]
        simp
      rw [ed]
      exact .tup h1 p1 l1
    exact q _ S H (Gw.refl al) (key _ p1 l1)
  · split at e
    · rename_i hz
      cases e
      obtain rfl := r1.str
      exact sl_str pins s σ H _ v vl vu lo hi sl Q I rx hs pl pu ⟨_, rfl, hz, q _ S H (Gw.refl al) (.str _)⟩
    · cases e
  · cases e
theorem pd_sl (he : PD X e f) (hl : OD X lo gl) (hh : OD X hi gh) : PD X (.Subscript e (.Slice lo hi none p2) pos) (xSl f gl gh) := PE.to (pe_slice sl_data he hl hh) fun σ H Q h => by
  obtain ⟨S, ρ, r, ρ', G, e, q⟩ := h
  obtain ⟨r1, ρ1, e1, a1⟩ := bindM_some e
  obtain ⟨l, ρ2, e2, a2⟩ := bindM_some a1
  obtain ⟨u, ρ3, e3, a3⟩ := bindM_some a2
  obtain ⟨d, ρ4, e4, a4⟩ := bindM_some a3
  obtain ⟨d', ρ5, e5, a5⟩ := bindM_some a4
  obtain ⟨b1, b2⟩ := optM_some e5
  simp only at b1 b2
  cases retM_some a5
  obtain rfl := rdR_same e4
  subst b2
  refine ⟨S, ρ, r1, ρ1, G, e1, fun v S1 H1 F1 G1 R1 => ⟨S1, ρ1, l, ρ2, G1, e2, fun S2 H2 F2 G2 => ⟨S2, ρ2, u, ρ', G2, e3, fun S3 H3 F3 G3 => ?_⟩⟩⟩
  have n1 : Now X.K σ S ρ H S1 ρ1 H1 := ⟨G, F1, G1⟩
  have n2 := n1.step F2 G2
  have n3 := n2.step F3 G3
  refine ⟨S3, d, d', G3.al, (((R1.fm n1 F2).fm n2 F3).rd G3 e4).1, b1, fun w S4 H4 E R => ?_⟩
  exact q w S4 H4 (n3.grow E).f (n3.grow E).g ((RR.new R : RR X.K H3 S4 H4 ρ' σ w (resN d')).pre n3)
end

/-! ### - x -/
def opNeg : PyData → Option PyData
  | .int i => some (.int (-i))
  | _ => none
def x1 (op : PyData → Option PyData) (f : Mo Rs) : Mo Rs := bindM f fun r => bindM (rdR r) fun d => bindM (optM (op d)) fun d' => retM (resN d')
section
variable {X : Cx} {f : Mo Rs} {e : Expr} {pos : Pos}
theorem pd_neg (he : PD X e f) : PD X (.UnaryOp .USub e pos) (x1 opNeg f) := PE.to (pe_un un_neg he) fun σ H Q h => by
  obtain ⟨S, ρ, r, ρ', G, e, q⟩ := h
  obtain ⟨r1, ρ1, e1, e2⟩ := bindM_some e
  obtain ⟨d, ρ2, e3, e4⟩ := bindM_some e2
  obtain ⟨i, ρ3, e5, e6⟩ := bindM_some e4
  obtain ⟨b1, b2⟩ := optM_some e5
  simp only at b1 b2
  cases retM_some e6
  refine ⟨S, ρ, r1, ρ1, G, e1, fun v S1 H1 F1 G1 R1 => ?_⟩
  obtain ⟨rd, rfl⟩ := R1.rd G1 e3
  subst b2
  cases d with
  | int j => cases b1; exact ⟨j, rd.int, q _ S1 H1 F1 G1 (.int _)⟩
  | _ => cases b1
end
end PyI

/-! PyI, part I: sorted, dict of pairs, range, stores, methods that change. -/
namespace PyI
open PySem PySem.Spec L2

/-! ### sorted -/
def leS (a b : Str) : Bool := !ltCps b.cps.toList a.cps.toList
def insS (x : Str) : List Str → List Str
  | [] => [x]
  | y :: r => if leS x y = true then x :: y :: r else y :: insS x r
def sortS : List Str → List Str
  | [] => []
  | x :: r => insS x (sortS r)
theorem leS_iff {a b : Str} : leS a b = true ↔ a.cps.toList ≤ b.cps.toList := by
  unfold leS
  rw [PyProof.Rows.ltCps_eq]
  simp
theorem leS_trans {a b c : Str} (h1 : leS a b = true) (h2 : leS b c = true) : leS a c = true := leS_iff.mpr (List.le_trans (leS_iff.mp h1) (leS_iff.mp h2))
theorem leS_total (a b : Str) : leS a b = true ∨ leS b a = true := (List.le_total a.cps.toList b.cps.toList).imp leS_iff.mpr leS_iff.mpr
theorem leS_antisymm {a b : Str} (h1 : leS a b = true) (h2 : leS b a = true) : a = b := by
  have := List.le_antisymm (leS_iff.mp h1) (leS_iff.mp h2)
  cases a with
  | mk a => cases b with
    | mk b => simp only at this; rw [Array.toList_inj.mp this]
theorem insS_perm (x : Str) : ∀ l, (insS x l).Perm (x :: l)
  | [] => .refl _
  | y :: r => by
    unfold insS
    split
    · exact .refl _
    · exact ((insS_perm x r).cons y).trans (.swap x y r)
theorem sortS_perm : ∀ l, (sortS l).Perm l
  | [] => .refl _
  | x :: r => (insS_perm x _).trans ((sortS_perm r).cons x)
theorem insS_sorted (x : Str) : ∀ {l : List Str}, l.Pairwise (fun a b => leS a b = true) → (insS x l).Pairwise fun a b => leS a b = true
  | [], _ => List.pairwise_singleton _ _
  | y :: r, h => by
    obtain ⟨h1, h2⟩ := List.pairwise_cons.mp h
    unfold insS
    split
    · rename_i hx
      refine List.pairwise_cons.mpr ⟨fun z hz => ?_, h⟩
      rcases List.mem_cons.mp hz with rfl | hz
      · exact hx
      · exact leS_trans hx (h1 z hz)
    · rename_i hx
      refine List.pairwise_cons.mpr ⟨fun z hz => ?_, insS_sorted x h2⟩
      rcases List.mem_cons.mp ((insS_perm x r).mem_iff.mp hz) with rfl | hz
      · exact (leS_total _ _).resolve_left hx
      · exact h1 z hz
theorem sortS_sorted : ∀ l, (sortS l).Pairwise fun a b => leS a b = true
  | [] => .nil
  | x :: r => insS_sorted x (sortS_sorted r)
theorem rising_pair : ∀ (l : List Str) (p : Str), PyProof.Rows.risingS p l = true → (p :: l).Pairwise fun a b => leS a b = true
  | [], p, _ => List.pairwise_singleton _ _
  | x :: r, p, h => by
    unfold PyProof.Rows.risingS at h
    rw [Bool.and_eq_true] at h
    have ih := rising_pair r x h.2
    obtain ⟨h1, h2⟩ := List.pairwise_cons.mp ih
    have hx : leS p x = true := h.1
    refine List.pairwise_cons.mpr ⟨fun z hz => ?_, ih⟩
    rcases List.mem_cons.mp hz with rfl | hz
    · exact hx
    · exact leS_trans hx (h1 z hz)
theorem sortS_of {l ys : List Str} (hp : ys.Perm l) (hs : PyProof.Rows.sortedS ys = true) : ys = sortS l := by
  have pw : ys.Pairwise fun a b => leS a b = true := by
    cases ys with
    | nil => exact .nil
    | cons x r => exact rising_pair r x hs
  exact List.Perm.eq_of_pairwise (fun a b _ _ h1 h2 => leS_antisymm h1 h2) pw (sortS_sorted l) (hp.trans (sortS_perm l).symm)
def insI (x : Int) : List Int → List Int
  | [] => [x]
  | y :: r => if x ≤ y then x :: y :: r else y :: insI x r
def sortI : List Int → List Int
  | [] => []
  | x :: r => insI x (sortI r)
theorem insI_perm (x : Int) : ∀ l, (insI x l).Perm (x :: l)
  | [] => .refl _
  | y :: r => by
    unfold insI
    split
    · exact .refl _
    · exact ((insI_perm x r).cons y).trans (.swap x y r)
theorem sortI_perm : ∀ l, (sortI l).Perm l
  | [] => .refl _
  | x :: r => (insI_perm x _).trans ((sortI_perm r).cons x)
theorem insI_sorted (x : Int) : ∀ {l : List Int}, l.Pairwise (· ≤ ·) → (insI x l).Pairwise (· ≤ ·)
  | [], _ => List.pairwise_singleton _ _
  | y :: r, h => by
    obtain ⟨h1, h2⟩ := List.pairwise_cons.mp h
    unfold insI
    split
    · rename_i hx
      refine List.pairwise_cons.mpr ⟨fun z hz => ?_, h⟩
      rcases List.mem_cons.mp hz with rfl | hz
      · exact hx
      · exact Int.le_trans hx (h1 z hz)
    · rename_i hx
      refine List.pairwise_cons.mpr ⟨fun z hz => ?_, insI_sorted x h2⟩
      rcases List.mem_cons.mp ((insI_perm x r).mem_iff.mp hz) with rfl | hz
      · omega
      · exact h1 z hz
theorem sortI_sorted : ∀ l, (sortI l).Pairwise (· ≤ ·)
  | [] => .nil
  | x :: r => insI_sorted x (sortI_sorted r)
theorem sortI_of {l ys : List Int} (hp : ys.Perm l) (hs : ys.Pairwise (· ≤ ·)) : ys = sortI l :=
  List.Perm.eq_of_pairwise (fun a b _ _ h1 h2 => Int.le_antisymm h1 h2) hs (sortI_sorted l) (hp.trans (sortI_perm l).symm)
def strsD : List PyData → Option (List Str)
  | [] => some []
  | .str x :: r => (strsD r).map (x :: ·)
  | _ :: _ => none
def intsD : List PyData → Option (List Int)
  | [] => some []
  | .int x :: r => (intsD r).map (x :: ·)
  | _ :: _ => none
theorem strsD_eq : ∀ {ds : List PyData} {xs : List Str}, strsD ds = some xs → ds = xs.map .str
  | [], _, e => by cases e; rfl
  | d :: r, xs, e => by
    cases d with
    | str x =>
      obtain ⟨l, e1, rfl⟩ := Option.map_eq_some_iff.mp e
      rw [strsD_eq e1]; rfl
    | _ => cases e
theorem intsD_eq : ∀ {ds : List PyData} {xs : List Int}, intsD ds = some xs → ds = xs.map .int
  | [], _, e => by cases e; rfl
  | d :: r, xs, e => by
    cases d with
    | int x =>
      obtain ⟨l, e1, rfl⟩ := Option.map_eq_some_iff.mp e
      rw [intsD_eq e1]; rfl
    | _ => cases e
theorem strsD_map : ∀ xs : List Str, strsD (xs.map .str) = some xs
  | [] => rfl
  | x :: r => by simp [strsD, strsD_map r]
theorem intsD_map : ∀ xs : List Int, intsD (xs.map .int) = some xs
  | [] => rfl
  | x :: r => by simp [intsD, intsD_map r]
theorem RpL.strs_eq {K : PySem.W.Frag} {S : Addr → Prop} {H : Hp} : ∀ {xs : List Str} {vs : List V}, RpL K S H vs (xs.map .str) → vs = xs.map V.str
  | [], _, .nil => rfl
  | x :: r, _, .cons h t => by
    cases h
    rw [RpL.strs_eq t]; rfl
theorem RpL.ints_eq {K : PySem.W.Frag} {S : Addr → Prop} {H : Hp} : ∀ {xs : List Int} {vs : List V}, RpL K S H vs (xs.map .int) → vs = xs.map V.int
  | [], _, .nil => rfl
  | x :: r, _, .cons h t => by
    cases h
    rw [RpL.ints_eq t]; rfl
def keysD (kvs : List (PyData × PyData)) : List PyData := kvs.map (·.1)
def oSorted : List PyData → Option PyData
  | [.list ds] => match strsD ds with
    | some xs => if xs.length < 64 then some (.list ((sortS xs).map .str)) else none
    | none => match intsD ds with
      | some xs => some (.list ((sortI xs).map .int))
      | none => none
  | [.dict kvs] => match strsD (keysD kvs) with
    | some xs => if xs.length < 64 then some (.list ((sortS xs).map .str)) else none
    | none => none
  | _ => none
section
variable {X : Cx}
theorem keyD_strs : ∀ {ts : List (Key × V)} {xs : List Str}, xs.map PyData.str = ts.map (fun p => keyD p.1) → ts.map (·.1) = xs.map Sum.inr
  | [], [], _ => rfl
  | [], _ :: _, e => by simp at e
  | _ :: _, [], e => by simp at e
  | (k, v) :: ts, x :: xs, e => by
    simp only [List.map_cons, List.cons.injEq] at e
    rw [List.map_cons, List.map_cons, keyD_strs e.2]
    cases k with
    | inl i => cases e.1
    | inr y => cases e.1; rfl
theorem b_sorted (hc : X.calm = true) : CallR X (.builtin "sorted") (rB X.K oSorted) := by
  intro pins s σ H xs us Q I r h
  obtain ⟨S, ds, d, al, rs, e, q⟩ := h
  unfold oSorted at e
  split at e
  · obtain ⟨v, rfl, r1⟩ := rs.one
    obtain ⟨a, vs, rfl, h1, p1⟩ := r1.lst
    split at e
    · rename_i xs hx
      split at e
      · rename_i hl
        cases e
        obtain rfl := strsD_eq hx
        obtain rfl := p1.strs_eq
        refine cr_sortedS pins s σ H _ us Q I r ⟨a, xs, rfl, SqL.of h1, hl, fun ys p hp hs hn => ?_⟩
        rw [sortS_of hp hs]
        exact q _ S _ (Gw.lay al hn) (lay_lst al (RpL.strs _) hn hn)
      · cases e
    · split at e
      · rename_i xs hx
        cases e
        obtain rfl := intsD_eq hx
        obtain rfl := p1.ints_eq
        refine cr_sortedI pins s σ H _ us Q I r ⟨a, xs, rfl, SqL.of h1, fun ys p hp hs hn => ?_⟩
        rw [sortI_of hp hs]
        exact q _ S _ (Gw.lay al hn) (lay_lst al (RpL.ints _) hn hn)
      · cases e
  · obtain ⟨v, rfl, r1⟩ := rs.one
    split at e
    · rename_i kvs _ xs hx
      have hM : isM kvs = false := by
        cases kvs with
        | nil => rfl
        | cons p r =>
          obtain ⟨k, v⟩ := p
          cases k <;> first | rfl | cases hx
      obtain ⟨a, ts, rfl, h1, p1, p2⟩ := r1.dct hM
      split at e
      · rename_i hl
        cases e
        have hk := keyD_strs ((strsD_eq hx).symm.trans p1)
        refine call_sortedD hc pins s σ H _ us Q I r ⟨a, ts, xs, rfl, h1, hk, hl, fun ys p hp hs hn => ?_⟩
        rw [sortS_of hp hs]
        exact q _ S _ (Gw.lay al hn) (lay_lst al (RpL.strs _) hn hn)
      · cases e
    · cases e
  · cases e
end

/-! ### dicts: put, merge -/
def hasD (kvs : List (PyData × PyData)) (k : PyData) : Bool := kvs.any fun p => keyEq p.1 k
def putD (kvs : List (PyData × PyData)) (k v : PyData) : List (PyData × PyData) := if hasD kvs k = true then kvs.map (fun p => if keyEq p.1 k = true then (p.1, v) else p) else kvs ++ [(k, v)]
def mergeD (kvs more : List (PyData × PyData)) : List (PyData × PyData) := more.foldl (fun acc p => putD acc p.1 p.2) kvs
section
variable {K : PySem.W.Frag} {S : Addr → Prop} {H : Hp}
/-- the pairs of a dict, by the values and by the data -/
def KvR (K : PySem.W.Frag) (S : Addr → Prop) (H : Hp) (ts : List (Key × V)) (kvs : List (PyData × PyData)) : Prop := kvs.map (·.1) = ts.map (fun p => keyD p.1) ∧ RpL K S H (ts.map (·.2)) (kvs.map (·.2))
theorem KvR.nil : KvR K S H [] [] := ⟨rfl, .nil⟩
theorem KvR.cons_inv {p : Key × V} {ts : List (Key × V)} {q : PyData × PyData} {kvs : List (PyData × PyData)} (h : KvR K S H (p :: ts) (q :: kvs)) : q.1 = keyD p.1 ∧ Rp K S H p.2 q.2 ∧ KvR K S H ts kvs := by
  obtain ⟨h1, h2⟩ := h
  simp only [List.map_cons, List.cons.injEq] at h1
  simp only [List.map_cons] at h2
  cases h2 with
  | cons a b => exact ⟨h1.1, a, h1.2, b⟩
theorem KvR.cons {p : Key × V} {ts : List (Key × V)} {q : PyData × PyData} {kvs : List (PyData × PyData)} (h1 : q.1 = keyD p.1) (h2 : Rp K S H p.2 q.2) (h3 : KvR K S H ts kvs) : KvR K S H (p :: ts) (q :: kvs) :=
  ⟨by rw [List.map_cons, List.map_cons, h1, h3.1], .cons h2 h3.2⟩
theorem KvR.len : ∀ {ts : List (Key × V)} {kvs : List (PyData × PyData)}, KvR K S H ts kvs → kvs.length = ts.length := fun h => by have := congrArg List.length h.1; simpa using this
theorem KvR.snoc {k : Key} {v : V} {d : PyData} (h2 : Rp K S H v d) : ∀ {ts : List (Key × V)} {kvs : List (PyData × PyData)}, KvR K S H ts kvs → KvR K S H (ts ++ [(k, v)]) (kvs ++ [(keyD k, d)])
  | [], [], _ => .cons rfl h2 .nil
  | [], _ :: _, h => by have := h.len; simp at this
  | _ :: _, [], h => by have := h.len; simp at this
  | _ :: _, _ :: _, h => by
    obtain ⟨a, b, c⟩ := h.cons_inv
    exact .cons a b (KvR.snoc h2 c)
theorem KvR.has (k : Key) : ∀ {ts : List (Key × V)} {kvs : List (PyData × PyData)}, KvR K S H ts kvs → (ts.any fun kv => decide (kv.1 = k)) = hasD kvs (keyD k)
  | [], [], _ => rfl
  | [], _ :: _, h => by have := h.len; simp at this
  | _ :: _, [], h => by have := h.len; simp at this
  | p :: ts, q :: kvs, h => by
    obtain ⟨a, b, c⟩ := h.cons_inv
    have ih := KvR.has k c
    unfold hasD at ih ⊢
    rw [List.any_cons, List.any_cons, ih, a, keyEq_keyD]
theorem KvR.repl {k : Key} {v : V} {d : PyData} (h2 : Rp K S H v d) : ∀ {ts : List (Key × V)} {kvs : List (PyData × PyData)}, KvR K S H ts kvs → KvR K S H (ts.map fun kv => if kv.1 = k then (kv.1, v) else kv) (kvs.map fun p => if keyEq p.1 (keyD k) = true then (p.1, d) else p)
  | [], [], _ => .nil
  | [], _ :: _, h => by have := h.len; simp at this
  | _ :: _, [], h => by have := h.len; simp at this
  | p :: ts, q :: kvs, h => by
    obtain ⟨a, b, c⟩ := h.cons_inv
    rw [List.map_cons, List.map_cons, a, keyEq_keyD]
    by_cases hk : p.1 = k
    · rw [if_pos hk, if_pos (decide_eq_true hk)]
      exact .cons rfl h2 (KvR.repl h2 c)
    · rw [if_neg hk, if_neg (by simpa using hk)]
      exact .cons a b (KvR.repl h2 c)
theorem KvR.put {ts : List (Key × V)} {kvs : List (PyData × PyData)} {k : Key} {v : V} {d : PyData} (h : KvR K S H ts kvs) (h2 : Rp K S H v d) : KvR K S H (putK ts k v) (putD kvs (keyD k) d) := by
  unfold putK putD
  rw [h.has k]
  split
  · exact h.repl h2
  · exact h.snoc h2
theorem KvR.merge : ∀ {us : List (Key × V)} {more : List (PyData × PyData)} {ts : List (Key × V)} {kvs : List (PyData × PyData)}, KvR K S H us more → KvR K S H ts kvs → KvR K S H (mergeK ts us) (mergeD kvs more)
  | [], [], _, _, _, h => h
  | [], _ :: _, _, _, h, _ => by have := h.len; simp at this
  | _ :: _, [], _, _, h, _ => by have := h.len; simp at this
  | p :: us, q :: more, ts, kvs, h, g => by
    obtain ⟨a, b, c⟩ := h.cons_inv
    have := g.put (k := p.1) b
    rw [← a] at this
    show KvR K S H (mergeK (putK ts p.1 p.2) us) (mergeD (putD kvs q.1 q.2) more)
    exact KvR.merge c this
theorem putD_len (kvs : List (PyData × PyData)) (k v : PyData) : (putD kvs k v).length ≤ kvs.length + 1 := by
  unfold putD
  split
  · simp
  · simp
end
/-! dicts whose keys are pairs -/
def putP (kvs : List (PyData × PyData)) (ks : List Key) (k v : PyData) : List (PyData × PyData) := if (kvs.any fun p => tkEq p.1 ks) = true then kvs.map (fun p => if tkEq p.1 ks = true then (p.1, v) else p) else kvs ++ [(k, v)]
theorem putP_mark (kvs : List (PyData × PyData)) (ks : List Key) (k v : PyData) : putP ((.none, .none) :: kvs) ks k v = (.none, .none) :: putP kvs ks k v := by
  have e : tkEq PyData.none ks = false := rfl
  unfold putP
  rw [List.any_cons, e, Bool.false_or]
  split
  · rw [List.map_cons, e, if_neg (by decide)]
  · rfl
def KtR (K : PySem.W.Frag) (S : Addr → Prop) (H : Hp) (ts : List (List Key × V)) (kvs : List (PyData × PyData)) : Prop := kvs.map (·.1) = ts.map (fun p => PyData.tuple (p.1.map keyD)) ∧ RpL K S H (ts.map (·.2)) (kvs.map (·.2))
section
variable {K : PySem.W.Frag} {S : Addr → Prop} {H : Hp}
theorem KtR.len {ts : List (List Key × V)} {kvs : List (PyData × PyData)} (h : KtR K S H ts kvs) : kvs.length = ts.length := by
  have := congrArg List.length h.1
  simpa using this
theorem KtR.cons_inv {p : List Key × V} {ts : List (List Key × V)} {q : PyData × PyData} {kvs : List (PyData × PyData)} (h : KtR K S H (p :: ts) (q :: kvs)) : q.1 = .tuple (p.1.map keyD) ∧ Rp K S H p.2 q.2 ∧ KtR K S H ts kvs := by
  obtain ⟨h1, h2⟩ := h
  simp only [List.map_cons, List.cons.injEq] at h1 h2
  cases h2 with
  | cons a b => exact ⟨h1.1, a, h1.2, b⟩
theorem KtR.cons {p : List Key × V} {ts : List (List Key × V)} {q : PyData × PyData} {kvs : List (PyData × PyData)} (a : q.1 = .tuple (p.1.map keyD)) (b : Rp K S H p.2 q.2) (h : KtR K S H ts kvs) : KtR K S H (p :: ts) (q :: kvs) := by
  refine ⟨?_, ?_⟩
  · rw [List.map_cons, List.map_cons, a, h.1]
  · exact .cons b h.2
theorem KtR.has {ks : List Key} (hk : ks.length = 2) : ∀ {ts : List (List Key × V)} {kvs : List (PyData × PyData)}, KtR K S H ts kvs → (kvs.any fun p => tkEq p.1 ks) = ts.any fun p => decide (p.1 = ks)
  | [], [], _ => rfl
  | [], _ :: _, h => by have := h.len; simp at this
  | _ :: _, [], h => by have := h.len; simp at this
  | p :: ts, q :: kvs, h => by
    obtain ⟨a, _, c⟩ := h.cons_inv
    rw [List.any_cons, List.any_cons, KtR.has hk c, a, tkEq_of hk]
theorem KtR.repl {ks : List Key} (hk : ks.length = 2) {v : V} {d : PyData} (h2 : Rp K S H v d) : ∀ {ts : List (List Key × V)} {kvs : List (PyData × PyData)}, KtR K S H ts kvs → KtR K S H (ts.map fun p => if p.1 = ks then (p.1, v) else p) (kvs.map fun p => if tkEq p.1 ks = true then (p.1, d) else p)
  | [], [], h => h
  | [], _ :: _, h => by have := h.len; simp at this
  | _ :: _, [], h => by have := h.len; simp at this
  | p :: ts, q :: kvs, h => by
    obtain ⟨a, b, c⟩ := h.cons_inv
    rw [List.map_cons, List.map_cons]
    have e : tkEq q.1 ks = decide (p.1 = ks) := by rw [a, tkEq_of hk]
    by_cases z : p.1 = ks
    · rw [if_pos z, if_pos (by rw [e]; simpa using z)]
      exact .cons a h2 (KtR.repl hk h2 c)
    · rw [if_neg z, if_neg (by rw [e]; simpa using z)]
      exact .cons a b (KtR.repl hk h2 c)
theorem KtR.snoc {ks : List Key} {v : V} {d : PyData} (h2 : Rp K S H v d) {ts : List (List Key × V)} {kvs : List (PyData × PyData)} (h : KtR K S H ts kvs) : KtR K S H (ts ++ [(ks, v)]) (kvs ++ [(.tuple (ks.map keyD), d)]) := by
  refine ⟨?_, ?_⟩
  · rw [List.map_append, List.map_append, h.1]; rfl
  · rw [List.map_append, List.map_append]
    exact h.2.app (.cons h2 .nil)
theorem KtR.put {ks : List Key} (hk : ks.length = 2) {v : V} {d : PyData} {ts : List (List Key × V)} {kvs : List (PyData × PyData)} (h : KtR K S H ts kvs) (h2 : Rp K S H v d) : KtR K S H (putK ts ks v) (putP kvs ks (.tuple (ks.map keyD)) d) := by
  unfold putK putP
  rw [h.has hk]
  split
  · exact h.repl hk h2
  · exact h.snoc h2
end
def mergeP (kvs : List (PyData × PyData)) (more : List (List Key × PyData)) : List (PyData × PyData) := more.foldl (fun acc p => putP acc p.1 (.tuple (p.1.map keyD)) p.2) kvs
def pairsP : List PyData → Option (List (List Key × PyData))
  | [] => some []
  | .tuple [k, v] :: r => match keysOf? k, pairsP r with
    | some ks, some l => some ((ks, v) :: l)
    | _, _ => none
  | _ :: _ => none
/-- dict(l) of a list of pairs whose keys are pairs -/
def oDictT : List PyData → Option PyData
  | [.list ds] => (pairsP ds).map fun l => .dict ((.none, .none) :: mergeP [] l)
  | _ => none
def pairsD : List PyData → Option (List (PyData × PyData))
  | [] => some []
  | .tuple [k, v] :: r => match keyOf? k, pairsD r with
    | some _, some l => some ((k, v) :: l)
    | _, _ => none
  | _ :: _ => none
def oDictP : List PyData → Option PyData
  | [.dict kvs] => if isM kvs = true then none else some (.dict kvs)
  | [.list ds] => (pairsD ds).map fun l => .dict (mergeD [] l)
  | [.tuple ds] => if pairsB ds = true then (pairsD ds).map fun l => .dict (mergeD [] l) else none
  | _ => none
theorem pairs_run {K : PySem.W.Frag} {S : Addr → Prop} {H : Hp} : ∀ {ds : List PyData} {l : List (PyData × PyData)} {vs : List V}, RpL K S H vs ds → pairsD ds = some l →
    ∃ (ps : List Addr) (kvs : List (Key × V)), vs = ps.map V.ref ∧ Paired (fun p kv => SqT K H p [kV kv.1, kv.2]) ps kvs ∧ KvR K S H kvs l
  | [], l, _, .nil, e => by cases e; exact ⟨[], [], rfl, .nil, .nil⟩
  | d :: r, l, _, .cons h t, e => by
    unfold pairsD at e
    split at e
    · rename_i e0; cases e0
    · rename_i k v r' e0
      cases e0
      split at e
      · rename_i kk l' hk hl
        cases e
        obtain ⟨ps, kvs, rfl, hp, hr⟩ := pairs_run t hl
        cases h with
        | tup hs hh _ =>
          cases hh with
          | cons a b =>
            cases b with
            | cons b c =>
              cases c
              have ek := keyOf_keyD hk
              obtain rfl := Rdb.key (.inl a) hk
              exact ⟨_ :: ps, (kk, _) :: kvs, rfl, .cons hs.sq hp, .cons ek b hr⟩
      · cases e
    · cases e
/-- dict(t) of a plain tuple of pairs -/
theorem dict_ofT {X : Cx} (hcalm : X.calm = true) : CallR X (.type "dict") (fun xs H Q => ∃ (a : Addr) (ps : List Addr) (kvs : List (Key × V)) (o : Obj), xs = [.ref a] ∧ H a = some (.frz o (.tup (ps.map V.ref))) ∧ o.dict = none ∧ Paired (fun p kv => SqT X.K H p [kV kv.1, kv.2]) ps kvs ∧
    ∀ p, H p = none → Q (.ref p) (upd H p (.dK (mergeK [] kvs)))) := by
  rintro pins s σ H xs us Q I r ⟨a, ps, kvs, o, rfl, ha, hdn, hp, q⟩
  obtain ⟨u, rfl, ru⟩ := vals1 r
  cases ru
  obtain ⟨ho, z, its, rv, ho2⟩ := I.hok a _ ha
  obtain ⟨o2, g2, hcls, n, hdat⟩ := ho2
  rw [ho] at g2; cases g2
  obtain rfl := refs_at rv
  obtain ⟨prs, rel, hl, hpr⟩ := pairs_of I hp
  rw [List.length_map] at z
  have hlen : (mergeK [] kvs).length ≤ sizeLine := by
    have h1 := length_mergeK kvs []
    have h2 : kvs.length = prs.length := rel.length
    rw [List.length_nil] at h1
    omega
  let us2 : List (Value × Value) := (List.range prs.length).map fun j => (match (s.heap.get? (ps.getD j 0)) with | some ⟨_, _, .seq its _, _⟩ => its.getD 0 .none | _ => .none, (prs.getD j (.inl 0, .none)).2)
  have at2 : ∀ (j : Nat) (q : Key × Value), prs[j]? = some q → ∃ b u, ps[j]? = some b ∧ PyProof.Rows.IsTup s.heap b #[u, q.2] ∧ keyIs q.1 u = true ∧ us2[j]? = some (u, q.2) := fun j q e => by
    obtain ⟨b, u, e1, e2, e3⟩ := hpr j q e
    refine ⟨b, u, e1, e2, e3, ?_⟩
    obtain ⟨hj, ej⟩ := List.getElem?_eq_some_iff.mp e
    obtain ⟨ob, g1, g2, m, g3⟩ := id e2
    have x1 : ps.getD j 0 = b := by rw [List.getD_eq_getElem?_getD, e1]; rfl
    have x2 : prs.getD j (.inl 0, .none) = q := by rw [List.getD_eq_getElem?_getD, e]; rfl
    show ((List.range prs.length).map _)[j]? = _
    rw [List.getElem?_map, List.getElem?_range hj, Option.map_some, x1, x2, g1]
    obtain ⟨oc, od, odat, osl⟩ := ob
    simp only at g3
    subst g3
    rfl
  have hu2 : us2.length = prs.length := by show ((List.range prs.length).map _).length = _; rw [List.length_map, List.length_range]
  have ok : PlainSeq "tuple" s.heap a (ps.map Value.ref).toArray ∧ PairItems s.heap (ps.map Value.ref).toArray (fun j => ps.getD j 0) us2 := by
    refine ⟨⟨o, n, ho, hcls, hdn, hdat⟩, by rw [List.size_toArray, List.length_map, hu2, hl], fun j k v e => ?_⟩
    obtain ⟨hj, _⟩ := List.getElem?_eq_some_iff.mp e
    rw [hu2] at hj
    obtain ⟨b, u, e1, e2, e3, e4⟩ := at2 j prs[j] (List.getElem?_eq_getElem hj)
    rw [e] at e4; cases e4
    have x1 : ps.getD j 0 = b := by rw [List.getD_eq_getElem?_getD, e1]; rfl
    refine ⟨?_, ?_⟩
    · show (ps.map Value.ref).toArray[j]? = some (Value.ref (ps.getD j 0))
      rw [x1]; simp [e1]
    · show PairAt s.heap (ps.getD j 0) _ _
      rw [x1]; exact .inl e2
  refine PySem.call_dict_pairs (knd := mixKind X.prog X.w) (kvs := prs) (PairArg.tuple a (ps.map Value.ref).toArray (fun j => ps.getD j 0) us2) (I.ok.hd hcalm) ok ?_ (by rw [hu2, hl]; exact z) fun h' tk hd' k => ?_
  · refine ⟨hu2.symm, fun i key v e => ?_⟩
    have e : us2[i]? = some (key, v) := e
    obtain ⟨hj, _⟩ := List.getElem?_eq_some_iff.mp e
    rw [hu2] at hj
    obtain ⟨b, u, e1, e2, e3, e4⟩ := at2 i prs[i] (List.getElem?_eq_getElem hj)
    rw [e] at e4; cases e4
    exact ⟨prs[i].1, by rw [List.getElem?_eq_getElem hj], e3⟩
  · have hm : (s.heap.objs.size == sysModules) = false := beq_eq_false_iff_ne.mpr (Nat.ne_of_gt I.big)
    exact ⟨.ref _, _, I.laid (t' := tk) (a := s.heap.objs.size) (o := .dK (mergeK [] kvs)) (fun b o e => k b o (by simp) e) (Nat.le_refl _) ⟨hlen, hm, merged [] prs, KV.merge rel .nil, hd'⟩, rfl, q _ (I.hok.fresh (Nat.le_refl _))⟩
/-- dict(t) of the empty tuple that the top holds -/
theorem dict_of0 {X : Cx} (hcalm : X.calm = true) : CallR X (.type "dict") (fun xs H Q => ∃ (a : Addr), xs = [.ref a] ∧ K0 X.K a ∧ ∀ p, H p = none → Q (.ref p) (upd H p (.dK []))) := by
  rintro pins s σ H xs us Q I r ⟨a, rfl, ⟨o, n, ho, hcls, hdat, hdn⟩, q⟩
  obtain ⟨u, rfl, ru⟩ := vals1 r
  cases ru
  have g : s.heap.get? a = some o := I.kIn _ _ ho
  refine PySem.call_dict_pairs (knd := mixKind X.prog X.w) (kvs := []) (PairArg.tuple a #[] (fun _ => 0) []) (I.ok.hd hcalm) ⟨⟨o, n, g, hcls, hdn, hdat⟩, rfl, fun j k v e => by cases e⟩ ⟨rfl, fun i key v e => by cases e⟩ (by show 0 ≤ sizeLine; omega) fun h' tk hd' k => ?_
  have hm : (s.heap.objs.size == sysModules) = false := beq_eq_false_iff_ne.mpr (Nat.ne_of_gt I.big)
  exact ⟨.ref _, _, I.laid (t' := tk) (a := s.heap.objs.size) (o := .dK []) (fun b o e => k b o (by simp) e) (Nat.le_refl _) ⟨by show 0 ≤ sizeLine; omega, hm, [], .nil, hd'⟩, rfl, q _ (I.hok.fresh (Nat.le_refl _))⟩
theorem b_dictP {X : Cx} (hc : X.calm = true) : CallR X (.type "dict") (rB X.K oDictP) := by
  intro pins s σ H xs us Q I r h
  obtain ⟨S, ds, d, al, rs, e, q⟩ := h
  unfold oDictP at e
  split at e
  · exact b_dict pins s σ H xs us Q I r ⟨S, _, _, al, rs, e, q⟩
  · obtain ⟨l, e1, rfl⟩ := Option.map_eq_some_iff.mp e
    obtain ⟨v, rfl, r1⟩ := rs.one
    obtain ⟨a, vs, rfl, h1, p1⟩ := r1.lst
    obtain ⟨ps, kvs, rfl, hp, hr⟩ := pairs_run p1 e1
    refine call_dictP hc pins s σ H _ us Q I r ⟨a, ps, kvs, rfl, SqL.of h1, hp, fun p hn => ?_⟩
    have m := KvR.merge hr (KvR.nil (K := X.K) (S := S) (H := H))
    exact q _ S _ (Gw.lay al hn) ⟨p, rfl, hn, fun z => al p z hn, .inl ⟨_, upd_same, m.1, m.2.up (Gw.lay al hn).up⟩⟩
  · split at e
    · rename_i hB
      obtain ⟨l, e1, rfl⟩ := Option.map_eq_some_iff.mp e
      obtain ⟨v, rfl, r1⟩ := rs.one
      obtain ⟨a, vs, rfl, h1, p1, l1⟩ := r1.tupP
      rcases l1.1 hB with ⟨hsa, o, ho, hdn⟩ | ⟨rfl, rfl, k0⟩
      case inr =>
        cases e1
        exact dict_of0 hc pins s σ H _ us Q I r ⟨a, rfl, k0, fun p hn => q _ S _ (Gw.lay al hn) ⟨p, rfl, hn, fun z => al p z hn, .inl ⟨[], upd_same, rfl, .nil⟩⟩⟩
      obtain ⟨ps, kvs, rfl, hp, hr⟩ := pairs_run p1 e1
      refine dict_ofT hc pins s σ H _ us Q I r ⟨a, ps, kvs, o, rfl, ho, hdn, hp, fun p hn => ?_⟩
      have m := KvR.merge hr (KvR.nil (K := X.K) (S := S) (H := H))
      exact q _ S _ (Gw.lay al hn) ⟨p, rfl, hn, fun z => al p z hn, .inl ⟨_, upd_same, m.1, m.2.up (Gw.lay al hn).up⟩⟩
    · cases e
  · cases e

/-! ### for i in range(n), range(a, b) -/
def rngD (lo : Int) : Nat → List PyData
  | 0 => []
  | n + 1 => .int lo :: rngD (lo + 1) n
theorem rngD_len : ∀ (n : Nat) (lo : Int), (rngD lo n).length = n
  | 0, _ => rfl
  | n + 1, lo => by unfold rngD; rw [List.length_cons, rngD_len]
theorem rngD_get : ∀ (n : Nat) (lo : Int) (i : Nat), i < n → (rngD lo n)[i]? = some (.int (lo + i))
  | 0, _, _, h => by omega
  | n + 1, lo, 0, _ => by simp [rngD]
  | n + 1, lo, i + 1, h => by
    unfold rngD
    rw [List.getElem?_cons_succ, rngD_get n (lo + 1) i (by omega)]
    congr 2
    omega
theorem walk_rng {K : PySem.W.Frag} {T S0 : Addr → Prop} {H0 : Hp} (lo : Int) (n : Nat) : Walk K (Itr lo n) (rngD lo n) T S0 H0 := by
  intro S H i u t al
  rw [rngD_len]
  refine ⟨fun hi => ⟨hi, fun x H' y => ?_⟩, fun hi => hi⟩
  obtain ⟨rfl, rfl⟩ := y
  exact ⟨S, _, Gw.refl al, rngD_get n lo i hi, .int _⟩
def smallI (i : Int) : Bool := decide (-(2 ^ 62) ≤ i ∧ i < 2 ^ 62)
def iR1 (f : Mo Rs) : Mo (List PyData) := bindM f fun r => bindM (rdR r) fun d => bindM (optM (intD d)) fun j => if smallI j = true then retM (rngD 0 j.toNat) else fun _ => none
def iR2 (f g : Mo Rs) : Mo (List PyData) := bindM f fun r => bindM g fun r2 => bindM (rdR r) fun d => bindM (rdR r2) fun d2 => bindM (optM (intD d)) fun i => bindM (optM (intD d2)) fun j => if smallI i = true then if smallI j = true then retM (rngD i (j - i).toNat) else fun _ => none else fun _ => none
theorem intD_eq {d : PyData} {i : Int} (h : intD d = some i) : d = .int i := by cases d <;> cases h <;> rfl
section
variable {X : Cx} {tg a b : Expr} {f g : Mo Rs} {p pos : Pos}
theorem id_range1 (hg : Gl X "range") (hm : X.mg "range" = none) (ha : PD X a f) (hs : starEach [a] X.env = [(false, eval a X.env)] := by rfl) (hs' : starEach [a] X.env = (false, eval a X.env) :: starEach [] X.env := by rfl) : ID X tg (.Call (.Name "range" p) [a] [] pos) (iR1 f) :=
  PI.to (pi_range1 hg hm (pa_cons ha pa_nil hs') hs) fun σ H R h => by
    obtain ⟨S, ρ, ds, ρ', G, e, q⟩ := h
    obtain ⟨r, ρ1, e1, e2⟩ := bindM_some e
    obtain ⟨d, ρ2, e3, e4⟩ := bindM_some e2
    obtain ⟨j, ρ3, e5, e6⟩ := bindM_some e4
    obtain ⟨b1, b2⟩ := optM_some e5
    simp only at b1 b2
    split at e6
    · rename_i hj
      cases retM_some e6
      refine ⟨S, ρ, r, ρ1, G, e1, fun v S1 H1 F1 G1 R1 => ?_⟩
      obtain ⟨rd, rfl⟩ := R1.rd G1 e3
      obtain rfl := intD_eq b1
      subst b2
      have hj' := of_decide_eq_true hj
      exact ⟨j, by rw [rd.int], hj'.1, hj'.2, q _ S1 H1 (fun _ => False) F1 G1 (fun _ z => z.elim) (walk_rng 0 j.toNat)⟩
    · cases e6
theorem id_range2 (hg : Gl X "range") (hm : X.mg "range" = none) (ha : PD X a f) (hb : PD X b g) (hs : starEach [a, b] X.env = [(false, eval a X.env), (false, eval b X.env)] := by rfl) (hs2 : starEach [b] X.env = [(false, eval b X.env)] := by rfl)
    (hs' : starEach [a, b] X.env = (false, eval a X.env) :: starEach [b] X.env := by rfl) (hs'' : starEach [b] X.env = (false, eval b X.env) :: starEach [] X.env := by rfl) : ID X tg (.Call (.Name "range" p) [a, b] [] pos) (iR2 f g) :=
  PI.to (pi_range2 hg hm (pa_cons ha (pa_cons hb pa_nil hs'') hs') hs hs2) fun σ H R h => by
    obtain ⟨S, ρ, ds, ρ', G, e, q⟩ := h
    obtain ⟨r, ρ1, e1, e2⟩ := bindM_some e
    obtain ⟨r2, ρ2, e3, e4⟩ := bindM_some e2
    obtain ⟨d, ρ3, e5, e6⟩ := bindM_some e4
    obtain ⟨d2, ρ4, e7, e8⟩ := bindM_some e6
    obtain ⟨i, ρ5, e9, e10⟩ := bindM_some e8
    obtain ⟨j, ρ6, e11, e12⟩ := bindM_some e10
    obtain ⟨b1, b2⟩ := optM_some e9
    obtain ⟨b3, b4⟩ := optM_some e11
    simp only at b1 b2 b3 b4
    split at e12
    · rename_i hi
      split at e12
      · rename_i hj
        cases retM_some e12
        obtain rfl := rdR_same e5
        obtain rfl := rdR_same e7
        subst b2
        subst b4
        refine ⟨S, ρ, r, ρ1, G, e1, fun v S1 H1 F1 G1 R1 => ⟨S1, ρ1, r2, _, G1, e3, fun w S2 H2 F2 G2 R2 => ?_⟩⟩
        have n1 : Now X.K σ S ρ H S1 ρ1 H1 := ⟨G, F1, G1⟩
        obtain ⟨rd, _⟩ := (R1.fm n1 F2).rd G2 e5
        obtain ⟨rd2, _⟩ := R2.rd G2 e7
        obtain rfl := intD_eq b1
        obtain rfl := intD_eq b3
        have hi' := of_decide_eq_true hi
        have hj' := of_decide_eq_true hj
        exact ⟨i, j, by rw [rd.int, rd2.int], ⟨hi'.1, hi'.2, hj'.1, hj'.2⟩, q _ S2 H2 (fun _ => False) (F1.trans F2) G2 (fun _ z => z.elim) (walk_rng i (j - i).toNat)⟩
      · cases e12
    · cases e12
end

/-! ### x[i] = v, x[i] op= v at a name that holds its own list or dict -/
def setD : PyData → PyData → PyData → Option PyData
  | .list ds, .int i, v => (ixN ds.length i).map fun j => .list (ds.set j v)
  | .dict kvs, k, v => if isM kvs = true then match keysOf? k with
      | some ks => if kvs.length < sizeLine then some (.dict (putP kvs ks k v)) else none
      | none => none
    else match keyOf? k with
      | some k => if kvs.length < sizeLine then some (.dict (putD kvs (keyD k) v)) else none
      | none => none
  | _, _, _ => none
/-- the place of a name is changed -/
def mutM (j : Nat) (op : PyData → Option PyData) : Mo Unit := fun ρ => match ρ[j]? with
  | some (some (st, d)) => if st.mut = true then match op d with
      | some d' => some ((), ρ.set j (some (st, d')))
      | none => none
    else none
  | _ => none
theorem mutM_some {j : Nat} {op : PyData → Option PyData} {ρ ρ' : Rho} {u : Unit} (e : mutM j op ρ = some (u, ρ')) : ∃ st d d', ρ[j]? = some (some (st, d)) ∧ st.mut = true ∧ op d = some d' ∧ ρ' = ρ.set j (some (st, d')) := by
  unfold mutM at e
  split at e
  · split at e
    · split at e
      · cases e; exact ⟨_, _, _, ‹_›, ‹_›, ‹_›, rfl⟩
      · cases e
    · cases e
  · cases e
theorem xV_some {i : Nat} {ρ ρ' : Rho} {r : Rs} (e : xV i ρ = some (r, ρ')) : ∃ p, ρ[i]? = some (some p) ∧ r = .slot i ∧ ρ' = ρ := by
  unfold xV at e
  split at e
  · cases e; exact ⟨_, ‹_›, rfl, rfl⟩
  · cases e
theorem Rp.key {K : PySem.W.Frag} {S : Addr → Prop} {H : Hp} (k : Key) : Rp K S H (kV k) (keyD k) := by
  cases k with
  | inl i => exact .int i
  | inr x => exact .str x
def sPut (j : Nat) (fi fv : Mo Rs) : Mo Fl := bindM fv fun rv => bindM (keepR rv) fun v => bindM (xV j) fun _ => bindM fi fun ri => bindM (rdR ri) fun i => bindM (mutM j fun d => setD d i v) fun _ => retM .nx
def rSetA (o i v : V) (H : Hp) (Q : Hp → Prop) : Prop := rSetL o i v H Q ∨ rSetD o i v H Q
theorem set_any {X : Cx} (hu : X.A.units + 1 < cLine) : PSet X rSetA := by
  intro pins s σ H o i v ov iv u Q I ro ri rv h
  rcases h with h | h
  · exact set_list pins s σ H o i v ov iv u Q I ro ri rv h
  · exact set_dict hu pins s σ H o i v ov iv u Q I ro ri rv h
/-- a store, by the state -/
theorem Now.setAt {K : PySem.W.Frag} {S0 S : Addr → Prop} {ρ0 ρ : Rho} {σ : L2.St} {H0 H : Hp} {j : Nat} {st : Stt} {d d' i x : PyData} {wi w : V} {Q : Hp → Prop} (n : Now K σ S0 ρ0 H0 S ρ H) (h : ρ[j]? = some (some (st, d))) (hm : st.mut = true) (ri : Rdb K S H wi i) (rx : Rp K S H w x) (e : setD d i x = some d') :
    ∃ a, σ[j]? = some (some (V.ref a)) ∧ ((∀ H', Now K σ S0 ρ0 H0 S (ρ.set j (some (st, d'))) H' → Q H') → rSetA (.ref a) wi w H Q) := by
  obtain ⟨v, hv, sr⟩ := n.g.sl j st d h
  have top : ∃ a, v = .ref a ∧ ¬ S a ∧ TopX K S H a d := by cases st <;> first | exact sr | cases hm
  obtain ⟨a, rfl, ns, tx⟩ := top
  refine ⟨a, hv, fun q => ?_⟩
  have go : ∀ o', (TopX K S (upd H a o') a d') → Q (upd H a o') := fun o' t => q _ (n.mutate h hm hv fun _ => t)
  have u : ∀ o', Uph S H S (upd H a o') := fun o' => ⟨fun _ h => h, fun b o hb e => by rw [upd_ne (show b ≠ a from fun z => ns (z ▸ hb))]; exact e⟩
  unfold setD at e
  split at e
  · obtain ⟨k, e1, rfl⟩ := Option.map_eq_some_iff.mp e
    obtain ⟨vs, h1, p1⟩ := tx
    exact .inl ⟨a, vs, _, k, rfl, ri.int, h1, by rw [p1.len]; exact e1, go _ ⟨_, upd_same, (RpL.set rx k p1).up (u _)⟩⟩
  · split at e
    · rename_i kvs hM
      split at e
      · rename_i ks hk
        split at e
        · rename_i hl
          cases e
          rcases tx with ⟨ts, h1, p1, p2⟩ | ⟨ts, kvs', rfl, h1, p1, p2⟩
          · rw [keyD_noM p1] at hM; cases hM
          · have kv : KtR K S H ts kvs' := ⟨p1, p2⟩
            obtain ⟨rfl, hk2⟩ := keysOf_key hk
            have m := kv.put hk2 rx
            obtain ⟨b, rfl, hb⟩ := ri.keyT hk
            refine .inr ⟨a, _, rfl, .inr ⟨ts, ks, b, h1, rfl, hb, by have := kv.len; rw [List.length_cons] at hl; omega, rfl⟩, go _ (.inr ⟨_, putP kvs' ks (.tuple (ks.map keyD)) _, putP_mark kvs' ks _ _, upd_same, m.1, m.2.up (u _)⟩)⟩
        · cases e
      · cases e
    · rename_i hM
      split at e
      · rename_i k hk
        split at e
        · rename_i hl
          cases e
          rcases tx with ⟨ts, h1, p1, p2⟩ | ⟨ts, kvs', rfl, h1, p1, p2⟩
          · have kv : KvR K S H ts _ := ⟨p1, p2⟩
            have m := kv.put (k := k) rx
            refine .inr ⟨a, _, rfl, .inl ⟨ts, k, h1, ri.key hk, by rw [← kv.len]; exact hl, rfl⟩, go _ (.inl ⟨_, upd_same, m.1, m.2.up (u _)⟩)⟩
          · exact absurd rfl hM
        · cases e
      · cases e
  · cases e
section
variable {X : Cx} {x : Str} {ei ev : Expr} {fi fv : Mo Rs} {np tpos pos : Pos}
theorem sd_put (j : Nat) (hu : X.A.units + 64 < cLine) (hi : PD X ei fi) (hv : PD X ev fv) (hN : X.N[j]? = some x := by rfl) (hvis : Vis X.env.scope x := by first | exact Or.inl rfl | exact Or.inr (Or.inl rfl) | exact Or.inr (Or.inr rfl)) (hd : (x == ("__debug__" : Str)) = false := by decide)
    (hcd : (x == ("__classdict__" : Str)) = false := by decide)
    (ha : ∀ v, assign (.Subscript (.Name x np) ei tpos) X.env v = (do
      let ov ← holding [v] (eval (.Name x np) X.env)
      let iv ← holding [v, ov] (eval ei X.env)
      standAt tpos
      holding [v, ov, iv] (setItem ov iv v)
      release [v, ov, iv] []) := by intro _; rfl)
    (hs : swapsWithSole [.Subscript (.Name x np) ei tpos] ev pos.line X.env = pure false := by rfl) (hw : swappedStores [.Subscript (.Name x np) ei tpos] ev X.env = pure none := by rfl)
    (h1 : (assignEach [.Subscript (.Name x np) ei tpos] X.env).map (·.2) = [assign (.Subscript (.Name x np) ei tpos) X.env] := by rfl) :
    SD X (.Assign [.Subscript (.Name x np) ei tpos] ev pos) (sPut j fi fv) := PS.to (ps_asg hv (pg_sub (pe_var hN hvis hd hcd) hi (set_any (by omega)) ha) hs hw h1) fun D σ H h => by
  obtain ⟨S, ρ, fl, ρ', G, e, q⟩ := h
  obtain ⟨rv, ρ1, e1, a1⟩ := bindM_some e
  obtain ⟨v, ρ2, e2, a2⟩ := bindM_some a1
  obtain ⟨rj, ρ0, e0, a0⟩ := bindM_some a2
  obtain ⟨ri, ρ3, e3, a3⟩ := bindM_some a0
  obtain ⟨i, ρ4, e4, a4⟩ := bindM_some a3
  obtain ⟨u, ρ5, e5, a5⟩ := bindM_some a4
  cases retM_some a5
  obtain rfl := rdR_same e4
  obtain ⟨st, d, d', m1, m2, m3, rfl⟩ := mutM_some e5
  obtain ⟨p0, m0, rfl, rfl⟩ := xV_some e0
  refine ⟨S, ρ, rv, ρ1, G, e1, fun w S1 H1 F1 G1 R1 => ?_⟩
  obtain ⟨S2, n2, p2, _⟩ := R1.w.keep ⟨G, F1, G1⟩ e2
  obtain ⟨wj, hwj, _⟩ := n2.g.sl j p0.1 p0.2 m0
  refine ⟨wj, hwj, S2, _, ri, _, n2.g, e3, fun wi S3 H3 F3 G3 R3 => ?_⟩
  have n3 := n2.step F3 G3
  obtain ⟨rdi, _⟩ := R3.rd G3 e4
  obtain ⟨a, ha, go⟩ := n3.setAt (Q := fun H' => D.nx σ H') m1 m2 rdi (Rp.up (F3.up n2.g) p2) m3
  rw [hwj] at ha
  cases ha
  exact go fun H' n4 => q σ S3 H' n4.f.fs n4.g
end

/-! ### op= -/
def augI (g : Int → Int → Int) : PyData → PyData → Option PyData
  | .int i, .int j => some (.int (g i j))
  | _, _ => none
/-- an item, by its place or its key -/
def getD : PyData → PyData → Option PyData
  | .list ds, .int i => atI ds i
  | .dict kvs, k => match keyOf? k with
    | some k => lookD (keyD k) kvs
    | none => none
  | _, _ => none
theorem getD_key {o i d : PyData} (e : getD o i = some d) : ∃ k, keyOf? i = some k := by
  unfold getD at e
  split at e
  · exact ⟨_, rfl⟩
  · split at e
    · exact ⟨_, ‹_›⟩
    · cases e
  · cases e
/-- x op= e, ints -/
def sAug (j : Nat) (g : Int → Int → Int) (f : Mo Rs) : Mo Fl := bindM (xV j) fun r0 => bindM (rdR r0) fun a => bindM f fun r => bindM (rdR r) fun b => bindM (optM (augI g a b)) fun d => bindM (storeR j (.kept d)) fun _ => retM .nx
/-- x[i] op= e, ints -/
def sAugS (j : Nat) (g : Int → Int → Int) (fi f : Mo Rs) : Mo Fl := bindM (xV j) fun rj => bindM fi fun ri => bindM (rdR rj) fun o => bindM (rdR ri) fun i => bindM (optM (getD o i)) fun a => bindM f fun r => bindM (rdR r) fun b => bindM (optM (augI g a b)) fun d => bindM (mutM j fun o' => setD o' i d) fun _ => retM .nx
theorem augI_some {g : Int → Int → Int} {a b d : PyData} (e : augI g a b = some d) : ∃ i j, a = .int i ∧ b = .int j ∧ d = .int (g i j) := by
  unfold augI at e
  split at e
  · cases e; exact ⟨_, _, rfl, rfl, rfl⟩
  · cases e
/-- o[i] of a list or a dict -/
def rGetA (K : PySem.W.Frag) (o i : V) (H : Hp) (Q : VK) : Prop := (∃ p xs k v, o = .ref p ∧ i = .int k ∧ H p = some (.lst xs) ∧ atI xs k = some v ∧ Q v H) ∨ ∃ a v, o = .ref a ∧ DGet H a i (some v) ∧ Q v H
theorem get_any {X : Cx} (hu : X.A.units + 1 < cLine) : PGet X (rGetA X.K) := by
  intro pins s σ H o i ov iv Q I ro ri h
  rcases h with ⟨p, xs, k, v, rfl, rfl, hp, hj, q⟩ | ⟨a, v, rfl, g, q⟩
  · cases ro
    obtain ⟨t, rfl⟩ := ri
    obtain ⟨its, n, r, ho, hz⟩ := I.lst hp
    obtain ⟨j, h1, h2, h3, h4, h5⟩ := atI_get hj
    obtain ⟨w, ew, rw'⟩ := r.get h2
    have hl := r.length
    have hn := line63
    have il : s.heap.IsList p its.toArray := ⟨_, ho, rfl, n, rfl⟩
    have fin : EP X pins σ Q w s := ⟨v, H, I, rw', q⟩
    by_cases h0 : 0 ≤ k
    · have hk : k.toNat = j := by
        rw [seqIndex_of h0 h5] at h1
        exact Option.some.inj h1
      exact wpAny_getItem_list il h0 (by omega) (by rw [hk]; simpa using ew) fin
    · have hk : (k + (its.toArray.size : Int)).toNat = j := by
        rw [seqIndex_neg (by omega) h4] at h1
        rw [List.size_toArray, ← hl]
        exact Option.some.inj h1
      exact wpAny_getItem_list_neg il (by omega) (by rw [List.size_toArray] <;> omega) (by omega) (by rw [hk]; simpa using ew) fin
  · cases ro
    exact d_getItem hu I g ri fun w' s3 I3 rw' => ⟨v, H, I3, rw', q⟩
section
variable {X : Cx} {x : Str} {ei ev : Expr} {fi fv : Mo Rs} {np tpos pos : Pos} {op : Operator} {g : Int → Int → Int}
theorem sd_aug (j : Nat) (hN : X.N.Nodup) (ho : PIp X op (ipI g)) (hv : PD X ev fv) (hj : X.N[j]? = some x := by rfl) (hx : Loc X.env.scope x := by first | exact Or.inl rfl | exact Or.inr rfl)
    (hf : X.fn x = true ∨ X.env.scope.names.lookup x = some .local := by first | exact .inl rfl | exact .inr rfl | assumption) : SD X (.AugAssign (.Name x np) op ev pos) (sAug j g fv) := PS.to (ps_aug hN hj hx hv ho hf) fun D σ H h => by
  obtain ⟨S, ρ, fl, ρ', G, e, q⟩ := h
  obtain ⟨r0, ρ0, e0, a0⟩ := bindM_some e
  obtain ⟨a, ρ1, e1, a1⟩ := bindM_some a0
  obtain ⟨r, ρ2, e2, a2⟩ := bindM_some a1
  obtain ⟨b, ρ3, e3, a3⟩ := bindM_some a2
  obtain ⟨d, ρ4, e4, a4⟩ := bindM_some a3
  obtain ⟨u, ρ5, e5, a5⟩ := bindM_some a4
  cases retM_some a5
  obtain ⟨p0, m0, rfl, rfl⟩ := xV_some e0
  obtain rfl := rdR_same e1
  obtain rfl := rdR_same e3
  obtain ⟨b1, b2⟩ := optM_some e4
  simp only at b1 b2
  subst b2
  obtain ⟨i, k, rfl, rfl, rfl⟩ := augI_some b1
  obtain ⟨wj, hwj, _⟩ := G.sl j p0.1 p0.2 m0
  have r0' : RR X.K H S H _ σ wj (.slot j) := ⟨hwj, _, m0⟩
  have hwi := (r0'.rd G e1).1.int
  subst hwi
  refine ⟨_, hwj, S, _, r, _, G, e2, fun w S1 H1 F1 G1 R1 => ?_⟩
  obtain ⟨rd, _⟩ := R1.rd G1 e3
  refine ⟨i, k, rfl, rd.int, ?_⟩
  obtain ⟨G3, F3, _⟩ := storeK G1 (Rp.int (g i k)) e5
  exact q _ S1 H1 (F1.fs.trans F3) G3
theorem sd_augS (j : Nat) (hu : X.A.units + 64 < cLine) (ho : PIp X op (ipI g)) (hi : PD X ei fi) (hv : PD X ev fv) (hN : X.N[j]? = some x := by rfl) (hvis : Vis X.env.scope x := by first | exact Or.inl rfl | exact Or.inr (Or.inl rfl) | exact Or.inr (Or.inr rfl)) (hd : (x == ("__debug__" : Str)) = false := by decide)
    (hcd : (x == ("__classdict__" : Str)) = false := by decide)
    (ha : ∀ ov iv new, augStore ei ov iv new = (do holding [new, ov, iv] (setItem ov iv new); release [new, ov, iv] []; pure .next) := by intros; rfl) : SD X (.AugAssign (.Subscript (.Name x np) ei tpos) op ev pos) (sAugS j g fi fv) :=
  PS.to (ps_augS (pe_var hN hvis hd hcd) hi (get_any (by omega)) hv ho (set_any (by omega)) ha) fun D σ H h => by
  obtain ⟨S, ρ, fl, ρ', G, e, q⟩ := h
  obtain ⟨rj, ρ0, e0, a0⟩ := bindM_some e
  obtain ⟨ri, ρ1, e1, a1⟩ := bindM_some a0
  obtain ⟨o, ρ2, e2, a2⟩ := bindM_some a1
  obtain ⟨i, ρ3, e3, a3⟩ := bindM_some a2
  obtain ⟨a, ρ4, e4, a4⟩ := bindM_some a3
  obtain ⟨r, ρ5, e5, a5⟩ := bindM_some a4
  obtain ⟨b, ρ6, e6, a6⟩ := bindM_some a5
  obtain ⟨d, ρ7, e7, a7⟩ := bindM_some a6
  obtain ⟨u, ρ8, e8, a8⟩ := bindM_some a7
  cases retM_some a8
  obtain ⟨p0, m0, rfl, rfl⟩ := xV_some e0
  obtain rfl := rdR_same e2
  obtain rfl := rdR_same e3
  obtain rfl := rdR_same e6
  obtain ⟨b1, b2⟩ := optM_some e4
  obtain ⟨b3, b4⟩ := optM_some e7
  simp only at b1 b2 b3 b4
  subst b2
  subst b4
  obtain ⟨n, k, rfl, rfl, rfl⟩ := augI_some b3
  obtain ⟨st, d, d', m1, m2, m3, rfl⟩ := mutM_some e8
  obtain ⟨wj, hwj, _⟩ := G.sl j p0.1 p0.2 m0
  have r0' : RR X.K H S H _ σ wj (.slot j) := ⟨hwj, _, m0⟩
  refine ⟨wj, hwj, S, _, ri, _, G, e1, fun wi S1 H1 F1 G1 R1 => ?_⟩
  have n1 : Now X.K σ S _ H S1 _ H1 := ⟨G, F1, G1⟩
  obtain ⟨rdo, _⟩ := (r0'.fm (Now.start G) F1).rd G1 e2
  obtain ⟨rdi, _⟩ := R1.rd G1 e3
  obtain ⟨kk, hkk⟩ := getD_key b1
  have nxt : tD X.K fv σ H1 fun y H4 => ipI g (.int n) y H4 fun z H5 => rSetA wj wi z H5 fun H6 => D.nx σ H6 := by
    refine ⟨S1, _, r, _, G1, e5, fun w S2 H2 F2 G2 R2 => ?_⟩
    have n2 := n1.step F2 G2
    obtain ⟨rd, _⟩ := R2.rd G2 e6
    refine ⟨n, k, rfl, rd.int, ?_⟩
    obtain ⟨a, ha, go⟩ := n2.setAt (Q := fun H' => D.nx σ H') m1 m2 (wi := wi) (i := i) (by
      rw [rdi.key hkk, keyOf_keyD hkk]
      exact .inl (Rp.key kk)) (Rp.int (g n k)) m3
    rw [hwj] at ha
    cases ha
    exact go fun H' n4 => q σ S2 H' n4.f.fs n4.g
  unfold getD at b1
  split at b1
  · obtain ⟨a, vs, rfl, h1, p1⟩ := rdo.lst
    obtain ⟨w, x1, x2⟩ := atI_rp p1 b1
    cases x2
    exact .inl ⟨a, vs, _, _, rfl, rdi.int, h1, x1, nxt⟩
  · rename List (PyData × PyData) => kvs
    rw [hkk] at b1
    cases hM : isM kvs with
    | true =>
      obtain ⟨a, ts, kvs', _, rfl, h1, p1, p2⟩ := rdo.dctT hM
      dsimp only at b1
      rw [lookD_T kk p1] at b1; cases b1
    | false =>
    obtain ⟨a, ts, rfl, h1, p1, p2⟩ := rdo.dct hM
    obtain rfl := rdi.key hkk
    rcases look_of kk p1 p2 with ⟨n1, n2⟩ | ⟨w, d', n1, n2, n3⟩
    · dsimp only at b1
      rw [n2] at b1; cases b1
    · dsimp only at b1
      rw [n2] at b1
      cases b1
      cases n3
      exact .inr ⟨a, _, rfl, by rw [← n1]; exact DGet.of h1, nxt⟩
  · cases b1
end
end PyI

/-! PyI, part J: methods; a tuple turned about. -/
namespace PyI
open PySem PySem.Spec L2

/-! ### methods that change their list or dict -/
/-- a method of the list or dict at a name -/
def chkT (T : String) (j : Nat) : Mo Unit := fun ρ => match ρ[j]? with
  | some (some (st, d)) => if st.mut = true ∧ tyD d = T then some ((), ρ) else none
  | _ => none
def mutR (j : Nat) (op : PyData → Option (PyData × PyData)) : Mo Rs := fun ρ => match ρ[j]? with
  | some (some (st, d)) => if st.mut = true then match op d with
      | some (d', rt) => some (.kept rt, ρ.set j (some (st, d')))
      | none => none
    else none
  | _ => none
def xMut (T : String) (j : Nat) (op : PyData → List PyData → Option (PyData × PyData)) (g : Mo (List Rs)) : Mo Rs :=
  bindM (chkT T j) fun _ => bindM g fun rs => bindM (keepL rs) fun ds => mutR j fun d => op d ds
theorem chkT_some {T : String} {j : Nat} {ρ ρ' : Rho} {u : Unit} (e : chkT T j ρ = some (u, ρ')) : ∃ st d, ρ[j]? = some (some (st, d)) ∧ st.mut = true ∧ tyD d = T ∧ ρ' = ρ := by
  unfold chkT at e
  split at e
  · split at e
    · rename_i h; cases e; exact ⟨_, _, ‹_›, h.1, h.2, rfl⟩
    · cases e
  · cases e
theorem mutR_some {j : Nat} {op : PyData → Option (PyData × PyData)} {ρ ρ' : Rho} {r : Rs} (e : mutR j op ρ = some (r, ρ')) : ∃ st d d' rt, ρ[j]? = some (some (st, d)) ∧ st.mut = true ∧ op d = some (d', rt) ∧ ρ' = ρ.set j (some (st, d')) ∧ r = .kept rt := by
  unfold mutR at e
  split at e
  · split at e
    · split at e
      · cases e; exact ⟨_, _, _, _, ‹_›, ‹_›, ‹_›, rfl, rfl⟩
      · cases e
    · cases e
  · cases e
/-- what the rule of a method says, by data -/
def MetD (K : PySem.W.Frag) (op : PyData → List PyData → Option (PyData × PyData)) (r : V → List V → Hp → VK → Prop) : Prop :=
  ∀ (S : Addr → Prop) (H : Hp) (a : Addr) (d d' rt : PyData) (ds : List PyData) (vs : List V) (Q : VK), (∀ b, S b → H b ≠ none) → ¬ S a → TopX K S H a d → RpL K S H vs ds → op d ds = some (d', rt) →
    (∀ o' v, TopX K S (upd H a o') a d' → Rp K S (upd H a o') v rt → Q v (upd H a o')) → r (.ref a) vs H Q
theorem TopX.tyV {K : PySem.W.Frag} {S : Addr → Prop} {H : Hp} {a : Addr} {d : PyData} (t : TopX K S H a d) : tyV K (tyD d) (.ref a) H := by
  cases d with
  | list ds => obtain ⟨vs, h, _⟩ := t; exact .inl ⟨rfl, vs, SqL.of h⟩
  | dict kvs =>
    rcases t with ⟨ts, h, _⟩ | ⟨ts, _, _, h, _⟩
    · exact .inr (.inr (.inl ⟨rfl, .inl ⟨ts, h⟩⟩))
    · exact .inr (.inr (.inl ⟨rfl, .inr ⟨ts, h⟩⟩))
  | _ => exact t.elim
theorem Gd.top {K : PySem.W.Frag} {S : Addr → Prop} {ρ : Rho} {σ : L2.St} {H : Hp} {j : Nat} {st : Stt} {d : PyData} (g : Gd K S ρ σ H) (h : ρ[j]? = some (some (st, d))) (hm : st.mut = true) : ∃ a, σ[j]? = some (some (V.ref a)) ∧ ¬ S a ∧ TopX K S H a d := by
  obtain ⟨v, hv, sr⟩ := g.sl j st d h
  have top : ∃ a, v = .ref a ∧ ¬ S a ∧ TopX K S H a d := by cases st <;> first | exact sr | cases hm
  obtain ⟨a, rfl, ns, tx⟩ := top
  exact ⟨a, hv, ns, tx⟩
section
variable {X : Cx} {T id : String} {x name : Str} {e : Expr} {es : List Expr} {g : Mo (List Rs)} {op : PyData → List PyData → Option (PyData × PyData)} {r : V → List V → Hp → VK → Prop} {np apos cpos : Pos}
theorem xMut_fin {K : PySem.W.Frag} {S0 S : Addr → Prop} {ρ0 ρ ρ' : Rho} {σ : L2.St} {H0 H : Hp} {j : Nat} {a : Addr} {rs : List Rs} {vs : List V} {rr : Rs} {ds : List PyData} {ρ1 : Rho} {Q : VK} (md : MetD K op r) (n : Now K σ S0 ρ0 H0 S ρ H) (R : RRL K H0 S H ρ σ vs rs) (e1 : keepL rs ρ = some (ds, ρ1)) (e2 : mutR j (fun d => op d ds) ρ1 = some (rr, ρ'))
    (ha : σ[j]? = some (some (V.ref a))) (q : ∀ v S' H', Fm S0 ρ0 σ H0 S' ρ' H' → Gd K S' ρ' σ H' → RR K H0 S' H' ρ' σ v rr → Q v H') : r (.ref a) vs H Q := by
  obtain ⟨S2, n2, p2, _⟩ := RRLw.keep rs n R.w e1
  obtain ⟨st, d, d', rt, m1, m2, m3, rfl, rfl⟩ := mutR_some e2
  obtain ⟨b, hb, ns, tx⟩ := n2.g.top m1 m2
  rw [ha] at hb; cases hb
  exact md S2 H a d d' rt ds vs Q n2.g.al ns tx p2 m3 fun o' v t rv => by
    have n3 := n2.mutate (o' := o') m1 m2 ha fun _ => t
    exact q v S2 _ n3.f n3.g rv
theorem pd_mut (j : Nat) (pa : PlainAttrs T) (slot : Slot T name id) (hty : typeOf (.builtin id) = pure (.type "method_descriptor")) (hm : MtR X id r) (md : MetD X.K op r) (ha : AD X (e :: es) g) (hN : X.N[j]? = some x := by rfl)
    (hvis : Vis X.env.scope x := by first | exact Or.inl rfl | exact Or.inr (Or.inl rfl) | exact Or.inr (Or.inr rfl)) (hd : (x == ("__debug__" : Str)) = false := by decide) (hcd : (x == ("__classdict__" : Str)) = false := by decide)
    (hbase : attributeBase (.Name x np) name X.env (eval (.Name x np) X.env) = eval (.Name x np) X.env := by rfl)
    (hfew : ((backTo cpos (starEach (e :: es) X.env)).all (fun x => !x.1) && (backToKw cpos (keywordEach [] X.env)).all (fun x => x.1.isSome)
      && decide ((e :: es).length + ([] : List Keyword).length + (if ([] : List Keyword).isEmpty then 0 else 1) < 30)) = true := by rfl)
    (hline : (apos.endLine == cpos.line) = true := by rfl) (hs : starEach (e :: es) X.env = (false, eval e X.env) :: starEach es X.env := by rfl) (hplain : (backTo cpos (starEach es X.env)).any (·.1) = false := by rfl) :
    PD X (.Call (.Attribute (.Name x np) name apos) (e :: es) [] cpos) (xMut T j op g) := PE.to (pe_bm pa slot hty hm (pe_var hN hvis hd hcd) ha hbase hfew hline hs hplain) fun σ H Q h => by
  obtain ⟨S, ρ, rr, ρ', G, e, q⟩ := h
  obtain ⟨u, ρ1, e1, a1⟩ := bindM_some e
  obtain ⟨rs, ρ2, e2, a2⟩ := bindM_some a1
  obtain ⟨ds, ρ3, e3, a3⟩ := bindM_some a2
  obtain ⟨st, d, c1, c2, c3, rfl⟩ := chkT_some e1
  obtain ⟨a, hv, ns, tx⟩ := G.top c1 c2
  refine ⟨_, hv, by rw [← c3]; exact tx.tyV, S, _, rs, ρ2, G, e2, fun vs S1 H1 F1 G1 R1 => ?_⟩
  exact xMut_fin md ⟨G, F1, G1⟩ R1 e3 a3 hv q
theorem pd_mut0 (j : Nat) (pa : PlainAttrs T) (slot : Slot T name id) (hty : typeOf (.builtin id) = pure (.type "method_descriptor")) (hm : MtR X id r) (md : MetD X.K op r) (hN : X.N[j]? = some x := by rfl)
    (hvis : Vis X.env.scope x := by first | exact Or.inl rfl | exact Or.inr (Or.inl rfl) | exact Or.inr (Or.inr rfl)) (hd : (x == ("__debug__" : Str)) = false := by decide) (hcd : (x == ("__classdict__" : Str)) = false := by decide)
    (hbase : attributeBase (.Name x np) name X.env (eval (.Name x np) X.env) = eval (.Name x np) X.env := by rfl) (hline : (apos.endLine == cpos.line) = true := by rfl) :
    PD X (.Call (.Attribute (.Name x np) name apos) [] [] cpos) (xMut T j op aN) := PE.to (pe_bm0 pa slot hty hm (pe_var hN hvis hd hcd) hbase hline) fun σ H Q h => by
  obtain ⟨S, ρ, rr, ρ', G, e, q⟩ := h
  obtain ⟨u, ρ1, e1, a1⟩ := bindM_some e
  obtain ⟨rs, ρ2, e2, a2⟩ := bindM_some a1
  obtain ⟨ds, ρ3, e3, a3⟩ := bindM_some a2
  obtain ⟨st, d, c1, c2, c3, rfl⟩ := chkT_some e1
  cases retM_some e2
  obtain ⟨a, hv, ns, tx⟩ := G.top c1 c2
  exact ⟨_, hv, by rw [← c3]; exact tx.tyV, xMut_fin md (Now.start G) .nil e3 a3 hv q⟩
end
def mAppend : PyData → List PyData → Option (PyData × PyData)
  | .list xs, [y] => if xs.length < LIM then some (.list (xs ++ [y]), .none) else none
  | _, _ => none
def mExtend : PyData → List PyData → Option (PyData × PyData)
  | .list xs, [.list ys] => if xs.length + ys.length ≤ LIM then some (.list (xs ++ ys), .none) else none
  | _, _ => none
def mPop : PyData → List PyData → Option (PyData × PyData)
  | .list xs, [] => (xs[xs.length - 1]?).map fun y => (.list xs.dropLast, y)
  | _, _ => none
def mPopAt : PyData → List PyData → Option (PyData × PyData)
  | .list xs, [.int i] => if smallI i = true then (seqIndex? i xs.length).bind fun k => (xs[k]?).map fun y => (.list (xs.eraseIdx k), y) else none
  | _, _ => none
def mUpdate : PyData → List PyData → Option (PyData × PyData)
  | .dict kvs, [.dict more] => if (isM kvs = false ∧ isM more = false) ∧ kvs.length + more.length ≤ LIM then some (.dict (mergeD kvs more), .none) else none
  | _, _ => none
section
variable {X : Cx}
theorem RpL.one {K : PySem.W.Frag} {S : Addr → Prop} {H : Hp} {vs : List V} {d : PyData} (h : RpL K S H vs [d]) : ∃ v, vs = [v] ∧ Rp K S H v d := by
  cases h with
  | cons h t => cases t; exact ⟨_, rfl, h⟩
theorem uph_at {S : Addr → Prop} {H : Hp} {a : Addr} (ns : ¬ S a) (o' : HO) : Uph S H S (upd H a o') := ⟨fun _ h => h, fun b o hb e => by rw [upd_ne (show b ≠ a from fun z => ns (z ▸ hb))]; exact e⟩
theorem RpL.dropLast {K : PySem.W.Frag} {S : Addr → Prop} {H : Hp} {vs : List V} {ds : List PyData} (h : RpL K S H vs ds) : RpL K S H vs.dropLast ds.dropLast := by
  rw [List.dropLast_eq_take, List.dropLast_eq_take, h.len]
  exact h.take _
theorem md_append {K : PySem.W.Frag} : MetD K mAppend rAppend := by
  intro S H a d d' rt ds vs Q al ns t r e q
  unfold mAppend at e
  split at e
  · split at e
    · rename_i xs y hz
      cases e
      obtain ⟨ws, h1, p1⟩ := t
      obtain ⟨v, rfl, rv⟩ := r.one
      have u := uph_at (H := H) ns (.lst (ws ++ [v]))
      exact ⟨a, ws, v, rfl, rfl, h1, by rw [p1.len]; exact lim_lt hz, q _ _ ⟨_, upd_same, (p1.app (.cons rv .nil)).up u⟩ .non⟩
    · cases e
  · cases e
theorem md_extend {K : PySem.W.Frag} : MetD K mExtend rExtend := by
  intro S H a d d' rt ds vs Q al ns t r e q
  unfold mExtend at e
  split at e
  · split at e
    · rename_i xs ys hz
      cases e
      obtain ⟨ws, h1, p1⟩ := t
      obtain ⟨v, rfl, rv⟩ := r.one
      cases rv with
      | lst hs h2 p2 =>
        rename_i b zs
        have u := uph_at (H := H) ns (.lst (ws ++ zs))
        exact ⟨a, b, ws, zs, rfl, rfl, h1, h2, by rw [p1.len, p2.len]; exact lim_line hz, q _ _ ⟨_, upd_same, (p1.app p2).up u⟩ .non⟩
    · cases e
  · cases e
theorem md_pop {K : PySem.W.Frag} : MetD K mPop rPop := by
  intro S H a d d' rt ds vs Q al ns t r e q
  unfold mPop at e
  split at e
  · obtain ⟨y, hy, e1⟩ := Option.map_eq_some_iff.mp e
    cases e1
    obtain ⟨ws, h1, p1⟩ := t
    cases r
    obtain ⟨v, hv, rv⟩ := p1.get hy
    have u := uph_at (H := H) ns (.lst ws.dropLast)
    exact ⟨a, ws, v, rfl, rfl, h1, by rw [p1.len]; exact hv, q _ _ ⟨_, upd_same, (p1.dropLast).up u⟩ (rv.up u)⟩
  · cases e
theorem md_popAt {K : PySem.W.Frag} : MetD K mPopAt rPopAt := by
  intro S H a d d' rt ds vs Q al ns t r e q
  unfold mPopAt at e
  split at e
  · split at e
    · rename_i hi
      obtain ⟨k, hk, e1⟩ := Option.bind_eq_some_iff.mp e
      obtain ⟨y, hy, e2⟩ := Option.map_eq_some_iff.mp e1
      cases e2
      obtain ⟨ws, h1, p1⟩ := t
      obtain ⟨w, rfl, rw'⟩ := r.one
      cases rw'
      obtain ⟨v, hv, rv⟩ := p1.get hy
      have hi' := of_decide_eq_true hi
      have u := uph_at (H := H) ns (.lst (ws.eraseIdx k))
      exact ⟨a, ws, _, k, v, rfl, rfl, h1, by omega, by omega, by rw [p1.len]; exact hk, hv, q _ _ ⟨_, upd_same, (p1.erase k).up u⟩ (rv.up u)⟩
    · cases e
  · cases e
/-- d.update(e), another dict -/
def rUpdate : V → List V → Hp → VK → Prop := fun x vs H Q => ∃ a b kvs more, x = .ref a ∧ vs = [.ref b] ∧ a ≠ b ∧ H a = some (.dK kvs) ∧ Rd H b (.dK more) ∧ kvs.length + more.length ≤ sizeLine ∧ Q .non (upd H a (.dK (mergeK kvs more)))
theorem mt_update : MtR X "dict.update" rUpdate := by
  intro pins s σ H x vs v us Q I rx rv h
  obtain ⟨a, b, kvs, more, rfl, rfl, hne, ha, hb, hz, q⟩ := h
  cases rx
  obtain ⟨w, rfl, rw'⟩ := rv.one
  cases rw'
  obtain ⟨z, hd, va, rel, dd⟩ := dk_of I.hok ha
  obtain ⟨z2, hd2, vb, rel2, dd2⟩ := dk_rd I.hok hb
  have hl : va.length + vb.length ≤ sizeLine := by rw [← rel.length, ← rel2.length]; exact hz
  refine call_meetsIn PySem.F.slot_dict_update dd.typeIs PySem.F.entry_dict_update (PySem.F.args_dict_update_2 _ _) (meets_dict_update (mixKind X.prog X.w) a b hne hd2) ⟨va, vb, dd, dd2, hl, fun h' dd' _ hs => ?_⟩
  have he : ∃ q, h'.get? a = some q := let ⟨q, _, _, hq, _⟩ := dd'; ⟨q, hq⟩
  have hm : (mergeK kvs more).length ≤ sizeLine := Nat.le_trans (length_mergeK more kvs) hz
  exact ⟨.non, _, d_write (t' := s.toks) I (by rw [ha]; exact True.intro) hs he (dk_new hm hd (KV.merge rel2 rel) dd'), rfl, q⟩
theorem md_update {K : PySem.W.Frag} : MetD K mUpdate rUpdate := by
  intro S H a d d' rt ds vs Q al ns t r e q
  unfold mUpdate at e
  split at e
  · split at e
    · rename_i kvs more hz
      cases e
      obtain ⟨⟨n1, n2⟩, hz⟩ := hz
      rcases t with ⟨ts, h1, p1, p2⟩ | ⟨ts, kvs', rfl, _⟩
      case inr => cases n1
      obtain ⟨v, rfl, rv⟩ := r.one
      cases rv with
      | dctT => cases n2
      | dct hs h2 k2 r2 =>
        rename_i b us
        have kv1 : KvR K S H ts kvs := ⟨p1, p2⟩
        have kv2 : KvR K S H us more := ⟨k2, r2⟩
        have m := KvR.merge kv2 kv1
        have u := uph_at (H := H) ns (.dK (mergeK ts us))
        exact ⟨a, b, ts, us, rfl, rfl, fun z => ns (z ▸ hs), h1, h2, by rw [← kv1.len, ← kv2.len]; exact lim_line hz, q _ _ (.inl ⟨_, upd_same, m.1, m.2.up u⟩) .non⟩
    · cases e
  · cases e
end

/-! ### d.get -/
def isDct : PyData → Bool
  | .dict _ => true | _ => false
def getK (o k : PyData) : Option (Option PyData) := match o with
  | .dict kvs => if isM kvs = true then (keysOf? k).map fun ks => lookP ks kvs else (keyOf? k).map fun k => lookD (keyD k) kvs
  | _ => none
/-- d.get(k, x) -/
def xGet2 (f fk fx : Mo Rs) : Mo Rs := bindM f fun r => bindM (rdR r) fun o0 => if isDct o0 = true then bindM fk fun rk => bindM fx fun rx => bindM (rdR rk) fun k => bindM (rdR r) fun o => bindM (keepR rx) fun x => bindM (optM (getK o k)) fun y => retM (.kept (y.getD x)) else fun _ => none
/-- d.get(k) -/
def xGet1 (f fk : Mo Rs) : Mo Rs := bindM f fun r => bindM (rdR r) fun o0 => if isDct o0 = true then bindM fk fun rk => bindM (rdR rk) fun k => bindM (rdR r) fun o => bindM (optM (getK o k)) fun y => retM (.kept (y.getD .none)) else fun _ => none
theorem Rdb.more {K : PySem.W.Frag} {S S' : Addr → Prop} {H : Hp} {v : V} {d : PyData} (sh : ∀ b, S b → S' b) (r : Rdb K S H v d) : Rdb K S' H v d := by
  have u : Uph S H S' H := ⟨sh, fun _ _ _ h => h⟩
  rcases r with r | ⟨a, e, r⟩
  · exact .inl (Rp.up u r)
  · exact .inr ⟨a, e, TopR.up u (fun _ e => e) r⟩
theorem Rdb.isD {K : PySem.W.Frag} {S : Addr → Prop} {H : Hp} {v : V} {d : PyData} (r : Rdb K S H v d) (h : isDct d = true) : ∃ a, v = .ref a ∧ IsD H a := by
  cases d with
  | dict kvs =>
    cases hM : isM kvs with
    | false => obtain ⟨a, ts, rfl, h1, _⟩ := r.dct hM; exact ⟨a, rfl, .inl ⟨ts, h1⟩⟩
    | true => obtain ⟨a, ts, _, rfl, _, h1, _⟩ := r.dctT hM; exact ⟨a, rfl, .inr ⟨ts, .inl h1⟩⟩
  | _ => cases h
theorem getK_run {K : PySem.W.Frag} {S : Addr → Prop} {H : Hp} {v w : V} {o k : PyData} {y : Option PyData} (r : Rdb K S H v o) (rk : Rdb K S H w k) (e : getK o k = some y) : ∃ a z, v = .ref a ∧ DGet H a w z ∧ ((z = none ∧ y = none) ∨ ∃ zv yd, z = some zv ∧ y = some yd ∧ Rp K S H zv yd) := by
  unfold getK at e
  split at e
  · split at e
    · rename_i hM
      obtain ⟨ks, hk, rfl⟩ := Option.map_eq_some_iff.mp e
      obtain ⟨a, ts, kvs', rfl, rfl, h1, p1, p2⟩ := r.dctT hM
      obtain ⟨b, rfl, hb⟩ := rk.keyT hk
      refine ⟨a, _, rfl, DGet.t h1 hb, ?_⟩
      rcases lookP_of ks (keysOf_key hk).2 p1 p2 with ⟨n1, n2⟩ | ⟨w, d', n1, n2, n3⟩
      · exact .inl ⟨n1, n2⟩
      · exact .inr ⟨w, d', n1, n2, n3⟩
    rename_i hM
    obtain ⟨kk, hk, rfl⟩ := Option.map_eq_some_iff.mp e
    obtain ⟨a, ts, rfl, h1, p1, p2⟩ := r.dct (by simpa using hM)
    obtain rfl := rk.key hk
    refine ⟨a, _, rfl, DGet.of h1, ?_⟩
    rcases look_of kk p1 p2 with ⟨n1, n2⟩ | ⟨w, d', n1, n2, n3⟩
    · exact .inl ⟨n1, n2⟩
    · exact .inr ⟨w, d', n1, n2, n3⟩
  · cases e
section
variable {X : Cx} {o e f : Expr} {fo fk fx : Mo Rs} {apos cpos : Pos}
theorem pd_get2 (hu : X.A.units + 64 < cLine) (ho : PD X o fo) (he : PD X e fk) (hf : PD X f fx) (m : M2 X o "get" apos e f cpos) : PD X (.Call (.Attribute o "get" apos) [e, f] [] cpos) (xGet2 fo fk fx) := PE.to (pe_dget2 (by omega) ho he hf m) fun σ H Q h => by
  obtain ⟨S, ρ, r, ρ', G, e, q⟩ := h
  obtain ⟨r0, ρ1, e1, a1⟩ := bindM_some e
  obtain ⟨o0, ρ2, e2, a2⟩ := bindM_some a1
  obtain rfl := rdR_same e2
  split at a2
  · rename_i hd
    obtain ⟨rk, ρ3, e3, a3⟩ := bindM_some a2
    obtain ⟨rx, ρ4, e4, a4⟩ := bindM_some a3
    obtain ⟨k, ρ5, e5, a5⟩ := bindM_some a4
    obtain ⟨o1, ρ6, e6, a6⟩ := bindM_some a5
    obtain ⟨x, ρ7, e7, a7⟩ := bindM_some a6
    obtain ⟨y, ρ8, e8, a8⟩ := bindM_some a7
    cases retM_some a8
    obtain rfl := rdR_same e5
    obtain rfl := rdR_same e6
    obtain ⟨b1, b2⟩ := optM_some e8
    simp only at b1 b2
    subst b2
    refine ⟨S, ρ, r0, _, G, e1, fun v S1 H1 F1 G1 R1 => ?_⟩
    obtain ⟨a, rfl, hD⟩ := ((R1.rd G1 e2).1).isD hd
    refine ⟨a, rfl, hD, S1, _, rk, ρ3, G1, e3, fun w S2 H2 F2 G2 R2 => ⟨S2, ρ3, rx, _, G2, e4, fun z S3 H3 F3 G3 R3 => ?_⟩⟩
    have n1 : Now X.K σ S ρ H S1 _ H1 := ⟨G, F1, G1⟩
    have n2 := n1.step F2 G2
    have n3 := n2.step F3 G3
    obtain ⟨S4, n4, p4, sh4⟩ := (R3.pre n2).w.keep n3 e7
    obtain ⟨rdk, _⟩ := ((R2.pre n1).fm n2 F3).rd G3 e5
    obtain ⟨rdo, _⟩ := ((R1.fm n1 F2).fm n2 F3).rd G3 e6
    obtain ⟨b, zz, hb, dg, hz⟩ := getK_run (rdo.more sh4) (rdk.more sh4) b1
    cases hb
    refine ⟨zz, dg, q _ S4 H3 n4.f n4.g ?_⟩
    rcases hz with ⟨rfl, rfl⟩ | ⟨zv, yd, rfl, rfl, hr⟩
    · exact p4
    · exact hr
  · cases a2
theorem pd_get1 (hu : X.A.units + 64 < cLine) (ho : PD X o fo) (he : PD X e fk) (m : M1 X o "get" apos e cpos) : PD X (.Call (.Attribute o "get" apos) [e] [] cpos) (xGet1 fo fk) := PE.to (pe_dget1 (by omega) ho he m) fun σ H Q h => by
  obtain ⟨S, ρ, r, ρ', G, e, q⟩ := h
  obtain ⟨r0, ρ1, e1, a1⟩ := bindM_some e
  obtain ⟨o0, ρ2, e2, a2⟩ := bindM_some a1
  obtain rfl := rdR_same e2
  split at a2
  · rename_i hd
    obtain ⟨rk, ρ3, e3, a3⟩ := bindM_some a2
    obtain ⟨k, ρ5, e5, a5⟩ := bindM_some a3
    obtain ⟨o1, ρ6, e6, a6⟩ := bindM_some a5
    obtain ⟨y, ρ8, e8, a8⟩ := bindM_some a6
    cases retM_some a8
    obtain rfl := rdR_same e5
    obtain rfl := rdR_same e6
    obtain ⟨b1, b2⟩ := optM_some e8
    simp only at b1 b2
    subst b2
    refine ⟨S, ρ, r0, _, G, e1, fun v S1 H1 F1 G1 R1 => ?_⟩
    obtain ⟨a, rfl, hD⟩ := ((R1.rd G1 e2).1).isD hd
    refine ⟨a, rfl, hD, S1, _, rk, _, G1, e3, fun w S2 H2 F2 G2 R2 => ?_⟩
    have n1 : Now X.K σ S ρ H S1 _ H1 := ⟨G, F1, G1⟩
    have n2 := n1.step F2 G2
    obtain ⟨rdk, _⟩ := (R2.pre n1).rd G2 e5
    obtain ⟨rdo, _⟩ := (R1.fm n1 F2).rd G2 e6
    obtain ⟨b, zz, hb, dg, hz⟩ := getK_run rdo rdk b1
    cases hb
    refine ⟨zz, dg, q _ S2 H2 n2.f n2.g ?_⟩
    rcases hz with ⟨rfl, rfl⟩ | ⟨zv, yd, rfl, rfl, hr⟩
    · exact .non
    · exact hr
  · cases a2
end

/-! ### t[::-1] of a tuple, l[::-1] of a list -/
theorem adj_rev (n : Nat) : Builtin.Slice.sliceAdjust none none (-1) (n : Int) = ((n : Int) - 1, -1) := by
  unfold Builtin.Slice.sliceAdjust
  simp
theorem places_rev (n : Nat) : Builtin.Slice.slicePlaces ((n : Int) - 1) (-1) (-1) = n := by
  unfold Builtin.Slice.slicePlaces
  simp
  split <;> omega
theorem fm_map {α β : Type} (f : α → Option β) (g : α → β) : ∀ l : List α, (∀ m ∈ l, f m = some (g m)) → l.filterMap f = l.map g
  | [], _ => rfl
  | x :: r, h => by
    rw [List.filterMap_cons, h x List.mem_cons_self, List.map_cons, fm_map f g r fun m hm => h m (List.mem_cons_of_mem _ hm)]
theorem pick_rev : ∀ (xs : Array Value), ((List.range xs.size).filterMap fun (m : Nat) => xs[(((xs.size : Int) - 1) + (m : Int) * (-1)).toNat]?) = xs.toList.reverse := by
  intro xs
  apply List.ext_getElem?
  intro i
  have all : ∀ m ∈ List.range xs.size, xs[(((xs.size : Int) - 1) + (m : Int) * (-1)).toNat]? = some (xs.toList.reverse.getD m .none) := by
    intro m hm
    have hm' : m < xs.size := List.mem_range.mp hm
    have e : (((xs.size : Int) - 1) + (m : Int) * (-1)).toNat = xs.size - 1 - m := by omega
    rw [e, ← Array.getElem?_toList, List.getD_eq_getElem?_getD, List.getElem?_reverse (by simpa using hm'), Array.length_toList]
    rw [List.getElem?_eq_getElem (by rw [Array.length_toList]; omega)]
    rfl
  have e2 : ((List.range xs.size).filterMap fun (m : Nat) => xs[(((xs.size : Int) - 1) + (m : Int) * (-1)).toNat]?) = (List.range xs.size).map fun m => xs.toList.reverse.getD m .none := by
    exact fm_map _ _ _ all
  rw [e2, List.getElem?_map]
  by_cases hi : i < xs.size
  · rw [List.getElem?_range hi, List.getElem?_eq_getElem (by simpa using hi)]
    simp [List.getD_eq_getElem?_getD, hi]
  · rw [List.getElem?_eq_none (by simpa using hi), List.getElem?_eq_none (by simpa using hi)]
    rfl
section
open PySem.SeqAt PySem.MeetsSeq PyProof.Rows
variable {prog : Program} {w : World} {A : Around} {E : Value → Shared → Prop} {s : Shared}
theorem sapp_rev {sl : Addr} {vl vu vt : Value} {n : Nat} {Q : Int × Int × Nat → Shared → Prop} (hs : s.heap.IsSliceOf sl vl vu vt) (pl : IsPart vl none) (pu : IsPart vu none) (pt : IsPart vt (some (-1))) (h : Q ((n : Int) - 1, -1, n) s) : wpAny (model prog w) A (Builtin.Slice.sliceApplied (.ref sl) (pure (n : Int))) Q E s := by
  obtain ⟨os, g1, g2, g3⟩ := id hs
  unfold Builtin.Slice.sliceApplied Builtin.Slice.sliceFields
  refine wpAny_bind (wpAny_bind (wpAny_field g1 g3 (x := vl) rfl (wpAny_bind (wpAny_field g1 g3 (x := vu) rfl (wpAny_bind (wpAny_field g1 g3 (x := vt) rfl (wpAny_pure ?_)))))))
  refine wpAny_bind (HT.slicePart_ pt ?_)
  show wpAny _ _ (if (((-1) : Int) == 0) = true then _ else _) _ _ s
  rw [if_neg (by decide)]
  refine wpAny_bind (HT.slicePart_ pl (wpAny_bind (HT.slicePart_ pu (wpAny_bind (wpAny_pure ?_)))))
  show wpAny _ _ (match Builtin.Slice.sliceAdjust none none (-1) (n : Int) with | (lo, hi) => pure (lo, (-1 : Int), Builtin.Slice.slicePlaces lo hi (-1))) _ _ s
  rw [adj_rev n]
  show wpAny _ _ (pure ((n : Int) - 1, (-1 : Int), Builtin.Slice.slicePlaces ((n : Int) - 1) (-1) (-1))) _ _ s
  rw [places_rev]
  exact wpAny_pure h
theorem item_rev {t sl : Addr} {items : Array Value} {vl vu vt : Value} {Q : Value → Shared → Prop} (ht : IsTup s.heap t items) (hs : s.heap.IsSliceOf sl vl vu vt) (pl : IsPart vl none) (pu : IsPart vu none) (pt : IsPart vt (some (-1))) (hsz : items.size ≤ sizeLine)
    (h : Q (.ref s.heap.objs.size) { s with heap := s.heap.push { cls := .type "tuple", data := .seq items.toList.reverse.toArray } }) : wpAny (model prog w) A (getItem (.ref t) (.ref sl)) Q E s := by
  have ok : sizeOk (.seq items.toList.reverse.toArray) := by
    show items.toList.reverse.toArray.size ≤ sizeLine
    simpa using hsz
  obtain ⟨os, g1, g2, g3⟩ := id hs
  have hT : s.TypeIs (.ref sl) "slice" := ⟨os, g1, g2⟩
  unfold getItem
  try with_reducible refine wpAny_holding ?_
  first | refine wpAny_bind (wpAny_pure ?_) | skip
  refine wpAny_bind (wpAny_sequenceKey ht.typeIs (by decide) ?_)
  refine wpAny_bind (wpAny_callSpecial?_slot (name := Str.ofString "__getitem__") ht.typeIs PyProof.Rows.slot_tuple_getitem (wpAny_call_entry PyProof.Rows.slot_tuple_getitem ht.typeIs entry_tuple_getitem ?_ (args_tuple_getitem _ _)))
  show wpAny _ _ (Builtin.Tuple.tupleItemsOf (.ref t) >>= _) _ _ s
  refine wpAny_bind (tupleItemsOf_ ht (wpAny_bind (wpAny_typeOf hT ?_)))
  rw [if_pos (by decide)]
  refine wpAny_bind (sapp_rev hs pl pu pt ?_)
  have hno : ¬ (((((items.size : Nat) : Int) - 1) == 0 && ((-1) : Int) == 1 && items.size == items.size) = true) := by
    simp
  show wpAny _ _ (if ((((items.size : Nat) : Int) - 1) == 0 && ((-1) : Int) == 1 && items.size == items.size) = true then _ else _) _ _ s
  rw [if_neg hno, pick_rev]
  first
    | exact wpAny_bind (m := Builtin.Tuple.tupleExact _) (wpAny_newObj_type (wpAny_pure ⟨_, rfl, wpAny_pure h⟩) ok)
    | exact wpAny_bind (wpAny_bind (m := Builtin.Tuple.tupleExact _) (wpAny_newObj_type (wpAny_pure (wpAny_pure ⟨_, rfl, wpAny_pure h⟩)) ok))
    | exact wpAny_bind (m := Builtin.Tuple.tupleExact _) (wpAny_newObj_type (wpAny_bind (wpAny_pure (wpAny_pure ⟨_, rfl, wpAny_pure h⟩))) ok)
    | exact wpAny_bind (wpAny_bind (m := Builtin.Tuple.tupleExact _) (wpAny_newObj_type (wpAny_pure ⟨_, rfl, wpAny_pure h⟩) ok))
end
def tRevA (K : PySem.W.Frag) (te : TE) : TE := fun σ H Q => te σ H fun x H1 => ∃ a xs, x = .ref a ∧ ((H1 a = some (.lst xs) ∧ ∀ p, H1 p = none → Q (.ref p) (upd H1 p (.lst xs.reverse))) ∨ (SqT K H1 a xs ∧ NewT H1 xs.reverse Q))
section
variable {X : Cx} {e : Expr} {te : TE} {f : Mo Rs} {k : Nat} {p1 p2 p3 pos : Pos}
theorem pe_revT (he : PE X e te) : PE X (.Subscript e (.Slice none none (some (.UnaryOp .USub (.Constant (.int 1) k p1) p2)) p3) pos) (tRevA X.K te) := by
  refine ⟨fun pins s σ H Q I h => ?_⟩
  refine PyProof.Rows.Subscript_ (thn (he.run pins s σ H _ I h) fun v s1 ⟨x, H1, I1, r1, a, xs, ex, q⟩ => ?_)
  subst ex
  cases r1
  have step : PO X (some (.UnaryOp .USub (.Constant (.int 1) k p1) p2)) (tPart (tUn (rU fun i => .int (-i)) (tC (.int 1)))) := po_some (pe_un un_neg pe_int)
  refine wpAny_Slice (thn (po_none.run pins s1 σ H1 (fun o H2 => o = none ∧ H2 = H1) I1 ⟨rfl, rfl⟩) fun vl s2 ⟨l, H2, I2, pl, el, e2⟩ => ?_)
  subst el e2
  refine thn (po_none.run pins s2 σ H2 (fun o H3 => o = none ∧ H3 = H2) I2 ⟨rfl, rfl⟩) fun vu s3 ⟨u, H3, I3, pu, eu, e3⟩ => ?_
  subst eu e3
  refine thn (step.run pins s3 σ H3 (fun o H4 => o = some (-1) ∧ H4 = H3) I3 ⟨1, rfl, -1, rfl, rfl, rfl⟩) fun vt s4 ⟨o, H4, I4, pt, eo, e4⟩ => ?_
  subst eo e4
  have I5 : Inv X pins σ H4 { s4 with heap := s4.heap.push { cls := .type "slice", data := .fields #[vl, vu, vt] } } := I4.kept (t' := s4.toks) fun b ob z => Heap.get?_push_of_some _ z
  show wpAny (model X.prog X.w) X.A (PyProof.Rows.subscriptTail e (.Slice none none (some (.UnaryOp .USub (.Constant (.int 1) k p1) p2)) p3) (.ref a) (.ref s4.heap.objs.size)) (EP X pins σ Q) X.xe { s4 with heap := s4.heap.push { cls := .type "slice", data := .fields #[vl, vu, vt] } }
  rcases q with ⟨hx, q⟩ | ⟨hx, q⟩
  · obtain ⟨its, r, ht, hz⟩ := I5.list (SqL.of hx)
    have hlen := r.length
    refine PyProof.Rows.tail_any (ops := [.ref a, .ref s4.heap.objs.size]) ht.isList.typeIs (PySem.slot_list_getitem.lookup) ?_ (by with_unfolding_all rfl)
    refine wpAny_getItem_list_slice ht.isList (Heap.IsSliceOf.new _ vl vu vt) pl pu pt (by decide) ?_ (by rw [List.size_toArray]; omega)
    rw [PySem.W.krv_pick]
    exact ⟨.ref _, _, I5.laid (t' := s4.toks) (o := .lst xs.reverse) (fun b ob z => Heap.get?_push_of_some _ z) (Nat.le_refl _) ⟨by rw [List.length_reverse]; exact hz, _, 0, r.reverse, Heap.get?_push_size _ rfl⟩, rfl, q _ (I5.hok.fresh (Nat.le_refl _))⟩
  · obtain ⟨its, r, ht, hz⟩ := I5.tuple hx
    have hlen := r.length
    refine PyProof.Rows.tail_any (ops := [.ref a, .ref s4.heap.objs.size]) ht.typeIs PyProof.Rows.slot_tuple_getitem.lookup ?_ (by with_unfolding_all rfl)
    refine item_rev ht (Heap.IsSliceOf.new _ vl vu vt) pl pu pt (by rw [List.size_toArray]; omega) ?_
    exact q.put (k := s4.toks) I5 r.reverse (by rw [List.length_reverse]; exact hz)
def opRev : PyData → Option PyData
  | .list ds => some (.list ds.reverse)
  | .tuple ds => some (.tuple ds.reverse)
  | _ => none
theorem pd_rev (he : PD X e f) : PD X (.Subscript e (.Slice none none (some (.UnaryOp .USub (.Constant (.int 1) k p1) p2)) p3) pos) (x1 opRev f) := PE.to (pe_revT he) fun σ H Q h => by
  obtain ⟨S, ρ, r, ρ', G, e, q⟩ := h
  obtain ⟨r1, ρ1, e1, e2⟩ := bindM_some e
  obtain ⟨d, ρ2, e3, e4⟩ := bindM_some e2
  obtain ⟨d', ρ3, e5, e6⟩ := bindM_some e4
  obtain ⟨b1, b2⟩ := optM_some e5
  simp only at b1 b2
  cases retM_some e6
  refine ⟨S, ρ, r1, ρ1, G, e1, fun v S1 H1 F1 G1 R1 => ?_⟩
  obtain ⟨rd, rfl⟩ := R1.rd G1 e3
  subst b2
  have n1 : Now X.K σ S ρ H S1 _ H1 := ⟨G, F1, G1⟩
  unfold opRev at b1
  split at b1
  · cases b1
    obtain ⟨a, vs, rfl, h1, p1⟩ := rd.lst
    exact ⟨a, vs, rfl, .inl ⟨h1, fun p hp => q _ S1 _ (n1.grow (Gw.lay G1.al hp)).f (n1.grow (Gw.lay G1.al hp)).g (lay_lst G1.al p1.rev hp (n1.none0 hp))⟩⟩
  · cases b1
    obtain ⟨a, vs, rfl, h1, p1⟩ := rd.tup
    exact ⟨a, vs, rfl, .inr ⟨h1.sq, newT_rp G1.al p1.rev fun p o hp rp => q _ _ _ (n1.grow (Gw.layS G1.al hp)).f (n1.grow (Gw.layS G1.al hp)).g rp⟩⟩
  · cases b1
end
end PyI

/-! PyI, part K: dicts walked: they are locked meanwhile. -/
namespace PyI
open PySem PySem.Spec L2

/-! ### the dict at d, locked or not -/
structure Tw (d : Addr) (ts : List (Key × V)) (H H' : Hp) : Prop where
  ne : ∀ a, a ≠ d → H' a = H a
  h1 : Rd H d (.dK ts)
  h2 : Rd H' d (.dK ts)
theorem rd_inj {H : Hp} {d : Addr} {ts us : List (Key × V)} (h : Rd H d (.dK ts)) (k : Rd H d (.dK us)) : us = ts := by
  rcases h with h | ⟨o, h⟩ <;> rcases k with k | ⟨o', k⟩ <;> (rw [h] at k; cases k; try rfl)
theorem rd_not {H : Hp} {d : Addr} {ts : List (Key × V)} {u : HO} (h : Rd H d (.dK ts)) (k : H d = some u) : u = .dK ts ∨ ∃ o, u = .frz o (.dK ts) := by
  rcases h with h | ⟨o, h⟩
  · rw [h] at k; cases k; exact .inl rfl
  · rw [h] at k; cases k; exact .inr ⟨o, rfl⟩
section
variable {K : PySem.W.Frag} {S S' : Addr → Prop} {ρ ρ' : Rho} {σ σ' : L2.St} {H H' : Hp} {d a : Addr} {ts : List (Key × V)} {v : V} {x : PyData}
theorem Tw.other {u : HO} (t : Tw d ts H H') (h : H a = some u) (h1 : u ≠ .dK ts) (h2 : ∀ o, u ≠ .frz o (.dK ts)) : a ≠ d := by
  rintro rfl
  rcases rd_not t.h1 h with e | ⟨o, e⟩
  · exact h1 e
  · exact h2 o e
theorem Tw.at' {u : HO} (t : Tw d ts H H') (h : H a = some u) (h1 : u ≠ .dK ts) (h2 : ∀ o, u ≠ .frz o (.dK ts)) : H' a = some u := by rw [t.ne a (t.other h h1 h2)]; exact h
theorem Tw.rd {us : List (Key × V)} (t : Tw d ts H H') (h : Rd H a (.dK us)) : Rd H' a (.dK us) := by
  by_cases e : a = d
  · subst e
    rw [rd_inj t.h1 h]; exact t.h2
  · rcases h with h | ⟨o, h⟩
    · exact .inl (by rw [t.ne a e]; exact h)
    · exact .inr ⟨o, by rw [t.ne a e]; exact h⟩
theorem Tw.stup {vs : List V} (t : Tw d ts H H') (h : STup K S H a vs) : STup K S H' a vs := by
  rcases h with ⟨h1, h2 | ⟨o, h2⟩⟩ | h
  · exact .inl ⟨h1, .inl (t.at' h2 (by simp) (by simp))⟩
  · exact .inl ⟨h1, .inr ⟨o, t.at' h2 (by simp) (by simp)⟩⟩
  · exact .inr h
theorem Tw.tf {vs : List V} {ds : List PyData} (t : Tw d ts H H') (h : TF K S H a vs ds) : TF K S H' a vs ds := by
  refine ⟨fun e => ?_, fun e => ⟨(h.2 e).1, t.at' (h.2 e).2 (by simp) (by simp)⟩⟩
  rcases h.1 e with ⟨h1, o, h2, h3⟩ | z
  · exact .inl ⟨h1, o, t.at' h2 (by simp) (by simp), h3⟩
  · exact .inr z
theorem Tw.plt {vs : List V} (t : Tw d ts H H') (h : PlT S H a vs) : PlT S H' a vs := by
  obtain ⟨h1, o, h2, h3⟩ := h
  exact ⟨h1, o, t.at' h2 (by simp) (by simp), h3⟩
mutual
theorem Rp.tw (t : Tw d ts H H') : ∀ {v : V} {x : PyData}, Rp K S H v x → Rp K S H' v x
  | _, _, .non => .non
  | _, _, .bl b => .bl b
  | _, _, .int i => .int i
  | _, _, .str x => .str x
  | _, _, .tup h r p => .tup (t.stup h) (RpL.tw t r) (t.tf p)
  | _, _, .lst hs h r => .lst hs (t.at' h (by simp) (by simp)) (RpL.tw t r)
  | _, _, .dct hs h k r => .dct hs (t.rd h) k (RpL.tw t r)
  | _, _, .dctT hs h k r => .dctT hs (t.at' h (by simp) (by simp)) k (RpL.tw t r)
theorem RpL.tw (t : Tw d ts H H') : ∀ {vs : List V} {ds : List PyData}, RpL K S H vs ds → RpL K S H' vs ds
  | _, _, .nil => .nil
  | _, _, .cons h r => .cons (Rp.tw t h) (RpL.tw t r)
end
theorem TopX.tw (t : Tw d ts H H') (ne : a ≠ d) (h : TopX K S H a x) : TopX K S H' a x := by
  cases x with
  | list ds => obtain ⟨vs, h1, h2⟩ := h; exact ⟨vs, by rw [t.ne a ne]; exact h1, h2.tw t⟩
  | dict kvs =>
    rcases h with ⟨us, h1, h2, h3⟩ | ⟨us, kvs', e, h1, h2, h3⟩
    · exact .inl ⟨us, by rw [t.ne a ne]; exact h1, h2, h3.tw t⟩
    · exact .inr ⟨us, kvs', e, by rw [t.ne a ne]; exact h1, h2, h3.tw t⟩
  | _ => exact h.elim
theorem TopR.tw (t : Tw d ts H H') (h : TopR K S H a x) : TopR K S H' a x := by
  cases x with
  | list ds => obtain ⟨vs, h1, h2⟩ := h; exact ⟨vs, t.at' h1 (by simp) (by simp), h2.tw t⟩
  | dict kvs =>
    rcases h with ⟨us, h1, h2, h3⟩ | ⟨us, kvs', e, h1, h2, h3⟩
    · exact .inl ⟨us, t.rd h1, h2, h3.tw t⟩
    · exact .inr ⟨us, kvs', e, t.at' h1 (by simp) (by simp), h2, h3.tw t⟩
  | _ => exact h.elim
theorem Tw.there (t : Tw d ts H H') (h : H a ≠ none) : H' a ≠ none := by
  by_cases e : a = d
  · subst e
    rcases t.h2 with q | ⟨o, q⟩ <;> rw [q] <;> simp
  · rw [t.ne a e]; exact h
theorem Tw.back (t : Tw d ts H H') : Tw d ts H' H := ⟨fun a h => (t.ne a h).symm, t.h2, t.h1⟩
theorem Tw.gone (t : Tw d ts H H') (h : H' a = none) : H a = none := by
  cases e : H a with
  | none => rfl
  | some o => exact absurd h (t.there (by rw [e]; simp))
theorem Gd.tw (t : Tw d ts H H') (nm : ¬ Mu ρ σ d) (g : Gd K S ρ σ H) : Gd K S ρ σ H' := by
  refine ⟨g.len, fun i st x h => ?_, g.ne, fun a h => t.there (g.al a h)⟩
  obtain ⟨v, h1, h2⟩ := g.sl i st x h
  refine ⟨v, h1, ?_⟩
  cases st with
  | shr => exact Rp.tw t h2
  | own => obtain ⟨a, rfl, ns, q⟩ := h2; exact ⟨a, rfl, ns, TopX.tw t (fun z => nm (z ▸ ⟨i, .own, x, h, rfl, h1⟩)) q⟩
  | lent => obtain ⟨a, rfl, ns, q⟩ := h2; exact ⟨a, rfl, ns, TopX.tw t (fun z => nm (z ▸ ⟨i, .lent, x, h, rfl, h1⟩)) q⟩
  | bor => obtain ⟨a, rfl, ns, q⟩ := h2; exact ⟨a, rfl, ns, TopR.tw t q⟩
  | scr =>
    obtain ⟨a, ns, rfl, e1, k⟩ := h2
    exact ⟨a, ns, rfl, e1, KLst.keep (fun o e => t.at' e (by simp) (by simp)) k⟩
theorem RR.tw {H0 : Hp} {r : Rs} (t : Tw d ts H H') (h0 : H0 d ≠ none) (h : RR K H0 S H ρ σ v r) : RR K H0 S H' ρ σ v r := by
  cases r with
  | kept x => exact Rp.tw t h
  | fresh x => obtain ⟨a, rfl, e, ns, q⟩ := h; exact ⟨a, rfl, e, ns, TopX.tw t (fun z => h0 (z ▸ e)) q⟩
  | slot i => exact h
/-- under the lock, and behind it -/
theorem Fs.unlock {od : Obj} (h0 : H d = some (.dK ts)) (f : Fs S ρ σ (upd H d (.frz od (.dK ts))) S' ρ' σ' H') : Fs S ρ σ H S' ρ' σ' (upd H' d (.dK ts)) := by
  have non : ∀ a, (upd H d (.frz od (.dK ts))) a = none → H a = none := fun a e => by
    by_cases z : a = d
    · rw [z, upd_same] at e; cases e
    · rw [upd_ne z] at e; exact e
  refine ⟨fun a h => ?_, fun a o e nm => ?_, f.sh, fun a h => ?_, fun i x a h1 h2 => (f.own i x a h1 h2).imp_left (non a), f.lent, f.len⟩
  · by_cases z : a = d
    · rw [z, upd_same]; simp
    · rw [upd_ne z]; exact f.dom a (by rw [upd_ne z]; exact h)
  · by_cases z : a = d
    · subst z
      rw [h0] at e; cases e
      exact upd_same
    · rw [upd_ne z]; exact f.keep a o (by rw [upd_ne z]; exact e) nm
  · rcases f.new a h with z | z | z
    · exact .inl z
    · exact .inr (.inl z)
    · exact .inr (.inr (non a z))
theorem Fm.unlock {od : Obj} (h0 : H d = some (.dK ts)) (f : Fm S ρ σ (upd H d (.frz od (.dK ts))) S' ρ' H') : Fm S ρ σ H S' ρ' (upd H' d (.dK ts)) := by
  have q := f.fs.unlock h0
  exact ⟨q.dom, q.keep, q.sh, q.new, f.len, f.non, f.sts⟩
theorem tw_lock {od : Obj} (h0 : H d = some (.dK ts)) : Tw d ts H (upd H d (.frz od (.dK ts))) := ⟨fun a h => upd_ne h, .inl h0, .inr ⟨od, upd_same⟩⟩
theorem tw_unlock {od : Obj} (h0 : H d = some (.frz od (.dK ts))) : Tw d ts H (upd H d (.dK ts)) := ⟨fun a h => upd_ne h, .inr ⟨od, h0⟩, .inl upd_same⟩
end

/-! ### what is walked -/
inductive Wm | keys | vals | itms
def selD : Wm → List (PyData × PyData) → List PyData
  | .keys, kvs => kvs.map (·.1)
  | .vals, kvs => kvs.map (·.2)
  | .itms, kvs => kvs.map fun p => .tuple [p.1, p.2]
def gateM {α : Type} (kvs : List (PyData × PyData)) (x : Option α) : Option α := if isM kvs = true then none else x
theorem gateM_no {α : Type} {kvs : List (PyData × PyData)} (h : isM kvs = false) (x : Option α) : gateM kvs x = x := by
  unfold gateM
  rw [h]; rfl
theorem gateM_some {α : Type} {kvs : List (PyData × PyData)} {x : Option α} {y : α} (h : gateM kvs x = some y) : isM kvs = false ∧ x = some y := by
  unfold gateM at h
  split at h
  · cases h
  · rename_i hM
    refine ⟨?_, h⟩
    revert hM
    cases isM kvs <;> simp
def iDict (m : Wm) (i : Nat) : Mo (List PyData) := fun ρ => match ρ[i]? with
  | some (some (.shr, .dict kvs)) => gateM kvs (some (selD m kvs, ρ))
  | some (some (.bor, .dict kvs)) => gateM kvs (some (selD m kvs, ρ))
  | some (some (.own, .dict kvs)) => gateM kvs (some (selD m kvs, ρ.set i (some (.shr, .dict kvs))))
  | _ => none
def wiD (m : Wm) (i : Nat) : TI := match m with
  | .keys => iKeys (tVar i)
  | .vals => iVals (tVar i)
  | .itms => iItems (tVar i)
section
variable {K : PySem.W.Frag} {S S' : Addr → Prop} {ρ ρ' ρ1 : Rho} {σ σ' : L2.St} {H H' : Hp} {d a : Addr} {ts : List (Key × V)} {v : V} {m : Wm} {i : Nat} {ds : List PyData}
theorem KvR.get : ∀ {ts : List (Key × V)} {kvs : List (PyData × PyData)} {n : Nat} {k : Key} {v : V}, KvR K S H ts kvs → ts[n]? = some (k, v) → ∃ x, kvs[n]? = some (keyD k, x) ∧ Rp K S H v x
  | [], _, n, k, v, _, e => by simp at e
  | _ :: _, [], _, _, _, h, _ => by have := h.len; simp at this
  | p :: ts, q :: kvs, 0, k, v, h, e => by
    obtain ⟨a, b, c⟩ := h.cons_inv
    simp at e
    subst e
    exact ⟨q.2, by rw [← a]; rfl, b⟩
  | p :: ts, q :: kvs, n + 1, k, v, h, e => by
    obtain ⟨a, b, c⟩ := h.cons_inv
    rw [List.getElem?_cons_succ] at e ⊢
    exact KvR.get c e
theorem iDict_some (e : iDict m i ρ = some (ds, ρ1)) : ∃ kvs, isM kvs = false ∧ ds = selD m kvs ∧ iDict m i ρ1 = some (ds, ρ1) ∧ ((ρ1 = ρ ∧ (ρ[i]? = some (some (.shr, .dict kvs)) ∨ ρ[i]? = some (some (.bor, .dict kvs)))) ∨ (ρ[i]? = some (some (.own, .dict kvs)) ∧ ρ1 = ρ.set i (some (.shr, .dict kvs)))) := by
  have e0 := e
  unfold iDict at e
  split at e
  · obtain ⟨n, e⟩ := gateM_some e; cases e; exact ⟨_, n, rfl, e0, .inl ⟨rfl, .inl ‹_›⟩⟩
  · obtain ⟨n, e⟩ := gateM_some e; cases e; exact ⟨_, n, rfl, e0, .inl ⟨rfl, .inr ‹_›⟩⟩
  · rename_i kvs h
    obtain ⟨n, e⟩ := gateM_some e
    cases e
    refine ⟨kvs, n, rfl, ?_, .inr ⟨h, rfl⟩⟩
    unfold iDict
    rw [List.getElem?_set_self (List.getElem?_eq_some_iff.mp h).1]
    exact gateM_no n _
  · cases e
/-- the dict is there, shared or borrowed -/
theorem iDict_at (g : Gd K S ρ σ H) (e : iDict m i ρ = some (ds, ρ1)) : ∃ S1 a ts kvs, Gd K S1 ρ1 σ H ∧ Fm S ρ σ H S1 ρ1 H ∧ σ[i]? = some (some (V.ref a)) ∧ Rd H a (.dK ts) ∧ ¬ Mu ρ1 σ a ∧ KvR K S1 H ts kvs ∧ ds = selD m kvs ∧ (S1 a ∨ ρ1[i]? = some (some (.bor, .dict kvs))) := by
  obtain ⟨kvs, nM, e1, e2, q⟩ := iDict_some e
  rcases q with ⟨rfl, h | h⟩ | ⟨h, rfl⟩
  · obtain ⟨v, hv, hr⟩ := g.sl i .shr _ h
    cases hr with
    | dctT => cases nM
    | dct hs h1 k r => exact ⟨S, _, _, kvs, g, Fm.refl, hv, h1, g.notMu hs, ⟨k, r⟩, e1, .inl hs⟩
  · obtain ⟨v, hv, a, rfl, ns, tr⟩ := g.sl i .bor _ h
    rcases tr with ⟨ts, h1, k, r⟩ | ⟨_, _, rfl, _⟩
    case inr => cases nM
    refine ⟨S, a, ts, kvs, g, Fm.refl, hv, h1, ?_, ⟨k, r⟩, e1, .inr h⟩
    rintro ⟨j, st, d2, z1, z2, z3⟩
    have hold : st.hold = true := by cases st <;> first | rfl | cases z2
    have := g.ne j i a st d2 .bor _ z1 h hold rfl z3 hv
    subst this
    rw [h] at z1
    cases z1
    cases z2
  · obtain ⟨v, hv, _⟩ := g.sl i .own _ h
    have rw0 : RRw K H S H ρ σ v (.slot i) := ⟨hv, _, h⟩
    have ek : keepR (.slot i) ρ = some (PyData.dict kvs, ρ.set i (some (.shr, .dict kvs))) := by
      unfold keepR
      simp only [h]
    obtain ⟨S1, n1, p1, _⟩ := rw0.keep (Now.start g) ek
    cases p1 with
    | dctT => cases nM
    | dct hs h1 k r => exact ⟨S1, _, _, kvs, n1.g, n1.f, hv, h1, n1.g.notMu hs, ⟨k, r⟩, e1, .inl hs⟩
theorem selD_len {kvs : List (PyData × PyData)} : (selD m kvs).length = kvs.length := by
  cases m <;> simp [selD]
theorem walk_keys {T : Addr → Prop} {od : Obj} {kvs : List (PyData × PyData)} (h : H a = some (.frz od (.dK ts))) (kv : KvR K S H ts kvs) (ht : S a ∨ T a) : Walk K (Itk a od ts) (selD .keys kvs) T S H := by
  intro S2 H2 n u t al
  have hH : H2 a = some (.frz od (.dK ts)) := ht.elim (fun z => u.at' a _ z h) fun z => t a _ z h
  rw [selD_len, kv.len]
  refine ⟨fun hn => ⟨⟨hH, hn⟩, fun x H' y => ?_⟩, fun hn => ⟨hH, hn⟩⟩
  obtain ⟨rfl, k, w, e, rfl⟩ := y
  obtain ⟨xd, e1, e2⟩ := kv.get e
  exact ⟨S2, keyD k, Gw.refl al, by unfold selD; rw [List.getElem?_map, e1]; rfl, Rp.key k⟩
theorem walk_vals {T : Addr → Prop} {od : Obj} {kvs : List (PyData × PyData)} (h : H a = some (.frz od (.dK ts))) (kv : KvR K S H ts kvs) (ht : S a ∨ T a) : Walk K (Itd a od ts) (selD .vals kvs) T S H := by
  intro S2 H2 n u t al
  have hH : H2 a = some (.frz od (.dK ts)) := ht.elim (fun z => u.at' a _ z h) fun z => t a _ z h
  rw [selD_len, kv.len]
  refine ⟨fun hn => ⟨⟨hH, hn⟩, fun x H' y => ?_⟩, fun hn => ⟨hH, hn⟩⟩
  obtain ⟨rfl, k, e⟩ := y
  obtain ⟨xd, e1, e2⟩ := kv.get e
  exact ⟨S2, xd, Gw.refl al, by unfold selD; rw [List.getElem?_map, e1]; rfl, Rp.up u e2⟩
theorem walk_itms {T : Addr → Prop} {od : Obj} {kvs : List (PyData × PyData)} (h : H a = some (.frz od (.dK ts))) (kv : KvR K S H ts kvs) (ht : S a ∨ T a) : Walk K (Iti a od ts) (selD .itms kvs) T S H := by
  intro S2 H2 n u t al
  have hH : H2 a = some (.frz od (.dK ts)) := ht.elim (fun z => u.at' a _ z h) fun z => t a _ z h
  rw [selD_len, kv.len]
  refine ⟨fun hn => ⟨⟨hH, hn⟩, fun x H' y => ?_⟩, fun hn => ⟨hH, hn⟩⟩
  obtain ⟨T0, k, w, e, rfl, hn0, rfl⟩ := y
  obtain ⟨xd, e1, e2⟩ := kv.get e
  have r : RpL K S2 H2 [kV k, w] [keyD k, xd] := .cons (Rp.key k) (.cons (Rp.up u e2) .nil)
  exact ⟨_, _, Gw.layS al hn0, by unfold selD; rw [List.getElem?_map, e1]; rfl, lay_tup al r hn0 (by cases k <;> rfl)⟩
/-- the dict is locked: the walk -/
theorem wiD_of {R : It → Hp → Prop} (hl : ∃ a od ts, σ[i]? = some (some (V.ref a)) ∧ H a = some (.frz od (.dK ts))) (h : tI K (iDict m i) σ H R) : wiD m i σ H R := by
  obtain ⟨S, ρ, ds, ρ1, g, e, q⟩ := h
  obtain ⟨a, od, ts, hv, hf⟩ := hl
  obtain ⟨S1, b, us, kvs, g1, f1, hb, hr, nm, kv, rfl, hs⟩ := iDict_at g e
  rw [hv] at hb; cases hb
  obtain rfl : us = ts := rd_inj (.inr ⟨od, hf⟩) hr
  have hT : ∀ b, b = a → H b ≠ none ∧ ¬ Mu ρ1 σ b := fun b hb => by subst hb; exact ⟨by rw [hf]; simp, nm⟩
  cases m with
  | keys => exact ⟨_, hv, a, od, rfl, .inl ⟨us, hf, q _ S1 H (fun b => b = a) f1 g1 hT (walk_keys hf kv (.inr rfl))⟩⟩
  | vals => exact ⟨_, hv, a, od, us, rfl, hf, q _ S1 H (fun b => b = a) f1 g1 hT (walk_vals hf kv (.inr rfl))⟩
  | itms => exact ⟨_, hv, a, od, us, rfl, hf, q _ S1 H (fun b => b = a) f1 g1 hT (walk_itms hf kv (.inr rfl))⟩
end
section
variable {X : Cx} {e : Expr} {st : Stmt} {m : Wm} {i : Nat}
/-- an expression that walks a dict -/
theorem pd_lockD {C : TI → TE} {F : Mo Rs} (h : PE X e (C (wiD m i))) (mono : ∀ wi' σ H Q, (∀ R, wi' σ H R → wiD m i σ H R) → C wi' σ H Q → C (wiD m i) σ H Q) (ok : ∀ σ H Q, tD X.K F σ H Q → C (tI X.K (iDict m i)) σ H Q)
    (first : ∀ ρ r ρ', F ρ = some (r, ρ') → ∃ ds ρ1, iDict m i ρ = some (ds, ρ1) ∧ (iDict m i ρ1 = some (ds, ρ1) → F ρ1 = some (r, ρ'))) : PD X e F := by
  have both : PE X e fun σ H Q => C (wiD m i) σ H Q ∨ tLockE (C (wiD m i)) σ H Q := ⟨fun pins s σ H Q I q => q.elim (h.run pins s σ H Q I) ((pe_lock h).run pins s σ H Q I)⟩
  refine PE.to both fun σ H Q hD => ?_
  obtain ⟨S, ρ, r, ρ', G, e0, q⟩ := hD
  obtain ⟨ds, ρ1, e1, e2⟩ := first ρ r ρ' e0
  obtain ⟨_, _, _, e3, _⟩ := iDict_some e1
  obtain ⟨S1, a, ts, kvs, G1, F1, hv, hr, nm, kv, _, _⟩ := iDict_at G e1
  have e4 := e2 e3
  have n1 : Now X.K σ S ρ H S1 ρ1 H := ⟨G, F1, G1⟩
  rcases hr with hr | ⟨od, hr⟩
  · refine .inr ⟨a, .dK ts, hr, True.intro, fun od => ?_⟩
    refine mono _ σ _ _ (fun R => wiD_of ⟨a, od, ts, hv, upd_same⟩) (ok σ _ _ ⟨S1, ρ1, r, ρ', Gd.tw (tw_lock hr) nm G1, e4, fun v S' H' f' g' r' => ?_⟩)
    have hk := f'.keep a _ upd_same nm
    refine ⟨hk, q v S' _ (F1.trans (f'.unlock hr)) (Gd.tw (tw_unlock hk) (fun z => nm (f'.mu z)) g') ?_⟩
    have r2 := RR.tw (tw_unlock hk) (H0 := upd H a (.frz od (.dK ts))) (by rw [upd_same]; simp) r'
    have dom : ∀ b, (upd H a (.frz od (.dK ts))) b = none → H b = none := fun b z => by
      by_cases y : b = a
      · rw [y, upd_same] at z; cases z
      · rw [upd_ne y] at z; exact z
    cases r with
    | kept x => exact r2
    | fresh x => obtain ⟨b, h1, h2, h3⟩ := r2; exact ⟨b, h1, dom b h2, h3⟩
    | slot j => exact r2
  · refine .inl (mono _ σ _ _ (fun R => wiD_of ⟨a, od, ts, hv, hr⟩) (ok σ _ _ ⟨S1, ρ1, r, ρ', G1, e4, fun v S' H' f' g' r' => q v S' H' (F1.trans f') g' (r'.pre n1)⟩))
/-- a statement that walks a dict -/
theorem sd_lockD {C : TI → TS} {F : Mo Fl} (h : PS X st (C (wiD m i))) (mono : ∀ wi' D σ H, (∀ R, wi' σ H R → wiD m i σ H R) → C wi' D σ H → C (wiD m i) D σ H) (ok : ∀ D σ H, tS X.K F D σ H → C (tI X.K (iDict m i)) D σ H)
    (first : ∀ ρ r ρ', F ρ = some (r, ρ') → ∃ ds ρ1, iDict m i ρ = some (ds, ρ1) ∧ (iDict m i ρ1 = some (ds, ρ1) → F ρ1 = some (r, ρ'))) : SD X st F := by
  have both : PS X st fun D σ H => C (wiD m i) D σ H ∨ tLock (C (wiD m i)) D σ H := ⟨fun pins s σ H D I q => q.elim (h.run pins s σ H D I) ((ps_lock h).run pins s σ H D I)⟩
  refine PS.to both fun D σ H hD => ?_
  obtain ⟨S, ρ, fl, ρ', G, e0, q⟩ := hD
  obtain ⟨ds, ρ1, e1, e2⟩ := first ρ fl ρ' e0
  obtain ⟨_, _, _, e3, _⟩ := iDict_some e1
  obtain ⟨S1, a, ts, kvs, G1, F1, hv, hr, nm, kv, _, _⟩ := iDict_at G e1
  have e4 := e2 e3
  rcases hr with hr | ⟨od, hr⟩
  · refine .inr ⟨a, .dK ts, hr, True.intro, fun od => ?_⟩
    refine mono _ _ σ _ (fun R => wiD_of ⟨a, od, ts, hv, upd_same⟩) (ok _ σ _ ⟨S1, ρ1, fl, ρ', Gd.tw (tw_lock hr) nm G1, e4, fun σ' S' H' f' g' => ?_⟩)
    have hk := f'.keep a _ upd_same nm
    have nm' : ¬ Mu ρ' σ' a := fun z => (f'.mu z).elim nm fun y => by rw [upd_same] at y; cases y
    have fin := q σ' S' _ (F1.fs.trans (f'.unlock hr)) (Gd.tw (tw_unlock hk) nm' g')
    cases fl with
    | nx => exact ⟨hk, fin⟩
    | bk => exact ⟨hk, fin⟩
    | ct => exact ⟨hk, fin⟩
    | ret r =>
      intro v r'
      refine ⟨hk, fin v ?_⟩
      have r2 := RR.tw (tw_unlock hk) (H0 := upd H a (.frz od (.dK ts))) (by rw [upd_same]; simp) r'
      have dom : ∀ b, (upd H a (.frz od (.dK ts))) b = none → H b = none := fun b z => by
        by_cases y : b = a
        · rw [y, upd_same] at z; cases z
        · rw [upd_ne y] at z; exact z
      cases r with
      | kept x => exact r2
      | fresh x => obtain ⟨b, h1, h2, h3⟩ := r2; exact ⟨b, h1, dom b h2, h3⟩
      | slot j => exact r2
  · refine .inl (mono _ _ σ _ (fun R => wiD_of ⟨a, od, ts, hv, hr⟩) (ok _ σ _ ⟨S1, ρ1, fl, ρ', G1, e4, fun σ' S' H' f' g' => (q σ' S' H' (F1.fs.trans f') g').pre fun b hb => hb⟩))
end
section
variable {X : Cx} {x : Str} {tg elt : Expr} {ifs : List Expr} {scope : Scope} {g : G1} {t : Mo Bool} {fe : Mo Rs} {b : Mo Fl} {body : List Stmt} {np apos cpos pos : Pos} {elts : List Expr} {kk : Nat} {tpos : Pos}
theorem PI.keysV (i : Nat) (hN : X.N[i]? = some x := by rfl) (hv : Vis X.env.scope x := by first | exact Or.inl rfl | exact Or.inr (Or.inl rfl) | exact Or.inr (Or.inr rfl)) (hd : (x == ("__debug__" : Str)) = false := by decide) (hcd : (x == ("__classdict__" : Str)) = false := by decide) :
    PI X tg (.Name x np) (wiD .keys i) := pi_keys (pe_var hN hv hd hcd)
theorem PI.valsV (i : Nat) (hN : X.N[i]? = some x := by rfl) (hv : Vis X.env.scope x := by first | exact Or.inl rfl | exact Or.inr (Or.inl rfl) | exact Or.inr (Or.inr rfl)) (hd : (x == ("__debug__" : Str)) = false := by decide) (hcd : (x == ("__classdict__" : Str)) = false := by decide)
    (hbase : attributeBase (.Name x np) "values" X.env (eval (.Name x np) X.env) = eval (.Name x np) X.env := by rfl) (hline : (apos.endLine == cpos.line) = true := by rfl) :
    PI X tg (.Call (.Attribute (.Name x np) "values" apos) [] [] cpos) (wiD .vals i) := pi_values (pe_var hN hv hd hcd) hbase hline
theorem PI.itmsV (i : Nat) (hN : X.N[i]? = some x := by rfl) (hv : Vis X.env.scope x := by first | exact Or.inl rfl | exact Or.inr (Or.inl rfl) | exact Or.inr (Or.inr rfl)) (hd : (x == ("__debug__" : Str)) = false := by decide) (hcd : (x == ("__classdict__" : Str)) = false := by decide)
    (hbase : attributeBase (.Name x np) "items" X.env (eval (.Name x np) X.env) = eval (.Name x np) X.env := by rfl) (hline : (apos.endLine == cpos.line) = true := by rfl) :
    PI X (.Tuple elts kk tpos) (.Call (.Attribute (.Name x np) "items" apos) [] [] cpos) (wiD .itms i) := pi_items (pe_var hN hv hd hcd) hbase hline
variable {iter : Expr} {m : Wm} {i : Nat}
theorem sd_forD (hc : X.calm = true) (hi : PI X tg iter (wiD m i)) (hg : GD X tg g) (hb : BD X body b) (hp : PassesOwn (model X.prog X.w) X.A X.env X.xe := by exact PassesOwn.never)
    (hs : ∀ x, foldedSetIterable iter X.env x = pure x := by intro _; rfl) : SD X (.For tg iter body [] pos) (sFor (iDict m i) g b) :=
  sd_lockD (C := fun wi => tFor wi (tG X.K g) (tS X.K b)) (ps_for hp hc hi hg hb hs) (fun wi' D σ H hm h => hm _ h) (fun D σ H h => for_ok h) fun ρ r ρ' h => by
    obtain ⟨ds, ρ1, e1, e2⟩ := bindM_some h
    refine ⟨ds, ρ1, e1, fun e3 => ?_⟩
    unfold sFor bindM
    rw [e3]
    exact e2
theorem pd_lcD (own : List (Str × Nat)) (hc : X.calm = true) (hN : X.N.Nodup) (hi : PI X tg iter (wiD m i)) (ok : BlkOk X.N X.env.scope scope own) (hv : g.vs = own.map (·.2))
    (hg : ∀ (s : Shared) (H : Hp) (C : Addr) (cl : List (Str × Addr)) (fp : List Addr), GD (X.blk s H scope (compEnvC scope cl C X.env) fp) tg g) (ht : ∀ (s : Shared) (H : Hp) (C : Addr) (cl : List (Str × Addr)) (fp : List Addr), TsD (X.blk s H scope (compEnvC scope cl C X.env) fp) ifs t)
    (he : ∀ (s : Shared) (H : Hp) (C : Addr) (cl : List (Str × Addr)) (fp : List Addr), PD (X.blk s H scope (compEnvC scope cl C X.env) fp) elt fe) (hs : ∀ x, foldedSetIterable iter X.env x = pure x := by intro _; rfl) :
    PD X (.ListComp elt [⟨tg, iter, ifs, 0⟩] scope pos) (xLc (own.map (·.2)) (iDict m i) g t fe) :=
  pd_lockD (C := fun wi => tLc wi (tG X.K g) (tT X.K t) (tD X.K fe) (own.map fun p : Str × Nat => p.2)) (pe_lc hc hN hi ok hg ht he hs) (fun wi' σ H Q hm h => hm _ h) (fun σ H Q h => lc_ok hv h) fun ρ r ρ' h => by
    unfold xLc at h
    cases e1 : iDict m i ρ with
    | none => rw [e1] at h; cases h
    | some p =>
      obtain ⟨ds, ρ1⟩ := p
      refine ⟨ds, ρ1, rfl, fun e3 => ?_⟩
      rw [e1] at h
      unfold xLc
      rw [e3]
      exact h
end
end PyI

set_option maxHeartbeats 3200000
/-! PyI, part L: set(texts), and sorted of it. -/
namespace PyI
namespace SetT
open PySem PySem.Spec PyProof.Rows L2

/-- the text of an entry -/
def txt (e : Int × Value) : Str := match e.2 with
  | .str k _ => k
  | _ => Str.empty
def Fine (w : World) (e : Int × Value) : Prop := ∃ k tk, e.2 = Value.str k tk ∧ e.1 = hashStr w k
/-- the set of the texts l at a -/
structure At (w : World) (h : Heap) (a : Addr) (l : List Str) (es : Array (Int × Value)) (ep : Nat) (t : SetTable) (o : Obj) : Prop where
  ob : h.get? a = some o
  ex : o.ExactSet
  dt : o.data = .set es ep t
  fine : ∀ e ∈ es.toList, Fine w e
  nd : l.Nodup
  pm : l.Perm (es.toList.map txt)
  sz : es.size < scanBound
  fit : t.fits es.size = true
  ris : Ris t.place.toList
  led : w.params.followText "set-order" = true ∨ t.led = true
def Is (w : World) (h : Heap) (a : Addr) (l : List Str) : Prop := ∃ es ep t o, At w h a l es ep t o
section
variable {P : Program} {w : World} {h h' : Heap} {a : Addr} {l : List Str} {es : Array (Int × Value)} {ep : Nat} {t : SetTable} {o : Obj}
theorem elems {L : List (Int × Value)} (g : ∀ e ∈ L, Fine w e) : ElemsOf (PySem.strKind P w) L := fun e he => by
  obtain ⟨k, tk, x, y⟩ := g e he
  exact ⟨⟨k, by rw [x]; exact strKind_is P w k tk, y⟩, by rw [x]; rfl⟩
theorem is_iff {e : Int × Value} (g : Fine w e) (k : Str) : (PySem.strKind P w).is k e.2 = true ↔ txt e = k := by
  obtain ⟨k0, tk, x, _⟩ := g
  unfold txt
  rw [x]
  exact ⟨fun q => (PySem.strKind P w).inj (.str k0 tk) k0 k (strKind_is P w k0 tk) q, fun q => by subst q; exact strKind_is P w k0 tk⟩
theorem find_none {L : List (Int × Value)} {k : Str} (g : ∀ e ∈ L, Fine w e) (q : List.findIdx? (fun e => (PySem.strKind P w).is k e.2) L = none) : k ∉ L.map txt := fun z => by
  obtain ⟨e, he, y⟩ := List.mem_map.mp z
  have c := List.findIdx?_eq_none_iff.mp q e he
  rw [(is_iff (P := P) (g e he) k).mpr y] at c
  cases c
theorem find_some {L : List (Int × Value)} {k : Str} {j : Nat} (g : ∀ e ∈ L, Fine w e) (q : List.findIdx? (fun e => (PySem.strKind P w).is k e.2) L = some j) : k ∈ L.map txt := by
  obtain ⟨hj, pj, _⟩ := List.findIdx?_eq_some_iff_getElem.mp q
  exact List.mem_map.mpr ⟨L[j], List.getElem_mem hj, (is_iff (P := P) (g _ (List.getElem_mem hj)) k).mp pj⟩
end
/-- one text more -/
def add1 (l : List Str) (k : Str) : List Str := if k ∈ l then l else l ++ [k]
section
variable {P : Program} {w : World} {A : Around} {E : Value → Shared → Prop} {s : Shared} {a : Addr} {l : List Str}
theorem lay_tail {gv : Bool → Sem Unit} (hg : ∀ (b : Bool) (s₁ : Shared) (Q' : Unit → Shared → Prop), Q' () s₁ → wpAny (model P w) A (gv b) Q' E s₁) {o : Obj} {es es1 : Array (Int × Value)} {ep : Nat} {t t2 : SetTable} (ob : s.heap.get? a = some o) (ex : o.ExactSet) (dt : o.data = .set es ep t)
    (fine : ∀ e ∈ es1.toList, Fine w e) (nd : l.Nodup) (pm : l.Perm (es1.toList.map txt)) (sz : es1.size < scanBound) (fit : t2.fits es1.size = true) (ris : Ris t2.place.toList) (led : w.params.followText "set-order" = true ∨ t2.led = true) {wd : Bool} {R : Option Bool → Shared → Prop}
    (hR : ∀ h', Heap.SameBut a s.heap h' → Is w h' a l → R (some true) { s with heap := h' }) :
    wpAny (model P w) A (do
        storeSet a es1 t2
        if (!wd && t2.tooFull) = true then do
            gv (relayAll t2 es1 (SetTable.grown es1.size)).2.2
            storeSet a (relayAll t2 es1 (SetTable.grown es1.size)).1 (relayAll t2 es1 (SetTable.grown es1.size)).2.1
            pure (some true)
          else pure (some true)) R E s := by
  have o1 := store_at (es' := es1) (t' := t2) ob dt
  have b1 := Heap.SameBut.update s.heap a (Obj.putSet es1 t2)
  refine wpAny_bind (wpAny_storeSet_of ob dt ?_ (fits_of_scanBound sz))
  split
  · have q1 := relayAll_perm t2 es1 (SetTable.grown es1.size)
    have q2 := relayAll_fits t2 es1 (SetTable.grown es1.size)
    have q3 := relayAll_ris t2 es1 (SetTable.grown es1.size)
    have q4 := relayAll_led t2 es1 (SetTable.grown es1.size)
    generalize relayAll t2 es1 (SetTable.grown es1.size) = Y at q1 q2 q3 q4 ⊢
    obtain ⟨es2, t3, gave⟩ := Y
    dsimp only at q1 q2 q3 q4 ⊢
    have z2 : es2.size = es1.size := by rw [← Array.length_toList, q1.length_eq, Array.length_toList]
    refine wpAny_bind (hg _ _ _ (wpAny_bind (wpAny_storeSet_of o1 rfl ?_ (fits_of_scanBound (by rw [z2]; exact sz)))))
    exact wpAny_pure (hR _ (b1.trans (Heap.SameBut.update _ a _)) ⟨es2, _, t3, _, store_at (es' := es2) (t' := t3) o1 rfl, ex, rfl, fun e he => fine e (q1.mem_iff.mp he), nd, pm.trans (q1.map txt).symm, by rw [z2]; exact sz, by rw [z2] at q2 ⊢; exact q2, q3, led.imp id fun y => by rw [q4]; exact y⟩)
  · exact wpAny_pure (hR _ b1 ⟨es1, _, t2, _, o1, ex, rfl, fine, nd, pm, sz, fit, ris, led⟩)
theorem add_hashed {k : Str} {tk : Tok} {Q : Bool → Shared → Prop} (R : Is w s.heap a l) (room : l.length + 1 < scanBound) (hQ : ∀ (b : Bool) h', Heap.SameBut a s.heap h' → Is w h' a (add1 l k) → Q b { s with heap := h' }) :
    wpAny (model P w) A (setAddHashed a (.str k tk) ((PySem.strKind P w).hash k)) Q E s := by
  obtain ⟨es, ep, t, o, ob, ex, dt, fine, nd, pm, sz, fit, ris, led⟩ := R
  have key : (PySem.strKind P w).is k (.str k tk) = true := strKind_is P w k tk
  have sc : (Value.str k tk).scannable = true := rfl
  have el : ElemsOf (PySem.strKind P w) es.toList := elems fine
  have hn : es.size = l.length := by rw [pm.length_eq, List.length_map, Array.length_toList]
  unfold setAddHashed setAddHashedIn
  refine wpAny_holding (wpAny_bind (wpAny_setState_of ob dt fit ?_))
  dsimp only
  rw [byScan_of sc sz el]
  simp only [↓reduceIte]
  unfold setAddByScan
  refine wpAny_bind (wpAny_bind (wpAny_rule (wpAny_bind (wpAny_setScan_of key ob dt fit el ?_))))
  cases q : List.findIdx? (fun e => (PySem.strKind P w).is k e.2) es.toList with
  | some j =>
    dsimp only
    have m : k ∈ l := pm.mem_iff.mpr (find_some (P := P) fine q)
    have e1 : add1 l k = l := if_pos m
    exact wpAny_pure (wpAny_pure (hQ _ s.heap (Heap.SameBut.refl a s.heap) (by rw [e1]; exact ⟨es, ep, t, o, ob, ex, dt, fine, nd, pm, sz, fit, ris, led⟩)))
  | none =>
    dsimp only
    have m : k ∉ l := fun z => find_none (P := P) fine q (pm.mem_iff.mp z)
    have e1 : add1 l k = l ++ [k] := if_neg m
    have nd1 : (l ++ [k]).Nodup := List.nodup_append.mpr ⟨nd, by simp, fun x hx y hy z => by rw [List.mem_singleton] at hy; subst hy; subst z; exact m hx⟩
    have q1 := layNew_perm t es ((PySem.strKind P w).hash k) (.str k tk)
    have q2 := layNew_fits t es ((PySem.strKind P w).hash k) (.str k tk)
    have q3 := layNew_ris t es ((PySem.strKind P w).hash k) (.str k tk) ris
    have q4 := layNew_led t es ((PySem.strKind P w).hash k) (.str k tk)
    generalize layNew t es ((PySem.strKind P w).hash k) (.str k tk) = Y at q1 q2 q3 q4 ⊢
    obtain ⟨es1, t1, wd, gave⟩ := Y
    dsimp only at q1 q2 q3 q4 ⊢
    rw [Array.toList_push] at q1
    have f1 : ∀ e ∈ es1.toList, Fine w e := fun e he => by
      rcases List.mem_append.mp (q1.mem_iff.mp he) with y | y
      · exact fine e y
      · rw [List.mem_singleton.mp y]; exact ⟨k, tk, rfl, rfl⟩
    have p1 : (l ++ [k]).Perm (es1.toList.map txt) := by
      refine List.Perm.trans ?_ (q1.map txt).symm
      rw [List.map_append]
      exact pm.append_right _
    have z1 : es1.size = l.length + 1 := by rw [← Array.length_toList, q1.length_eq, List.length_append, Array.length_toList, hn]; rfl
    have s1 : es1.size < scanBound := by rw [z1]; exact room
    have l1 : w.params.followText "set-order" = true ∨ t1.led = true := led.imp id fun y => by rw [q4]; exact y
    have gw : ∀ (b : Bool) {s₁ : Shared} {Q' : Unit → Shared → Prop}, Q' () s₁ → wpAny (model P w) A (match b with | true => rule "set.scan.the-table-gave-way" | false => pure ()) Q' E s₁ := fun b _ _ y => by
      cases b
      · exact wpAny_pure y
      · exact wpAny_rule y
    refine wpAny_bind (gw _ ?_)
    split
    · refine wpAny_bind ?_
      rw [hashByValue_scannable 8 sc]
      refine wpAny_pure (lay_tail (l := l ++ [k]) ?_ ob ex dt f1 nd1 p1 s1 ?_ ?_ ?_ fun h' sb r => ?_)
      · intro b _ _ y
        cases b
        · first | exact wpAny_pure y | exact wpAny_rule y
        · first | exact wpAny_rule y | exact wpAny_pure y
      · first | exact SetTable.fits_plain_off q2 | exact q2
      · exact q3
      · exact l1
      · dsimp only
        exact wpAny_pure (hQ _ h' sb (by rw [e1]; exact r))
    · refine wpAny_bind (wpAny_pure ?_)
      simp only [↓reduceIte]
      refine lay_tail (l := l ++ [k]) ?_ ob ex dt f1 nd1 p1 s1 q2 q3 l1 fun h' sb r => ?_
      · intro b _ _ y
        cases b
        · first | exact wpAny_pure y | exact wpAny_rule y
        · first | exact wpAny_rule y | exact wpAny_pure y
      · dsimp only
        exact wpAny_pure (hQ _ h' sb (by rw [e1]; exact r))
end

/-! ### set(xs) -/
/-- the texts of the first i items, each once -/
def upTo (xs : List Str) (i : Nat) : List Str := (xs.take i).foldl add1 []
theorem upTo_zero (xs : List Str) : upTo xs 0 = [] := by simp [upTo]
theorem upTo_succ {xs : List Str} {i : Nat} {k : Str} (h : xs[i]? = some k) : upTo xs (i + 1) = add1 (upTo xs i) k := by
  unfold upTo
  rw [List.take_add_one, h, Option.toList_some, List.foldl_append]
  rfl
theorem add1_len (l : List Str) (k : Str) : (add1 l k).length ≤ l.length + 1 := by
  unfold add1
  split
  · omega
  · simp
theorem upTo_len (xs : List Str) (i : Nat) : (upTo xs i).length ≤ i := by
  induction i with
  | zero => rw [upTo_zero]; exact Nat.le_refl _
  | succ i ih =>
    cases h : xs[i]? with
    | some k =>
      rw [upTo_succ h]
      have := add1_len (upTo xs i) k
      omega
    | none =>
      have e : upTo xs (i + 1) = upTo xs i := by
        unfold upTo
        rw [List.take_add_one, h]
        simp
      rw [e]
      omega
section
variable {prog : Program} {w : World} {A : Around} {R : Result → Shared → Prop} {I : Addr} {fp wr : List Addr} {G : Array GenState → Array GenState → Prop} {n : Nat} {P : Nat → Value → Prop} {St : Nat → Shared → Prop}
theorem Is.moved {h h' : Heap} {a : Addr} {l : List Str} (x : Is w h a l) (k : ∀ o, h.get? a = some o → h'.get? a = some o) : Is w h' a l := by
  obtain ⟨es, ep, t, o, y⟩ := x
  exact ⟨es, ep, t, o, k _ y.ob, y.ex, y.dt, y.fine, y.nd, y.pm, y.sz, y.fit, y.ris, y.led⟩
theorem turns (W : WalksS prog w A.in1 I fp wr G n P St) (S : Addr) (off : S ∉ fp) (xs : List Str) (val : ∀ i v, P i v → ∃ k t, xs[i]? = some k ∧ v = .str k t) (few : n + 1 < scanBound) :
    ∀ (k i : Nat) (s : Shared), n - i = k → i ≤ n → St i s → Is w s.heap S (upTo xs i) → (∀ s', Moved (S :: wr) G s s' → Is w s'.heap S (upTo xs n) → R (.ok (.ret .none)) s') →
      codeAny (model prog w) A (.builtin "set.update.loop" ⟨[.ref S, .ref I], []⟩) R s := by
  have offw : S ∉ wr := fun h => off (W.sub _ h)
  have wide : ∀ b ∈ wr, b ∈ S :: wr := fun b hb => List.mem_cons_of_mem _ hb
  intro k
  induction k with
  | zero =>
    intro i s hk hi st is fin
    obtain rfl : i = n := by omega
    refine codeAny_builtin PyProof.Rows.F.entry_set_update_loop ?_
    rw [Around.under_plainId PyProof.Rows.F.plain_set_update_loop _]
    show wpAny _ A.in1 (pyNext (.ref I) >>= _) _ _ s
    refine wpAny_bind (W.done s _ _ st fun s' hm => ?_)
    show wpAny _ A.in1 (ret Value.none) _ _ s'
    exact wpAny_pure (fin s' (hm.mono wide) (is.moved fun o e => hm.heap S o offw e))
  | succ k ih =>
    intro i s hk hi st is fin
    have hlt : i < n := by omega
    refine codeAny_builtin PyProof.Rows.F.entry_set_update_loop ?_
    rw [Around.under_plainId PyProof.Rows.F.plain_set_update_loop _]
    show wpAny _ A.in1 (pyNext (.ref I) >>= _) _ _ s
    refine wpAny_bind (W.item i s _ _ hlt st fun v s' hP st' hm => ?_)
    obtain ⟨x, t, hx, rfl⟩ := val i v hP
    have is' : Is w s'.heap S (upTo xs i) := is.moved fun o e => hm.heap S o offw e
    show wpAny _ A.in1 (holding [Value.str x t] (setAdd S (.str x t)) >>= _) _ _ s'
    refine wpAny_bind (wpAny_holding ?_)
    unfold setAdd
    refine wpAny_holding (wpAny_bind ((PySem.strKind prog w).pyHash (k := x) (strKind_is _ _ _ _) ?_))
    have room : (upTo xs i).length + 1 < scanBound := by have := upTo_len xs i; omega
    refine add_hashed (s := { s' with toks := s'.toks + 1 }) is' room fun b h' sb is2 => ?_
    rw [← upTo_succ hx] at is2
    refine wpAny_pure ⟨plainId_quiet PyProof.Rows.F.plain_set_update_loop _, ih (i + 1) _ (by omega) hlt (W.frame _ s' _ _ st' (Nat.le_succ _) fun b hb o e => ?_) is2 fun s'' hm2 is3 => ?_⟩
    · exact (sb.2 b fun z => off (z ▸ hb)).trans e
    · exact fin s'' (Moved.trans W.gtrans ((hm.mono wide).then_heap (Nat.le_succ _) fun b o hb e => (sb.2 b fun z => hb (by rw [z]; exact List.mem_cons_self)).trans e) hm2) is3
end
section
variable {prog : Program} {w : World} {A : Around} {E : Value → Shared → Prop} {s : Shared}
theorem fresh_is {h : Heap} {a : Addr} (ho : h.get? a = some { cls := .type "set", dict := none, data := .set #[] 0 (.fresh 0 0 (!w.params.followText "set-order")) }) : Is w h a [] :=
  ⟨#[], 0, _, _, ho, ⟨rfl, rfl, rfl⟩, rfl, (fun e he => by simp at he), List.nodup_nil, .refl _, (by decide), (by rfl), List.Pairwise.nil, by
    show _ ∨ (!w.params.followText "set-order") = true
    cases w.params.followText "set-order"
    · exact .inr rfl
    · exact .inl rfl⟩
theorem made {l : Addr} {items : Array Value} {xs : List Str} {Q : Value → Shared → Prop} (hh : A.handled = none) (hl : s.heap.IsList l items) (hi : StrsAre items.toList xs) (few : xs.length + 1 < scanBound)
    (fin : ∀ (h' : Heap) (tk : Nat), Is w h' s.heap.objs.size (upTo xs xs.length) → (∀ b o, b < s.heap.objs.size → s.heap.get? b = some o → h'.get? b = some o) → Q (.ref s.heap.objs.size) { s with heap := h', toks := tk }) :
    wpAny (model prog w) A (call (.type "set") [.ref l]) Q E s := by
  have hsz : items.size = xs.length := by rw [← StrsAre.len_eq hi, Array.length_toList]
  obtain ⟨c, tl, hmro⟩ := PySem.F.called_set.mro
  have r1 := PySem.F.called_set.made
  have r2 := PySem.F.called_set.sub
  refine wpAny_call (codeAny_of_tree ?_)
  show wpAny _ _ (callAny (.type "set") _) _ _ _
  refine wpAny_pure ⟨Code.quiet_builtin _ (by decide +kernel), codeAny_builtin PySem.F.entry_type_call ?_⟩
  rw [Around.under_plain (weight_type_call_type "set" [.ref l] []) rfl]
  have r3 := PySem.F.called_set.notType
  have r4 := PySem.F.called_set.canCreate
  have r5 := PySem.F.typeCall_set_1 (.ref l)
  repeat (any_goals (first | assumption | wp_step))
  obtain ⟨N, hN⟩ : ∃ N : Obj, N = { cls := .type "set", dict := none, data := .set #[] 0 (.fresh 0 0 (!w.params.followText "set-order")) } := ⟨_, rfl⟩
  have fr : N.isFreed = false := by rw [hN]; rfl
  refine codeAny_mono (code_set_led1 (.ref l) (E := E) (Q₁ := fun ob s₁ => ob = .ref s.heap.objs.size ∧ s₁ = { s with heap := s.heap.push N }) ⟨rfl, by rw [hN]⟩) fun r s₁ hr => ?_
  cases r with
  | error e => exact hr
  | ok fl =>
    cases fl with
    | ret ob =>
      obtain ⟨rfl, rfl⟩ := hr
      have g0 : (s.heap.push N).get? s.heap.objs.size = some N := Heap.get?_push_size _ fr
      have hT : Shared.TypeIs { s with heap := s.heap.push N } (.ref s.heap.objs.size) "set" := ⟨_, g0, by rw [hN]⟩
      have r6 := PySem.F.called_set.init.lookup
      have r7 := PySem.F.called_set.init.bind (.ref s.heap.objs.size)
      repeat (any_goals (first | assumption | wp_step))
      refine codeAny_mono (codeAny_call_builtin (R := wants (fun r s₂ => r = .none ∧ ∃ h' tk, s₂ = { s with heap := h', toks := tk } ∧ Is w h' s.heap.objs.size (upTo xs xs.length) ∧ (∀ b o, b < s.heap.objs.size → s.heap.get? b = some o → h'.get? b = some o)) E)
        PySem.F.called_set.init.plain PySem.F.entry_set_init (check_set_init_1 hT ?_)) fun r₂ s₂ hr₂ => ?_
      · obtain ⟨ol, hol, hcl, nl, hdl⟩ := hl
        obtain ⟨ocls, odict, odata, oslots⟩ := ol
        simp only at hcl hdl
        subst hcl; subst hdl
        have hol' : (s.heap.push N).get? l = some { cls := .type "list", dict := odict, data := .seq items nl, slots := oslots } := Heap.get?_push_of_some _ hol
        have r8 := PySem.F.sub_list_set
        have r9 := PySem.F.sub_list_frozenset
        have hne : (Value.type "list" == Value.type "dict") = false := by decide
        have hl1 : (s.heap.push N).IsList l items := ⟨_, hol', rfl, nl, rfl⟩
        have lt : l < s.heap.objs.size := Heap.lt_size hol
        have z1 : (s.heap.push N).objs.size = s.heap.objs.size + 1 := Heap.size_push ..
        subst hN
        unfold Builtin.«set.__init__» noKeywords Builtin.Frozenset.updateFrom
        generalize hPI : pyIter = PI
        wp_walk
        subst hPI
        refine wpAny_pyIter_list hl1 ?_
        refine wpAny_bind (wpAny_runValue ?_)
        have hh3 : A.in1.in1.in1.handled = none := by simp [hh]
        have ne := z1 ▸ (show l ≠ s.heap.objs.size + 1 from Nat.ne_of_lt (Nat.lt_succ_of_lt lt))
        have off : s.heap.objs.size ∉ [s.heap.objs.size + 1, l] := by
          simp only [List.mem_cons, List.not_mem_nil, or_false, not_or]
          exact ⟨Nat.ne_of_lt (Nat.lt_succ_self _), Nat.ne_of_gt lt⟩
        have val : ∀ (i : Nat) (v : Value), items[i]? = some v → ∃ k t, xs[i]? = some k ∧ v = .str k t := fun i v hv => by
          obtain ⟨t, e⟩ := SS.strs_at hi i v (by rw [Array.getElem?_toList]; exact hv)
          have hi' : i < xs.length := by rw [← hsz]; exact (Array.getElem?_eq_some_iff.mp hv).1
          refine ⟨xs[i], t, List.getElem?_eq_getElem hi', ?_⟩
          rw [e, List.getD_eq_getElem?_getD, List.getElem?_eq_getElem hi']; rfl
        refine turns ((Walks.list hh3 _ l ne items).toS) s.heap.objs.size (by rw [z1]; exact off) xs val (by rw [hsz]; exact few) (items.size - 0) 0 _ (by omega) (Nat.zero_le _) ⟨⟨_, Heap.get?_push_size _ rfl, rfl, rfl⟩, (hl1.push _)⟩ ?_ fun s' hm is => ?_
        · rw [upTo_zero]
          exact fresh_is (Heap.get?_push_of_some _ g0)
        · obtain ⟨h', g', d', tk', os'⟩ := s'
          have e1 : g' = s.gens := hm.gens
          have e2 : d' = s.drawn := hm.drawn
          have e3 : os' = s.os := hm.os
          subst e1; subst e2; subst e3
          rw [hsz] at is
          show wpAny _ _ _ _ _ _
          refine wpAny_pure ?_
          show wpAny _ _ (ret Value.none) _ _ _
          refine wpAny_pure ⟨rfl, h', tk', rfl, is, fun b o hb e => hm.heap b o ?_ (Heap.get?_push_of_some _ (Heap.get?_push_of_some _ e))⟩
          simp only [List.mem_cons, List.not_mem_nil, or_false, not_or]
          exact ⟨Nat.ne_of_lt hb, by rw [z1]; exact Nat.ne_of_lt (Nat.lt_succ_of_lt hb)⟩
      · cases r₂ with
        | error e => exact hr₂
        | ok fl₂ =>
          cases fl₂ with
          | ret r =>
            obtain ⟨rfl, h', tk, rfl, is, kp⟩ := hr₂
            repeat (any_goals (first | assumption | wp_step))
            exact fin _ _ is kp
          | _ => exact hr₂.elim
    | _ => exact hr.elim
end

/-! ### sorted of it -/
section
variable {P : Program} {w : World} {A : Around} {E : Value → Shared → Prop} {s : Shared} {a : Addr} {l : List Str}
theorem strs_of_fine : ∀ {L : List (Int × Value)}, (∀ e ∈ L, Fine w e) → StrsAre (L.map (·.2)) (L.map txt)
  | [], _ => .nil
  | e :: L, g => by
    obtain ⟨k, tk, x, _⟩ := g e List.mem_cons_self
    rw [List.map_cons, List.map_cons]
    have e1 : txt e = k := by unfold txt; rw [x]
    rw [e1, x]
    exact .cons k tk (strs_of_fine fun e he => g e (List.mem_cons_of_mem _ he))
theorem strs_any : ∀ (vs : List Value), (∀ v ∈ vs, ∃ k tk, v = Value.str k tk) → StrsAre vs (vs.map fun v => txt (0, v))
  | [], _ => .nil
  | v :: vs, g => by
    obtain ⟨k, tk, rfl⟩ := g v List.mem_cons_self
    exact .cons k tk (strs_any vs fun v hv => g v (List.mem_cons_of_mem _ hv))
theorem sorted_is {Q : Value → Shared → Prop} (R : Is w s.heap a l) (hh : A.handled = none) (h64 : l.length < 64)
    (fin : ∀ s' p (out : Array Value) (c : Nat) (ys : List Str), (∀ b o, s.heap.get? b = some o → s'.heap.get? b = some o) → s'.gens = s.gens → s'.os = s.os → s.heap.objs.size ≤ p → s'.heap.get? p = some (seqObj "list" out c) → StrsAre out.toList ys → ys.Perm l → sortedS ys = true → Q (.ref p) s') :
    wpAny (model P w) A (call (.builtin "sorted") [.ref a]) Q E s := by
  obtain ⟨es, ep, t, o, ob, ex, dt, fine, nd, pm, sz, fit, ris, led⟩ := R
  refine Calls.call_function_entry kind_sorted plain_sorted entry_sorted (args_sorted1 _) ?_
  unfold Builtin.«sorted»
  refine wpAny_bind (m := checkCount "sorted" 1 1 _) (wpAny_pure ?_)
  refine wpAny_bind (collect_set (A := A.in1) hh ⟨o, ob, ex.1, dt⟩ fit sz ris led fun s1 vs k1 hz g1 o1 pv => ?_)
  have hvl : vs.length = l.length := by rw [pv.length_eq, List.length_map, pm.length_eq, List.length_map]
  have hS : StrsAre vs (vs.map fun v => txt (0, v)) := strs_any vs fun v hv => by
    obtain ⟨e, he, q⟩ := List.mem_map.mp (pv.mem_iff.mp hv)
    obtain ⟨k, tk, x, _⟩ := fine e he
    exact ⟨k, tk, by rw [← q]; exact x⟩
  have pk : (vs.map fun v => txt (0, v)).Perm l := by
    have q := pv.map fun v => txt (0, v)
    rw [List.map_map] at q
    exact q.trans pm.symm
  refine wpAny_bind (wpAny_newList ?_ (by rw [hvl, sizeLine_eq]; omega))
  have ho : (s1.heap.push (seqObj "list" vs.toArray 0)).get? s1.heap.objs.size = some (seqObj "list" vs.toArray 0) := Heap.get?_push_size _ rfl
  show wpAny _ _ _ _ _ { s1 with heap := s1.heap.push (seqObj "list" vs.toArray 0) }
  refine wpAny_bind (wpAny_holding (wpAny_call_entry slot_list_sort ⟨_, ho, rfl⟩ entry_list_sort
    (list_sort_treeK strKind_oneLt (s := { s1 with heap := s1.heap.push (seqObj "list" vs.toArray 0) }) ho hS.keysOf (fun v₁ v₂ rest e => keyKind_strs (by rw [← e]; exact hS)) (by rw [hvl]; exact h64) fun st' hp hs => ⟨_, rfl, ?_⟩) (args_list_sort _)))
  obtain ⟨ys, y1, y2, y3⟩ := sorted_out_str hS hp hs
  obtain ⟨c, hc⟩ := sortedHeap_at (vs := vs) (out := (arrOf st').map (·.2)) ho
  refine wpAny_pure ⟨_, rfl, fin _ s1.heap.objs.size ((arrOf st').map (·.2)) c ys (fun b u e => ?_) g1 o1 hz hc y1 (y2.trans pk) y3⟩
  have q := k1 b u e
  have lt := Heap.lt_size q
  show (sortedHeap (s1.heap.push (seqObj "list" vs.toArray 0)) s1.heap.objs.size vs ((arrOf st').map (·.2))).get? b = some u
  rw [sortedHeap_old (Nat.ne_of_lt lt) (by rw [size_push']; exact Nat.lt_succ_of_lt lt)]
  exact Heap.get?_push_of_some _ q
end
end SetT
end PyI

/-! PyI, part M: sorted(set(..)), list(script). -/
namespace PyI
open PySem PySem.Spec L2

def dedupS (xs : List Str) : List Str := xs.foldl SetT.add1 []
theorem upTo_all (xs : List Str) : SetT.upTo xs xs.length = dedupS xs := by
  unfold SetT.upTo dedupS
  rw [List.take_length]
def soSet : PyData → Option PyData
  | .list ds => (strsD ds).bind fun xs => if (dedupS xs).length < 64 ∧ xs.length < 1000 then some (.list ((sortS (dedupS xs)).map .str)) else none
  | _ => none
def tSoSet (K : PySem.W.Frag) (ta : TE) : TE := fun σ H Q => ta σ H fun x H1 => ∃ a, ∃ xs : List Str, x = .ref a ∧ SqL K H1 a (xs.map V.str) ∧ (dedupS xs).length < 64 ∧ xs.length < 1000 ∧ ∀ p, H1 p = none → Q (.ref p) (upd H1 p (.lst ((sortS (dedupS xs)).map V.str)))
theorem scan1000 {n : Nat} (h : n < 1000) : n + 1 < scanBound := by
  have : (1001 : Nat) ≤ scanBound := by decide
  omega
theorem vals_strs : ∀ {us : List Value} {ys : List Str}, PyProof.Rows.StrsAre us ys → Vals (ys.map V.str) us
  | _, _, .nil => .nil
  | _, _, .cons k t h => .cons ⟨t, rfl⟩ (vals_strs h)
section
variable {X : Cx} {a : Expr} {ta : TE} {f : Mo Rs} {p p2 q pos : Pos}
theorem pe_soSet (hc : X.calm = true) (hg : Gl X "sorted") (hm : X.mg "sorted" = none) (hv : bootBuiltins "sorted" = some (.builtin "sorted")) (hg2 : Gl X "set") (hm2 : X.mg "set" = none) (hv2 : bootBuiltins "set" = some (.type "set")) (ha : PE X a ta)
    (na : starEach [a] X.env = (false, eval a X.env) :: starEach [] X.env := by rfl) : PE X (.Call (.Name "sorted" p) [.Call (.Name "set" p2) [a] [] q] [] pos) (tSoSet X.K ta) := by
  refine ⟨fun pins s σ H Q I h => ?_⟩
  refine PyProof.Rows.Call_ (ld_blt I hg hm hv ?_)
  refine PyProof.Rows.callWith_builtin1 (PyProof.Rows.args_cons ?_ rfl) rfl rfl
  refine PyProof.Rows.Call_ (ld_blt I hg2 hm2 hv2 ?_)
  refine PyProof.Rows.callWith_type1 (PyProof.Rows.args_cons (thn (ha.run pins s σ H _ I h) fun v s1 ⟨x, H1, I1, r1, b, xs, ex, hx, h64, hk, q1⟩ => PyProof.Rows.args_nil ?_) na) na rfl
  subst ex
  cases r1
  obtain ⟨its, r, pl, hz⟩ := I1.list hx
  refine SetT.made (I1.ok.hd hc) pl.isList (by simpa using strsAre_of r) (scan1000 hk) fun h' tk is kp => PyProof.Rows.args_nil ?_
  rw [upTo_all] at is
  have I2 : Inv X pins σ H1 { s1 with heap := h', toks := tk } := I1.kept fun b o e => kp b o (Heap.lt_size e) e
  refine SetT.sorted_is (s := { s1 with heap := h', toks := tk }) is (I1.ok.hd hc) h64 fun s3 pp out c ys k3 g3 o3 hp ho hy py sy => ?_
  have hlen : ((sortS (dedupS xs)).map V.str).length ≤ sizeLine := by
    rw [List.length_map, (sortS_perm _).length_eq, sizeLine_eq]; omega
  have hn : H1 pp = none := I2.hok.fresh hp
  rw [sortS_of py sy] at hy
  have ok := I2.hok.laid k3 hp (o := .lst ((sortS (dedupS xs)).map V.str)) ⟨hlen, out.toList, c, vals_strs hy, ho⟩
  have J : Inv X pins σ (upd H1 pp (.lst ((sortS (dedupS xs)).map V.str))) { ({ s1 with heap := h', toks := tk } : Shared) with heap := s3.heap, gens := s3.gens, drawn := s3.drawn, toks := s3.toks } :=
    I2.call (ch := []) (Un.laid k3 hp hn) ok (by rw [g3]; exact I2.bare) (fun _ z => nomatch z)
  have e : s3 = { s1 with heap := s3.heap, gens := s3.gens, drawn := s3.drawn, toks := s3.toks } := by
    cases s3
    cases o3
    rfl
  rw [e]
  exact ⟨.ref pp, _, J, rfl, q1 pp hn⟩
def xSoSet (f : Mo Rs) : Mo Rs := x1 soSet f
theorem pd_soSet (hc : X.calm = true) (hg : Gl X "sorted") (hm : X.mg "sorted" = none) (hv : bootBuiltins "sorted" = some (.builtin "sorted")) (hg2 : Gl X "set") (hm2 : X.mg "set" = none) (hv2 : bootBuiltins "set" = some (.type "set")) (ha : PD X a f)
    (na : starEach [a] X.env = (false, eval a X.env) :: starEach [] X.env := by rfl) : PD X (.Call (.Name "sorted" p) [.Call (.Name "set" p2) [a] [] q] [] pos) (xSoSet f) := PE.to (pe_soSet hc hg hm hv hg2 hm2 hv2 ha na) fun σ H Q h => by
  obtain ⟨S, ρ, r, ρ', G, e, q⟩ := h
  obtain ⟨r1, ρ1, e1, e2⟩ := bindM_some e
  obtain ⟨d, ρ2, e3, e4⟩ := bindM_some e2
  obtain ⟨d', ρ3, e5, e6⟩ := bindM_some e4
  obtain ⟨b1, b2⟩ := optM_some e5
  simp only at b1 b2
  cases retM_some e6
  refine ⟨S, ρ, r1, ρ1, G, e1, fun v S1 H1 F1 G1 R1 => ?_⟩
  obtain ⟨rd, rfl⟩ := R1.rd G1 e3
  subst b2
  have n1 : Now X.K σ S ρ H S1 _ H1 := ⟨G, F1, G1⟩
  unfold soSet at b1
  split at b1
  · obtain ⟨xs, hx, b1⟩ := Option.bind_eq_some_iff.mp b1
    split at b1
    · rename_i hl
      cases b1
      obtain rfl := strsD_eq hx
      obtain ⟨a, vs, rfl, h1, p1⟩ := rd.lst
      obtain rfl := p1.strs_eq
      exact ⟨a, xs, rfl, SqL.of h1, hl.1, hl.2, fun p hp => q _ S1 _ (n1.grow (Gw.lay G1.al hp)).f (n1.grow (Gw.lay G1.al hp)).g (lay_lst G1.al (RpL.strs _) hp (n1.none0 hp))⟩
    · cases b1
  · cases b1
end

/-! ### list(script) -/
/-- the script, copied -/
def xScr (i : Nat) : Mo Rs := fun ρ => match ρ[i]? with
  | some (some (.scr, d)) => some (.fresh d, ρ)
  | _ => none
section
variable {X : Cx} {x : Str} {p np pos : Pos}
theorem pd_scr (i : Nat) (hg : Gl X "list") (hm : X.mg "list" = none) (hv : bootBuiltins "list" = some (.type "list")) (hN : X.N[i]? = some x := by rfl) (hvis : Vis X.env.scope x := by first | exact Or.inl rfl | exact Or.inr (Or.inl rfl) | exact Or.inr (Or.inr rfl)) (hd : (x == ("__debug__" : Str)) = false := by decide)
    (hcd : (x == ("__classdict__" : Str)) = false := by decide) (he : starEach [.Name x np] X.env = (false, eval (.Name x np) X.env) :: starEach [] X.env := by rfl) (hpl : (backTo pos (starEach [] X.env)).any (·.1) = false := by rfl) :
    PD X (.Call (.Name "list" p) [.Name x np] [] pos) (xScr i) := PE.to (pe_callTy call_list_of hg hm hv (pa_cons (pe_var hN hvis hd hcd) pa_nil he) (he := he) (hpl := hpl)) fun σ H Q h => by
  obtain ⟨S, ρ, r, ρ', G, e, q⟩ := h
  unfold xScr at e
  split at e
  · rename_i d hs
    cases e
    obtain ⟨v, hv, a, ns, rfl, rfl, k, _⟩ := G.sl i .scr _ hs
    exact ⟨_, hv, a, _, rfl, .inl k, fun p hp => q _ S _ (Gw.lay G.al hp).fr (G.ext (Gw.lay G.al hp)) (lay_lst G.al (RpL.ints ns) hp hp)⟩
  · cases e
end

/-! ### is True, is not True; constants of the module -/
def opIsB : PyData → PyData → Option PyData
  | .bool a, .bool b => some (.bool (decide (a = b)))
  | _, _ => none
def opNotB : PyData → PyData → Option PyData
  | .bool a, .bool b => some (.bool (!decide (a = b)))
  | _, _ => none
section
variable {X : Cx}
theorem o_isB : OpR X (compareOp .Is) (rD X.K opIsB) := by
  intro pins s σ H x y v u Q I rx ry q
  obtain ⟨S, d1, d2, d, al, r1, r2, e, q⟩ := q
  unfold opIsB at e
  split at e
  · cases e
    exact op_isBl pins s σ H x y v u Q I rx ry ⟨_, _, r1.bl, r2.bl, q _ S H (Gw.refl al) (.bl _)⟩
  · cases e
theorem o_notB : OpR X (compareOp .IsNot) (rD X.K opNotB) := by
  intro pins s σ H x y v u Q I rx ry q
  obtain ⟨S, d1, d2, d, al, r1, r2, e, q⟩ := q
  unfold opNotB at e
  split at e
  · cases e
    exact op_notBl pins s σ H x y v u Q I rx ry ⟨_, _, r1.bl, r2.bl, q _ S H (Gw.refl al) (.bl _)⟩
  · cases e
/-- a tuple of texts that the module holds -/
def ConstT (K : PySem.W.Frag) (mg : Str → Option Value) (x : Str) (xs : List Str) : Prop := ∃ a, mg x = some (.ref a) ∧ KTup K a (xs.map V.str)
theorem pd_gc {x : Str} {xs : List Str} {pos : Pos} (c : ConstT X.K X.mg x xs) (hg : Gl X x) (hd : (x == ("__debug__" : Str)) = false := by decide) (hn : pairsB (xs.map .str) = false := by rfl) (hn2 : keyB (xs.map .str) = false := by rfl) : PD X (.Name x pos) (xC (.tuple (xs.map .str))) := by
  obtain ⟨a, hm, k⟩ := c
  exact pd_of_tC (pe_glob hg hm (v := .ref a) rfl hd) fun S H => .tup (.inr k) (RpL.strs xs) (TF.no hn hn2)
end
section
variable {P : Program} {w : World} {K : PySem.W.Frag} {mg : Str → Option Value} {base : Heap} {f : Addr} {fd : FuncData} {ps : List Str} {x : Str} {fn : Fn} {k : Nat}
theorem Cl.of (F : FnOk P w K mg base CX0 k f fd ps (spI K fn)) (hm : mg x = some (.ref f)) (hk : PySem.W.keepIn K (.ref f) = true) (hb : Binds K fd ps []) : Cl P w K mg base k x fn := ⟨f, fd, ps, F, hm, hk, hb⟩
theorem fn_none : FnOk P w K mg base CX0 k f fd ps (spI K fun _ => none) := by
  refine ⟨fun vs H Q E h => ?_, fun A outer s H args us vs Q E hr he hb hv hs => ?_⟩
  · obtain ⟨_, _, _, _, _, e, _⟩ := h; cases e
  · obtain ⟨_, _, _, _, _, e, _⟩ := hs; cases e
end
/-- what a comprehension's block asks of its scope, counted -/
def blkB (N : List Str) (sc scope : Scope) (own : List (Str × Nat)) : Bool :=
  decide (scope.kind = .function) && scope.names.all (fun y => decide (scope.names.lookup y.1 = some y.2)) && own.all (fun p => decide (N[p.2]? = some p.1)) &&
    scope.names.all (fun y => !decide (y.2 = .free) || (decide (sc.names.lookup y.1 = some .cell) || decide (sc.names.lookup y.1 = some .free))) &&
    scope.names.all (fun y => !(decide (y.2 = .local) || decide (y.2 = .cell)) || (decide (y.1 ∈ own.map (·.1)) || !decide (y.1 ∈ N)))
theorem blk_ok (N : List Str) (sc : Scope) {scope : Scope} {own : List (Str × Nat)} (h : blkB N sc scope own = true) : BlkOk N sc scope own := by
  unfold blkB at h
  simp only [Bool.and_eq_true, List.all_eq_true, decide_eq_true_eq, Bool.or_eq_true, Bool.not_eq_true', decide_eq_false_iff_not, Bool.or_eq_false_iff] at h
  obtain ⟨⟨⟨⟨h1, h2⟩, h3⟩, h4⟩, h5⟩ := h
  refine ⟨h1, fun y hy => h2 y hy, fun p hp => h3 p hp, fun y hy hf => ?_, fun y hy hl => ?_⟩
  · rcases h4 y hy with z | z
    · exact absurd hf z
    · exact z
  · rcases h5 y hy with ⟨z1, z2⟩ | z
    · rcases hl with z | z
      · exact absurd z z1
      · exact absurd z z2
    · exact z
end PyI

/-! PyI, part N: the evaluator by small equations (for simp). -/
namespace PyI
open PySem PySem.Spec L2

/-! ### stages -/
def rdD (r : Rs) (ρ : Rho) : Option PyData := match r with
  | .kept d => some d
  | .fresh d => some d
  | .slot i => match ρ[i]? with
    | some (some (.scr, _)) => none
    | some (some (_, d)) => some d
    | _ => none
theorem rdR_rd (r : Rs) (ρ : Rho) : rdR r ρ = (rdD r ρ).map fun d => (d, ρ) := by
  unfold rdR rdD
  cases r with
  | kept d => rfl
  | fresh d => rfl
  | slot i =>
    dsimp only
    cases ρ[i]? with
    | none => rfl
    | some x =>
      cases x with
      | none => rfl
      | some p => obtain ⟨st, d⟩ := p; cases st <;> rfl
def rda : Option (Option (Stt × PyData)) → Option PyData
  | some (some (.scr, _)) => none
  | some (some (_, d)) => some d
  | _ => none
@[simp] theorem e_rk (d : PyData) (ρ : Rho) : rdD (.kept d) ρ = some d := (rfl)
@[simp] theorem e_rf (d : PyData) (ρ : Rho) : rdD (.fresh d) ρ = some d := (rfl)
theorem e_rs (i : Nat) (ρ : Rho) : rdD (.slot i) ρ = rda ρ[i]? := by
  unfold rdD rda
  dsimp only
@[simp] theorem e_rs0 (x : Option (Stt × PyData)) (ρ : Rho) : rdD (.slot 0) (x :: ρ) = rda (some x) := e_rs 0 _
@[simp] theorem e_rsS (i : Nat) (x : Option (Stt × PyData)) (ρ : Rho) : rdD (.slot (i + 1)) (x :: ρ) = rdD (.slot i) ρ := by rw [e_rs, e_rs]; rfl
@[simp] theorem e_ra1 (d : PyData) : rda (some (some (.shr, d))) = some d := (rfl)
@[simp] theorem e_ra2 (d : PyData) : rda (some (some (.own, d))) = some d := (rfl)
@[simp] theorem e_ra3 (d : PyData) : rda (some (some (.lent, d))) = some d := (rfl)
@[simp] theorem e_ra4 (d : PyData) : rda (some (some (.bor, d))) = some d := (rfl)
def xVa : Option (Option (Stt × PyData)) → Nat → Rho → Option (Rs × Rho)
  | some (some _), i, ρ => some (.slot i, ρ)
  | _, _, _ => none
def gi (ρ : Rho) (i : Nat) : Option (Option (Stt × PyData)) := ρ[i]?
@[simp] theorem e_g0 (x : Option (Stt × PyData)) (ρ : Rho) : gi (x :: ρ) 0 = some x := (rfl)
@[simp] theorem e_gS (i : Nat) (x : Option (Stt × PyData)) (ρ : Rho) : gi (x :: ρ) (i + 1) = gi ρ i := (rfl)
@[simp] theorem e_xV (i : Nat) (ρ : Rho) : xV i ρ = xVa (gi ρ i) i ρ := by
  unfold xV xVa gi
  cases ρ[i]? with
  | none => rfl
  | some x => cases x <;> rfl
@[simp] theorem e_xVa (p : Stt × PyData) (i : Nat) (ρ : Rho) : xVa (some (some p)) i ρ = some (.slot i, ρ) := (rfl)
@[simp] theorem e_xC (d : PyData) (ρ : Rho) : xC d ρ = some (.kept d, ρ) := (rfl)
def x2a (k : Bool) (x : Option (Rs × Rho)) (g : Mo Rs) (op : PyData → PyData → Option PyData) : Option (Rs × Rho) := match x with
  | some (r1, ρ) => (bindM g fun r2 => bindM (rdR r1) fun d1 => bindM (rdR r2) fun d2 => bindM (optM (op d1 d2)) fun d => retM (if k = true then resN d else .kept d)) ρ
  | none => none
def x2b (k : Bool) (r1 : Rs) (x : Option (Rs × Rho)) (op : PyData → PyData → Option PyData) : Option (Rs × Rho) := match x with
  | some (r2, ρ) => (bindM (rdR r1) fun d1 => bindM (rdR r2) fun d2 => bindM (optM (op d1 d2)) fun d => retM (if k = true then resN d else .kept d)) ρ
  | none => none
def x2c (k : Bool) (d1 d2 : Option PyData) (op : PyData → PyData → Option PyData) (ρ : Rho) : Option (Rs × Rho) := match d1, d2 with
  | some d1, some d2 => match op d1 d2 with
    | some d => some ((if k = true then resN d else .kept d), ρ)
    | none => none
  | _, _ => none
def x2d (k : Bool) (d : Option PyData) (ρ : Rho) : Option (Rs × Rho) := match d with
  | some d => some ((if k = true then resN d else .kept d), ρ)
  | none => none
@[simp] theorem e_x2 (f g : Mo Rs) (op : PyData → PyData → Option PyData) (ρ : Rho) : x2 f g op ρ = x2a true (f ρ) g op := by
  unfold x2 x2a
  conv => lhs; unfold bindM
  cases f ρ <;> rfl
@[simp] theorem e_x2i (f g : Mo Rs) (op : PyData → PyData → Option PyData) (ρ : Rho) : x2i f g op ρ = x2a false (f ρ) g op := by
  unfold x2i x2a
  conv => lhs; unfold bindM
  cases f ρ <;> rfl
@[simp] theorem e_x2a (k : Bool) (r : Rs) (ρ : Rho) (g : Mo Rs) (op : PyData → PyData → Option PyData) : x2a k (some (r, ρ)) g op = x2b k r (g ρ) op := by
  unfold x2a x2b
  dsimp only
  conv => lhs; unfold bindM
  cases g ρ <;> rfl
@[simp] theorem e_x2b (k : Bool) (r r2 : Rs) (ρ : Rho) (op : PyData → PyData → Option PyData) : x2b k r (some (r2, ρ)) op = x2c k (rdD r ρ) (rdD r2 ρ) op ρ := by
  unfold x2b x2c
  dsimp only
  unfold bindM
  rw [rdR_rd]
  cases rdD r ρ with
  | none => rfl
  | some d1 =>
    dsimp only [Option.map]
    rw [rdR_rd]
    cases rdD r2 ρ with
    | none => rfl
    | some d2 =>
      dsimp only [Option.map]
      unfold optM
      cases op d1 d2 <;> rfl
@[simp] theorem e_x2c (k : Bool) (d1 d2 : PyData) (op : PyData → PyData → Option PyData) (ρ : Rho) : x2c k (some d1) (some d2) op ρ = x2d k (op d1 d2) ρ := (rfl)
@[simp] theorem e_x2dt (d : PyData) (ρ : Rho) : x2d true (some d) ρ = some (resN d, ρ) := (rfl)
@[simp] theorem e_x2df (d : PyData) (ρ : Rho) : x2d false (some d) ρ = some (.kept d, ρ) := (rfl)
@[simp] theorem e_rn1 (i : Int) : resN (.int i) = .kept (.int i) := (rfl)
@[simp] theorem e_rn2 (b : Bool) : resN (.bool b) = .kept (.bool b) := (rfl)
@[simp] theorem e_rn3 (x : Str) : resN (.str x) = .kept (.str x) := (rfl)
@[simp] theorem e_rn4 : resN .none = .kept .none := (rfl)
@[simp] theorem e_rn5 (l : List PyData) : resN (.list l) = .fresh (.list l) := (rfl)
@[simp] theorem e_rn6 (l : List PyData) : resN (.tuple l) = .kept (.tuple l) := (rfl)
@[simp] theorem e_rn7 (l : List (PyData × PyData)) : resN (.dict l) = .fresh (.dict l) := (rfl)
/-! tests -/
def tVa (x : Option (Rs × Rho)) : Option (Bool × Rho) := match x with
  | some (r, ρ) => match rdD r ρ with
    | some (.bool b) => some (b, ρ)
    | _ => none
  | none => none
def tVb (d : Option PyData) (ρ : Rho) : Option (Bool × Rho) := match d with
  | some (.bool b) => some (b, ρ)
  | _ => none
@[simp] theorem e_tV (f : Mo Rs) (ρ : Rho) : tV f ρ = tVa (f ρ) := by
  unfold tV tVa bindM
  cases f ρ with
  | none => rfl
  | some p =>
    dsimp only
    rw [rdR_rd]
    cases rdD p.1 p.2 with
    | none => rfl
    | some d =>
      dsimp only [Option.map]
      unfold optM boolD
      cases d <;> rfl
@[simp] theorem e_tVa (r : Rs) (ρ : Rho) : tVa (some (r, ρ)) = tVb (rdD r ρ) ρ := (rfl)
@[simp] theorem e_tVb (b : Bool) (ρ : Rho) : tVb (some (.bool b)) ρ = some (b, ρ) := (rfl)
def tNa : Option (Bool × Rho) → Option (Bool × Rho)
  | some (b, ρ) => some (!b, ρ)
  | none => none
@[simp] theorem e_tN (f : Mo Bool) (ρ : Rho) : tNotM f ρ = tNa (f ρ) := by
  unfold tNotM tNa bindM
  cases f ρ <;> rfl
@[simp] theorem e_tNa (b : Bool) (ρ : Rho) : tNa (some (b, ρ)) = some (!b, ρ) := (rfl)
def tAa (x : Option (Bool × Rho)) (g : Mo Bool) : Option (Bool × Rho) := match x with
  | some (b, ρ) => if b = true then g ρ else some (false, ρ)
  | none => none
def tOa (x : Option (Bool × Rho)) (g : Mo Bool) : Option (Bool × Rho) := match x with
  | some (b, ρ) => if b = true then some (true, ρ) else g ρ
  | none => none
@[simp] theorem e_tA (f g : Mo Bool) (ρ : Rho) : tAndM f g ρ = tAa (f ρ) g := by
  unfold tAndM tAa bindM
  cases f ρ with
  | none => rfl
  | some p => dsimp only; split <;> rfl
@[simp] theorem e_tO (f g : Mo Bool) (ρ : Rho) : tOrM f g ρ = tOa (f ρ) g := by
  unfold tOrM tOa bindM
  cases f ρ with
  | none => rfl
  | some p => dsimp only; split <;> rfl
@[simp] theorem e_tAt (ρ : Rho) (g : Mo Bool) : tAa (some (true, ρ)) g = g ρ := (rfl)
@[simp] theorem e_tAf (ρ : Rho) (g : Mo Bool) : tAa (some (false, ρ)) g = some (false, ρ) := (rfl)
@[simp] theorem e_tOt (ρ : Rho) (g : Mo Bool) : tOa (some (true, ρ)) g = some (true, ρ) := (rfl)
@[simp] theorem e_tOf (ρ : Rho) (g : Mo Bool) : tOa (some (false, ρ)) g = g ρ := (rfl)
@[simp] theorem e_tY (ρ : Rho) : tYesM ρ = some (true, ρ) := (rfl)
/-! and, or, not, if -/
def xAa (x : Option (Bool × Rho)) (g : Mo Rs) : Option (Rs × Rho) := match x with
  | some (b, ρ) => if b = true then g ρ else some (.kept (.bool false), ρ)
  | none => none
def xOa (x : Option (Bool × Rho)) (g : Mo Rs) : Option (Rs × Rho) := match x with
  | some (b, ρ) => if b = true then some (.kept (.bool true), ρ) else g ρ
  | none => none
def xNa : Option (Bool × Rho) → Option (Rs × Rho)
  | some (b, ρ) => some (.kept (.bool (!b)), ρ)
  | none => none
def xIa (x : Option (Bool × Rho)) (f g : Mo Rs) : Option (Rs × Rho) := match x with
  | some (b, ρ) => if b = true then f ρ else g ρ
  | none => none
@[simp] theorem e_xA (f g : Mo Rs) (ρ : Rho) : xAnd f g ρ = xAa (tV f ρ) g := by
  unfold xAnd xAa bindM
  cases tV f ρ with
  | none => rfl
  | some p => dsimp only; split <;> rfl
@[simp] theorem e_xO (f g : Mo Rs) (ρ : Rho) : xOr f g ρ = xOa (tV f ρ) g := by
  unfold xOr xOa bindM
  cases tV f ρ with
  | none => rfl
  | some p => dsimp only; split <;> rfl
@[simp] theorem e_xN (f : Mo Rs) (ρ : Rho) : xNot f ρ = xNa (tV f ρ) := by
  unfold xNot xNa bindM
  cases tV f ρ <;> rfl
@[simp] theorem e_xI (t : Mo Bool) (f g : Mo Rs) (ρ : Rho) : xIf t f g ρ = xIa (t ρ) f g := by
  unfold xIf xIa bindM
  cases t ρ with
  | none => rfl
  | some p => dsimp only; split <;> rfl
@[simp] theorem e_xAt (ρ : Rho) (g : Mo Rs) : xAa (some (true, ρ)) g = g ρ := (rfl)
@[simp] theorem e_xAf (ρ : Rho) (g : Mo Rs) : xAa (some (false, ρ)) g = some (.kept (.bool false), ρ) := (rfl)
@[simp] theorem e_xOt (ρ : Rho) (g : Mo Rs) : xOa (some (true, ρ)) g = some (.kept (.bool true), ρ) := (rfl)
@[simp] theorem e_xOf (ρ : Rho) (g : Mo Rs) : xOa (some (false, ρ)) g = g ρ := (rfl)
@[simp] theorem e_xNa (b : Bool) (ρ : Rho) : xNa (some (b, ρ)) = some (.kept (.bool (!b)), ρ) := (rfl)
@[simp] theorem e_xIt (ρ : Rho) (f g : Mo Rs) : xIa (some (true, ρ)) f g = f ρ := (rfl)
@[simp] theorem e_xIf (ρ : Rho) (f g : Mo Rs) : xIa (some (false, ρ)) f g = g ρ := (rfl)
/-! arguments, displays, built-ins -/
def aCa (x : Option (Rs × Rho)) (g : Mo (List Rs)) : Option (List Rs × Rho) := match x with
  | some (r, ρ) => match g ρ with
    | some (rs, ρ') => some (r :: rs, ρ')
    | none => none
  | none => none
def aCb (r : Rs) (x : Option (List Rs × Rho)) : Option (List Rs × Rho) := match x with
  | some (rs, ρ') => some (r :: rs, ρ')
  | none => none
@[simp] theorem e_aN (ρ : Rho) : aN ρ = some ([], ρ) := (rfl)
@[simp] theorem e_aC (f : Mo Rs) (g : Mo (List Rs)) (ρ : Rho) : aC f g ρ = aCa (f ρ) g := by
  unfold aC aCa bindM
  cases f ρ with
  | none => rfl
  | some p => dsimp only; cases g p.2 <;> rfl
@[simp] theorem e_aCa (r : Rs) (ρ : Rho) (g : Mo (List Rs)) : aCa (some (r, ρ)) g = aCb r (g ρ) := (rfl)
@[simp] theorem e_aCb (r : Rs) (rs : List Rs) (ρ : Rho) : aCb r (some (rs, ρ)) = some (r :: rs, ρ) := (rfl)
def rdDs (ρ : Rho) : List Rs → Option (List PyData)
  | [] => some []
  | r :: rs => match rdD r ρ, rdDs ρ rs with
    | some d, some ds => some (d :: ds)
    | _, _ => none
@[simp] theorem e_rds0 (ρ : Rho) : rdDs ρ [] = some [] := (rfl)
def cns : Option PyData → Option (List PyData) → Option (List PyData)
  | some d, some ds => some (d :: ds)
  | _, _ => none
@[simp] theorem e_rdsS (r : Rs) (rs : List Rs) (ρ : Rho) : rdDs ρ (r :: rs) = cns (rdD r ρ) (rdDs ρ rs) := (rfl)
@[simp] theorem e_cns (d : PyData) (ds : List PyData) : cns (some d) (some ds) = some (d :: ds) := (rfl)
theorem rdL_rd (rs : List Rs) (ρ : Rho) : rdL rs ρ = (rdDs ρ rs).map fun d => (d, ρ) := by
  induction rs with
  | nil => rfl
  | cons r rs ih =>
    unfold rdL rdDs bindM
    rw [rdR_rd]
    cases rdD r ρ with
    | none => rfl
    | some d =>
      dsimp only [Option.map]
      rw [ih]
      cases rdDs ρ rs <;> rfl
def xBa (op : List PyData → Option PyData) (x : Option (List Rs × Rho)) : Option (Rs × Rho) := match x with
  | some (rs, ρ) => match rdDs ρ rs with
    | some ds => x2d true (op ds) ρ
    | none => none
  | none => none
def xBb (op : List PyData → Option PyData) (x : Option (List PyData)) (ρ : Rho) : Option (Rs × Rho) := match x with
  | some ds => x2d true (op ds) ρ
  | none => none
@[simp] theorem e_xB (op : List PyData → Option PyData) (g : Mo (List Rs)) (ρ : Rho) : xB op g ρ = xBa op (g ρ) := by
  unfold xB xBa bindM
  cases g ρ with
  | none => rfl
  | some p =>
    dsimp only
    rw [rdL_rd]
    cases rdDs p.2 p.1 with
    | none => rfl
    | some ds =>
      dsimp only [Option.map]
      unfold optM x2d
      cases op ds <;> rfl
@[simp] theorem e_xBa (op : List PyData → Option PyData) (rs : List Rs) (ρ : Rho) : xBa op (some (rs, ρ)) = xBb op (rdDs ρ rs) ρ := (rfl)
@[simp] theorem e_xBb (op : List PyData → Option PyData) (ds : List PyData) (ρ : Rho) : xBb op (some ds) ρ = x2d true (op ds) ρ := (rfl)
def x1a (op : PyData → Option PyData) (x : Option (Rs × Rho)) : Option (Rs × Rho) := match x with
  | some (r, ρ) => match rdD r ρ with
    | some d => x2d true (op d) ρ
    | none => none
  | none => none
def x1b (op : PyData → Option PyData) (x : Option PyData) (ρ : Rho) : Option (Rs × Rho) := match x with
  | some d => x2d true (op d) ρ
  | none => none
@[simp] theorem e_x1 (op : PyData → Option PyData) (f : Mo Rs) (ρ : Rho) : x1 op f ρ = x1a op (f ρ) := by
  unfold x1 x1a bindM
  cases f ρ with
  | none => rfl
  | some p =>
    dsimp only
    rw [rdR_rd]
    cases rdD p.1 p.2 with
    | none => rfl
    | some d =>
      dsimp only [Option.map]
      unfold optM x2d
      cases op d <;> rfl
@[simp] theorem e_x1a (op : PyData → Option PyData) (r : Rs) (ρ : Rho) : x1a op (some (r, ρ)) = x1b op (rdD r ρ) ρ := (rfl)
@[simp] theorem e_x1b (op : PyData → Option PyData) (d : PyData) (ρ : Rho) : x1b op (some d) ρ = x2d true (op d) ρ := (rfl)
@[simp] theorem e_so (f : Mo Rs) (ρ : Rho) : xSoSet f ρ = x1a soSet (f ρ) := e_x1 _ _ _
def xIsa (T : String) (x : Option (Rs × Rho)) : Option (Rs × Rho) := match x with
  | some (r, ρ) => match rdD r ρ with
    | some d => some (.kept (.bool (isSub (tyD d) T)), ρ)
    | none => none
  | none => none
def xIsb (T : String) (x : Option PyData) (ρ : Rho) : Option (Rs × Rho) := match x with
  | some d => some (.kept (.bool (isSub (tyD d) T)), ρ)
  | none => none
@[simp] theorem e_is (T : String) (f : Mo Rs) (ρ : Rho) : xIsi T f ρ = xIsa T (f ρ) := by
  unfold xIsi xIsa bindM
  cases f ρ with
  | none => rfl
  | some p =>
    dsimp only
    rw [rdR_rd]
    cases rdD p.1 p.2 <;> rfl
@[simp] theorem e_isa (T : String) (r : Rs) (ρ : Rho) : xIsa T (some (r, ρ)) = xIsb T (rdD r ρ) ρ := (rfl)
@[simp] theorem e_isb (T : String) (d : PyData) (ρ : Rho) : xIsb T (some d) ρ = some (.kept (.bool (isSub (tyD d) T)), ρ) := (rfl)
/-! handed on -/
def kpa : Option (Option (Stt × PyData)) → Nat → Rho → Option (PyData × Rho)
  | some (some (.shr, d)), _, ρ => some (d, ρ)
  | some (some (.own, d)), i, ρ => some (d, ρ.set i (some (.shr, d)))
  | _, _, _ => none
@[simp] theorem e_kk (d : PyData) (ρ : Rho) : keepR (.kept d) ρ = some (d, ρ) := (rfl)
@[simp] theorem e_kf (d : PyData) (ρ : Rho) : keepR (.fresh d) ρ = some (d, ρ) := (rfl)
@[simp] theorem e_ks (i : Nat) (ρ : Rho) : keepR (.slot i) ρ = kpa (gi ρ i) i ρ := by
  unfold keepR kpa gi
  dsimp only
  cases ρ[i]? with
  | none => rfl
  | some x =>
    cases x with
    | none => rfl
    | some p => obtain ⟨st, d⟩ := p; cases st <;> rfl
@[simp] theorem e_kp1 (d : PyData) (i : Nat) (ρ : Rho) : kpa (some (some (.shr, d))) i ρ = some (d, ρ) := (rfl)
@[simp] theorem e_kp2 (d : PyData) (i : Nat) (ρ : Rho) : kpa (some (some (.own, d))) i ρ = some (d, ρ.set i (some (.shr, d))) := (rfl)
def kLa (x : Option (PyData × Rho)) (rs : List Rs) : Option (List PyData × Rho) := match x with
  | some (d, ρ) => match keepL rs ρ with
    | some (ds, ρ') => some (d :: ds, ρ')
    | none => none
  | none => none
def kLb (d : PyData) (x : Option (List PyData × Rho)) : Option (List PyData × Rho) := match x with
  | some (ds, ρ') => some (d :: ds, ρ')
  | none => none
@[simp] theorem e_kL0 (ρ : Rho) : keepL [] ρ = some ([], ρ) := (rfl)
@[simp] theorem e_kLS (r : Rs) (rs : List Rs) (ρ : Rho) : keepL (r :: rs) ρ = kLa (keepR r ρ) rs := by
  show bindM (keepR r) _ ρ = _
  unfold kLa bindM
  cases keepR r ρ with
  | none => rfl
  | some p => dsimp only; cases keepL rs p.2 <;> rfl
@[simp] theorem e_kLa (d : PyData) (ρ : Rho) (rs : List Rs) : kLa (some (d, ρ)) rs = kLb d (keepL rs ρ) := (rfl)
@[simp] theorem e_kLb (d : PyData) (ds : List PyData) (ρ : Rho) : kLb d (some (ds, ρ)) = some (d :: ds, ρ) := (rfl)
/-! displays -/
def dsa (lst : Bool) (x : Option (List Rs × Rho)) : Option (Rs × Rho) := match x with
  | some (rs, ρ) => match keepL rs ρ with
    | some (ds, ρ') => if lenOk ds = true then some ((if lst = true then .fresh (.list ds) else .kept (.tuple ds)), ρ') else none
    | none => none
  | none => none
def dsb (lst : Bool) (x : Option (List PyData × Rho)) : Option (Rs × Rho) := match x with
  | some (ds, ρ') => if lenOk ds = true then some ((if lst = true then .fresh (.list ds) else .kept (.tuple ds)), ρ') else none
  | none => none
theorem few_ok {α : Type} {l : List α} (h : l.length ≤ 1000) : lenOk l = true := decide_eq_true (Nat.le_trans h (by rw [sizeLine_eq]; decide))
@[simp] theorem e_tup (g : Mo (List Rs)) (ρ : Rho) : xTup g ρ = dsa false (g ρ) := by
  unfold xTup dsa bindM
  cases g ρ with
  | none => rfl
  | some p =>
    dsimp only
    cases keepL p.1 p.2 with
    | none => rfl
    | some q => dsimp only; split <;> rfl
@[simp] theorem e_lst (g : Mo (List Rs)) (ρ : Rho) : xLst g ρ = dsa true (g ρ) := by
  unfold xLst dsa bindM
  cases g ρ with
  | none => rfl
  | some p =>
    dsimp only
    cases keepL p.1 p.2 with
    | none => rfl
    | some q => dsimp only; split <;> rfl
@[simp] theorem e_dsa (l : Bool) (rs : List Rs) (ρ : Rho) : dsa l (some (rs, ρ)) = dsb l (keepL rs ρ) := (rfl)
theorem e_dsbt (ds : List PyData) (ρ : Rho) (h : ds.length ≤ 1000) : dsb true (some (ds, ρ)) = some (.fresh (.list ds), ρ) := by
  unfold dsb
  dsimp only
  rw [if_pos (few_ok h)]; rfl
theorem e_dsbf (ds : List PyData) (ρ : Rho) (h : ds.length ≤ 1000) : dsb false (some (ds, ρ)) = some (.kept (.tuple ds), ρ) := by
  unfold dsb
  dsimp only
  rw [if_pos (few_ok h)]; rfl
@[simp] theorem e_l0 (ρ : Rho) : dsb true (some ([], ρ)) = some (.fresh (.list []), ρ) := e_dsbt _ _ (by decide)
@[simp] theorem e_l1 (a : PyData) (ρ : Rho) : dsb true (some ([a], ρ)) = some (.fresh (.list [a]), ρ) := e_dsbt _ _ (by simp)
@[simp] theorem e_l2 (a b : PyData) (ρ : Rho) : dsb true (some ([a, b], ρ)) = some (.fresh (.list [a, b]), ρ) := e_dsbt _ _ (by simp)
@[simp] theorem e_l3 (a b c : PyData) (ρ : Rho) : dsb true (some ([a, b, c], ρ)) = some (.fresh (.list [a, b, c]), ρ) := e_dsbt _ _ (by simp)
@[simp] theorem e_l4 (a b c d : PyData) (ρ : Rho) : dsb true (some ([a, b, c, d], ρ)) = some (.fresh (.list [a, b, c, d]), ρ) := e_dsbt _ _ (by simp)
@[simp] theorem e_t0 (ρ : Rho) : dsb false (some ([], ρ)) = some (.kept (.tuple []), ρ) := e_dsbf _ _ (by decide)
@[simp] theorem e_t1 (a : PyData) (ρ : Rho) : dsb false (some ([a], ρ)) = some (.kept (.tuple [a]), ρ) := e_dsbf _ _ (by simp)
@[simp] theorem e_t2 (a b : PyData) (ρ : Rho) : dsb false (some ([a, b], ρ)) = some (.kept (.tuple [a, b]), ρ) := e_dsbf _ _ (by simp)
@[simp] theorem e_t3 (a b c : PyData) (ρ : Rho) : dsb false (some ([a, b, c], ρ)) = some (.kept (.tuple [a, b, c]), ρ) := e_dsbf _ _ (by simp)
@[simp] theorem e_t4 (a b c d : PyData) (ρ : Rho) : dsb false (some ([a, b, c, d], ρ)) = some (.kept (.tuple [a, b, c, d]), ρ) := e_dsbf _ _ (by simp)
@[simp] theorem e_d0 (ρ : Rho) : xDict0 ρ = some (.fresh (.dict []), ρ) := (rfl)
/-! statements -/
def sqa (x : Option (Fl × Rho)) (g : Mo Fl) : Option (Fl × Rho) := match x with
  | some (.nx, ρ) => g ρ
  | x => x
@[simp] theorem e_sq (f g : Mo Fl) (ρ : Rho) : sSeq f g ρ = sqa (f ρ) g := (rfl)
@[simp] theorem e_sqn (ρ : Rho) (g : Mo Fl) : sqa (some (.nx, ρ)) g = g ρ := (rfl)
@[simp] theorem e_sqr (r : Rs) (ρ : Rho) (g : Mo Fl) : sqa (some (.ret r, ρ)) g = some (.ret r, ρ) := (rfl)
@[simp] theorem e_sqb (ρ : Rho) (g : Mo Fl) : sqa (some (.bk, ρ)) g = some (.bk, ρ) := (rfl)
@[simp] theorem e_sqc (ρ : Rho) (g : Mo Fl) : sqa (some (.ct, ρ)) g = some (.ct, ρ) := (rfl)
def sIa (x : Option (Bool × Rho)) (f g : Mo Fl) : Option (Fl × Rho) := match x with
  | some (b, ρ) => if b = true then f ρ else g ρ
  | none => none
@[simp] theorem e_sI (t : Mo Bool) (f g : Mo Fl) (ρ : Rho) : sIf t f g ρ = sIa (t ρ) f g := by
  unfold sIf sIa bindM
  cases t ρ with
  | none => rfl
  | some p => dsimp only; split <;> rfl
@[simp] theorem e_sIt (ρ : Rho) (f g : Mo Fl) : sIa (some (true, ρ)) f g = f ρ := (rfl)
@[simp] theorem e_sIf (ρ : Rho) (f g : Mo Fl) : sIa (some (false, ρ)) f g = g ρ := (rfl)
@[simp] theorem e_sP (ρ : Rho) : sPass ρ = some (.nx, ρ) := (rfl)
@[simp] theorem e_sB (ρ : Rho) : sBreak ρ = some (.bk, ρ) := (rfl)
@[simp] theorem e_sC (ρ : Rho) : sCont ρ = some (.ct, ρ) := (rfl)
def sRa : Option (Rs × Rho) → Option (Fl × Rho)
  | some (r, ρ) => some (.ret r, ρ)
  | none => none
@[simp] theorem e_sR (f : Mo Rs) (ρ : Rho) : sRet f ρ = sRa (f ρ) := by
  unfold sRet sRa bindM
  cases f ρ <;> rfl
@[simp] theorem e_sRa (r : Rs) (ρ : Rho) : sRa (some (r, ρ)) = some (.ret r, ρ) := (rfl)
def sDa : Option (Rs × Rho) → Option (Fl × Rho)
  | some (_, ρ) => some (.nx, ρ)
  | none => none
@[simp] theorem e_sD (f : Mo Rs) (ρ : Rho) : sDrop f ρ = sDa (f ρ) := by
  unfold sDrop sDa bindM
  cases f ρ <;> rfl
@[simp] theorem e_sDa (r : Rs) (ρ : Rho) : sDa (some (r, ρ)) = some (.nx, ρ) := (rfl)
/-- a store at a name -/
def sto (i : Nat) (x : Option (Rs × Rho)) : Option (Fl × Rho) := match x with
  | some (.kept d, ρ) => if i < ρ.length then some (.nx, ρ.set i (some (.shr, d))) else none
  | some (.fresh d, ρ) => if i < ρ.length then some (.nx, ρ.set i (some (.own, d))) else none
  | some (.slot j, ρ) => match keepR (.slot j) ρ with
    | some (d, ρ') => if i < ρ'.length then some (.nx, ρ'.set i (some (.shr, d))) else none
    | none => none
  | none => none
def stk (i : Nat) (x : Option (PyData × Rho)) : Option (Fl × Rho) := match x with
  | some (d, ρ') => if i < ρ'.length then some (.nx, ρ'.set i (some (.shr, d))) else none
  | none => none
@[simp] theorem e_st (i : Nat) (f : Mo Rs) (ρ : Rho) : sSet i f ρ = sto i (f ρ) := by
  unfold sSet sto bindM
  cases f ρ with
  | none => rfl
  | some p =>
    obtain ⟨r, ρ1⟩ := p
    dsimp only
    unfold storeR
    cases r with
    | kept d =>
      dsimp only
      by_cases hc : i < ρ1.length
      · simp only [if_pos hc]; rfl
      · simp only [if_neg hc]
    | fresh d =>
      dsimp only
      by_cases hc : i < ρ1.length
      · simp only [if_pos hc]; rfl
      · simp only [if_neg hc]
    | slot j =>
      dsimp only
      cases keepR (.slot j) ρ1 with
      | none => rfl
      | some q =>
        dsimp only
        by_cases hc : i < q.2.length
        · simp only [if_pos hc]; rfl
        · simp only [if_neg hc]
@[simp] theorem e_stk (i : Nat) (d : PyData) (ρ : Rho) : sto i (some (.kept d, ρ)) = if i < ρ.length then some (.nx, ρ.set i (some (.shr, d))) else none := (rfl)
@[simp] theorem e_stf (i : Nat) (d : PyData) (ρ : Rho) : sto i (some (.fresh d, ρ)) = if i < ρ.length then some (.nx, ρ.set i (some (.own, d))) else none := (rfl)
@[simp] theorem e_sts (i j : Nat) (ρ : Rho) : sto i (some (.slot j, ρ)) = stk i (keepR (.slot j) ρ) := (rfl)
@[simp] theorem e_stks (i : Nat) (d : PyData) (ρ : Rho) : stk i (some (d, ρ)) = if i < ρ.length then some (.nx, ρ.set i (some (.shr, d))) else none := (rfl)
/-! stores in a list or dict -/
def mua (x : Option (Option (Stt × PyData))) (j : Nat) (op : PyData → Option PyData) (ρ : Rho) : Option (Fl × Rho) := match x with
  | some (some (st, d)) => if st.mut = true then match op d with
      | some d' => some (.nx, ρ.set j (some (st, d')))
      | none => none
    else none
  | _ => none
def mub (j : Nat) (st : Stt) (x : Option PyData) (ρ : Rho) : Option (Fl × Rho) := match x with
  | some d' => some (.nx, ρ.set j (some (st, d')))
  | none => none
theorem e_mu (j : Nat) (op : PyData → Option PyData) (ρ : Rho) : bindM (mutM j op) (fun _ => retM Fl.nx) ρ = mua (gi ρ j) j op ρ := by
  unfold bindM mutM mua gi
  cases ρ[j]? with
  | none => rfl
  | some x =>
    cases x with
    | none => rfl
    | some p =>
      obtain ⟨st, d⟩ := p
      dsimp only
      by_cases hc : st.mut = true
      · simp only [if_pos hc]
        cases op d <;> rfl
      · simp only [if_neg hc]
@[simp] theorem e_muo (j : Nat) (op : PyData → Option PyData) (d : PyData) (ρ : Rho) : mua (some (some (.own, d))) j op ρ = mub j .own (op d) ρ := (rfl)
@[simp] theorem e_mul (j : Nat) (op : PyData → Option PyData) (d : PyData) (ρ : Rho) : mua (some (some (.lent, d))) j op ρ = mub j .lent (op d) ρ := (rfl)
@[simp] theorem e_mub (j : Nat) (st : Stt) (d : PyData) (ρ : Rho) : mub j st (some d) ρ = some (.nx, ρ.set j (some (st, d))) := (rfl)
def spa (j : Nat) (fi : Mo Rs) (x : Option (Rs × Rho)) : Option (Fl × Rho) := match x with
  | some (rv, ρ) => match keepR rv ρ with
    | some (v, ρ1) => (bindM (xV j) fun _ => bindM fi fun ri => bindM (rdR ri) fun i => bindM (mutM j fun d => setD d i v) fun _ => retM .nx) ρ1
    | none => none
  | none => none
def spb (j : Nat) (fi : Mo Rs) (x : Option (PyData × Rho)) : Option (Fl × Rho) := match x with
  | some (v, ρ1) => (bindM (xV j) fun _ => bindM fi fun ri => bindM (rdR ri) fun i => bindM (mutM j fun d => setD d i v) fun _ => retM .nx) ρ1
  | none => none
def spc (j : Nat) (v : PyData) (fi : Mo Rs) (x : Option (Rs × Rho)) : Option (Fl × Rho) := match x with
  | some (_, ρ) => (bindM fi fun ri => bindM (rdR ri) fun i => bindM (mutM j fun d => setD d i v) fun _ => retM .nx) ρ
  | none => none
def spd (j : Nat) (v : PyData) (x : Option (Rs × Rho)) : Option (Fl × Rho) := match x with
  | some (ri, ρ) => (bindM (rdR ri) fun i => bindM (mutM j fun d => setD d i v) fun _ => retM .nx) ρ
  | none => none
def spe (j : Nat) (v : PyData) (x : Option PyData) (ρ : Rho) : Option (Fl × Rho) := match x with
  | some i => mua (gi ρ j) j (fun d => setD d i v) ρ
  | none => none
@[simp] theorem e_sp (j : Nat) (fi fv : Mo Rs) (ρ : Rho) : sPut j fi fv ρ = spa j fi (fv ρ) := by
  unfold sPut spa
  show bindM fv _ ρ = _
  unfold bindM
  cases fv ρ with
  | none => rfl
  | some p => dsimp only; cases keepR p.1 p.2 <;> rfl
@[simp] theorem e_spa (j : Nat) (fi : Mo Rs) (rv : Rs) (ρ : Rho) : spa j fi (some (rv, ρ)) = spb j fi (keepR rv ρ) := (rfl)
@[simp] theorem e_spb (j : Nat) (fi : Mo Rs) (v : PyData) (ρ : Rho) : spb j fi (some (v, ρ)) = spc j v fi (xV j ρ) := by
  unfold spb spc
  dsimp only
  show bindM (xV j) _ ρ = _
  unfold bindM
  cases xV j ρ <;> rfl
@[simp] theorem e_spc (j : Nat) (v : PyData) (fi : Mo Rs) (r : Rs) (ρ : Rho) : spc j v fi (some (r, ρ)) = spd j v (fi ρ) := by
  unfold spc spd
  dsimp only
  show bindM fi _ ρ = _
  unfold bindM
  cases fi ρ <;> rfl
@[simp] theorem e_spd (j : Nat) (v : PyData) (r : Rs) (ρ : Rho) : spd j v (some (r, ρ)) = spe j v (rdD r ρ) ρ := by
  unfold spd spe
  dsimp only
  show bindM (rdR r) _ ρ = _
  conv => lhs; unfold bindM
  rw [rdR_rd]
  cases rdD r ρ with
  | none => rfl
  | some i => exact e_mu j _ ρ
@[simp] theorem e_spe (j : Nat) (v i : PyData) (ρ : Rho) : spe j v (some i) ρ = mua (gi ρ j) j (fun d => setD d i v) ρ := (rfl)
/-! op= -/
def aua (j : Nat) (g : Int → Int → Int) (f : Mo Rs) (x : Option PyData) (ρ : Rho) : Option (Fl × Rho) := match x with
  | some a => match f ρ with
    | some (r, ρ1) => match rdD r ρ1 with
      | some b => sto j (x2d true (augI g a b) ρ1)
      | none => none
    | none => none
  | none => none
def aub (j : Nat) (g : Int → Int → Int) (a : PyData) (x : Option (Rs × Rho)) : Option (Fl × Rho) := match x with
  | some (r, ρ1) => match rdD r ρ1 with
      | some b => sto j (x2d true (augI g a b) ρ1)
      | none => none
  | none => none
def auc (j : Nat) (g : Int → Int → Int) (a : PyData) (x : Option PyData) (ρ : Rho) : Option (Fl × Rho) := match x with
  | some b => sto j (x2d true (augI g a b) ρ)
  | none => none
theorem augI_sto (j : Nat) (g : Int → Int → Int) (a b : PyData) (ρ : Rho) : (bindM (optM (augI g a b)) fun d => bindM (storeR j (.kept d)) fun _ => retM Fl.nx) ρ = sto j (x2d true (augI g a b) ρ) := by
  cases h : augI g a b with
  | none => unfold bindM optM x2d sto; rfl
  | some d =>
    obtain ⟨i, k, rfl, rfl, rfl⟩ := augI_some h
    show bindM (storeR j (.kept _)) _ ρ = _
    unfold bindM storeR
    dsimp only
    show _ = sto j (some (.kept _, ρ))
    unfold sto
    dsimp only
    by_cases hc : j < ρ.length
    · simp only [if_pos hc]; rfl
    · simp only [if_neg hc]
@[simp] theorem e_au (j : Nat) (g : Int → Int → Int) (f : Mo Rs) (ρ : Rho) : sAug j g f ρ = aua j g f (rda (gi ρ j)) ρ := by
  unfold sAug aua
  show bindM (xV j) _ ρ = _
  conv => lhs; unfold bindM
  rw [e_xV]
  have e0 : rda (gi ρ j) = rdD (.slot j) ρ := (e_rs j ρ).symm
  cases hg : gi ρ j with
  | none => rfl
  | some x =>
    cases x with
    | none => rfl
    | some p =>
      show bindM (rdR (.slot j)) _ ρ = _
      conv => lhs; unfold bindM
      rw [rdR_rd, ← hg, e0]
      cases rdD (.slot j) ρ with
      | none => rfl
      | some a =>
        show bindM f _ ρ = _
        conv => lhs; unfold bindM
        dsimp only
        cases f ρ with
        | none => rfl
        | some q =>
          obtain ⟨r, ρ1⟩ := q
          show bindM (rdR r) _ ρ1 = auc j g a (rdD r ρ1) ρ1
          unfold auc
          conv => lhs; unfold bindM
          rw [rdR_rd]
          cases rdD r ρ1 with
          | none => rfl
          | some b => exact augI_sto j g a b ρ1
@[simp] theorem e_aua (j : Nat) (g : Int → Int → Int) (f : Mo Rs) (a : PyData) (ρ : Rho) : aua j g f (some a) ρ = aub j g a (f ρ) := (rfl)
@[simp] theorem e_aub (j : Nat) (g : Int → Int → Int) (a : PyData) (r : Rs) (ρ : Rho) : aub j g a (some (r, ρ)) = auc j g a (rdD r ρ) ρ := (rfl)
@[simp] theorem e_auc (j : Nat) (g : Int → Int → Int) (a b : PyData) (ρ : Rho) : auc j g a (some b) ρ = sto j (x2d true (augI g a b) ρ) := (rfl)
@[simp] theorem e_augI (g : Int → Int → Int) (i j : Int) : augI g (.int i) (.int j) = some (.int (g i j)) := (rfl)
end PyI

/-! PyI, part O: more equations; calls; loops by invariants. -/
namespace PyI
open PySem PySem.Spec L2

/-! ### ints -/
@[simp] theorem o_lt1 (i j : Int) : opLt (.int i) (.int j) = some (.bool (decide (i < j))) := (rfl)
@[simp] theorem o_le1 (i j : Int) : opLe (.int i) (.int j) = some (.bool (decide (i ≤ j))) := (rfl)
@[simp] theorem o_gt1 (i j : Int) : opGt (.int i) (.int j) = some (.bool (decide (j < i))) := (rfl)
@[simp] theorem o_ge1 (i j : Int) : opGe (.int i) (.int j) = some (.bool (decide (j ≤ i))) := (rfl)
@[simp] theorem o_add1 (i j : Int) : opAdd (.int i) (.int j) = some (.int (i + j)) := (rfl)
@[simp] theorem o_sub1 (i j : Int) : opSub (.int i) (.int j) = some (.int (i - j)) := (rfl)
@[simp] theorem o_neg1 (i : Int) : opNeg (.int i) = some (.int (-i)) := (rfl)
@[simp] theorem o_int1 (i : Int) : oInt [.int i] = some (.int i) := (rfl)
@[simp] theorem o_len1 (l : List PyData) : oLen [.list l] = some (.int l.length) := (rfl)
@[simp] theorem o_len2 (l : List PyData) : oLen [.tuple l] = some (.int l.length) := (rfl)
@[simp] theorem o_len3 (l : List (PyData × PyData)) (h : isM l = false) : oLen [.dict l] = some (.int l.length) := by
  show (if isM l = true then none else some (PyData.int l.length)) = _
  rw [h]; rfl
@[simp] theorem o_lst1 (l : List PyData) : oList [.list l] = some (.list l) := (rfl)
@[simp] theorem o_lst2 (l : List PyData) : oList [.tuple l] = some (.list l) := (rfl)
@[simp] theorem o_tup1 (l : List PyData) : oTuple [.list l] = some (.tuple l) := (rfl)
@[simp] theorem o_tup2 (l : List PyData) : oTuple [.tuple l] = some (.tuple l) := (rfl)
theorem o_mod1 {i j : Int} (h : 0 < j) : opMod (.int i) (.int j) = some (.int (i % j)) := if_pos h
theorem o_fdiv1 {i j : Int} (h : 0 < j) (h2 : j < 1073741824) : opFdiv (.int i) (.int j) = some (.int (i / j)) := if_pos ⟨h, h2⟩
theorem o_mul1 {i j : Int} (h : (-(2 ^ 64) < i ∧ i < 2 ^ 64) ∨ (-(2 ^ 64) < j ∧ j < 2 ^ 64)) : opMul (.int i) (.int j) = some (.int (i * j)) := if_pos h
@[simp] theorem o_eqI (i j : Int) : opEq (.int i) (.int j) = some (.bool (i == j)) := by unfold opEq; rw [eqD_int]; rfl
@[simp] theorem o_neI (i j : Int) : opNe (.int i) (.int j) = some (.bool (!(i == j))) := by unfold opNe; rw [eqD_int]; rfl
theorem eqD_str (x y : Str) : eqD (.str x) (.str y) = some (x == y) := by simp [eqD, PyData.plain, PyData.depth, PyData.eqv]
@[simp] theorem o_eqS (x y : Str) : opEq (.str x) (.str y) = some (.bool (x == y)) := by unfold opEq; rw [eqD_str]; rfl
@[simp] theorem o_neS (x y : Str) : opNe (.str x) (.str y) = some (.bool (!(x == y))) := by unfold opNe; rw [eqD_str]; rfl
@[simp] theorem o_isN1 (d : PyData) : opIsN d .none = some (.bool (isNone d)) := (rfl)
@[simp] theorem o_notN1 (d : PyData) : opNotN d .none = some (.bool (!isNone d)) := (rfl)
@[simp] theorem o_isB1 (a b : Bool) : opIsB (.bool a) (.bool b) = some (.bool (decide (a = b))) := (rfl)
@[simp] theorem o_notB1 (a b : Bool) : opNotB (.bool a) (.bool b) = some (.bool (!decide (a = b))) := (rfl)
theorem atI_nat' {α : Type} (l : List α) (i : Nat) : atI l (i : Int) = l[i]? := by
  unfold atI ixN
  rw [if_pos (by omega)]
  by_cases h : i < l.length
  · rw [if_pos (by omega)]; simp
  · rw [if_neg (by omega), List.getElem?_eq_none (by omega)]; rfl
@[simp] theorem o_ixL (l : List PyData) (i : Nat) : opIx (.list l) (.int (i : Int)) = l[i]? := atI_nat' l i
@[simp] theorem o_ixT (l : List PyData) (i : Nat) : opIx (.tuple l) (.int (i : Int)) = l[i]? := atI_nat' l i
@[simp] theorem o_ixL0 (l : List PyData) : opIx (.list l) (.int 0) = l[0]? := atI_nat' l 0
@[simp] theorem o_ixT0 (l : List PyData) : opIx (.tuple l) (.int 0) = l[0]? := atI_nat' l 0
@[simp] theorem o_ixL2 (l : List PyData) : opIx (.list l) (.int 2) = l[2]? := atI_nat' l 2
@[simp] theorem o_ixT2 (l : List PyData) : opIx (.tuple l) (.int 2) = l[2]? := atI_nat' l 2
@[simp] theorem o_ixL3 (l : List PyData) : opIx (.list l) (.int 3) = l[3]? := atI_nat' l 3
@[simp] theorem o_ixT3 (l : List PyData) : opIx (.tuple l) (.int 3) = l[3]? := atI_nat' l 3
@[simp] theorem o_ixL1 (l : List PyData) : opIx (.list l) (.int 1) = l[1]? := atI_nat' l 1
@[simp] theorem o_ixT1 (l : List PyData) : opIx (.tuple l) (.int 1) = l[1]? := atI_nat' l 1
/-! ### x[i] op= -/
def aS2 (j : Nat) (g : Int → Int → Int) (f : Mo Rs) (rj : Rs) (x : Option (Rs × Rho)) : Option (Fl × Rho) := match x with
  | some (ri, ρ) => match rdD rj ρ, rdD ri ρ with
    | some o, some i => match getD o i with
      | some a => match f ρ with
        | some (r, ρ1) => match rdD r ρ1 with
          | some b => match augI g a b with
            | some d => mua (gi ρ1 j) j (fun o' => setD o' i d) ρ1
            | none => none
          | none => none
        | none => none
      | none => none
    | _, _ => none
  | none => none
def aS3 (j : Nat) (g : Int → Int → Int) (f : Mo Rs) (o i : Option PyData) (ρ : Rho) : Option (Fl × Rho) := match o, i with
  | some o, some i => match getD o i with
      | some a => match f ρ with
        | some (r, ρ1) => match rdD r ρ1 with
          | some b => match augI g a b with
            | some d => mua (gi ρ1 j) j (fun o' => setD o' i d) ρ1
            | none => none
          | none => none
        | none => none
      | none => none
  | _, _ => none
def aS4 (j : Nat) (g : Int → Int → Int) (f : Mo Rs) (i : PyData) (a : Option PyData) (ρ : Rho) : Option (Fl × Rho) := match a with
      | some a => match f ρ with
        | some (r, ρ1) => match rdD r ρ1 with
          | some b => match augI g a b with
            | some d => mua (gi ρ1 j) j (fun o' => setD o' i d) ρ1
            | none => none
          | none => none
        | none => none
      | none => none
def aS5 (j : Nat) (g : Int → Int → Int) (i a : PyData) (x : Option (Rs × Rho)) : Option (Fl × Rho) := match x with
        | some (r, ρ1) => match rdD r ρ1 with
          | some b => match augI g a b with
            | some d => mua (gi ρ1 j) j (fun o' => setD o' i d) ρ1
            | none => none
          | none => none
        | none => none
def aS6 (j : Nat) (g : Int → Int → Int) (i a : PyData) (b : Option PyData) (ρ1 : Rho) : Option (Fl × Rho) := match b with
          | some b => match augI g a b with
            | some d => mua (gi ρ1 j) j (fun o' => setD o' i d) ρ1
            | none => none
          | none => none
def aS7 (j : Nat) (i : PyData) (d : Option PyData) (ρ1 : Rho) : Option (Fl × Rho) := match d with
            | some d => mua (gi ρ1 j) j (fun o' => setD o' i d) ρ1
            | none => none
def aS1 (j : Nat) (g : Int → Int → Int) (fi f : Mo Rs) (x : Option (Rs × Rho)) : Option (Fl × Rho) := match x with
  | some (rj, ρ) => aS2 j g f rj (fi ρ)
  | none => none
@[simp] theorem e_aS (j : Nat) (g : Int → Int → Int) (fi f : Mo Rs) (ρ : Rho) : sAugS j g fi f ρ = aS1 j g fi f (xV j ρ) := by
  unfold sAugS aS1
  show bindM (xV j) _ ρ = _
  conv => lhs; unfold bindM
  cases xV j ρ with
  | none => rfl
  | some p =>
    obtain ⟨rj, ρ0⟩ := p
    show bindM fi _ ρ0 = aS2 j g f rj (fi ρ0)
    unfold aS2
    conv => lhs; unfold bindM
    cases fi ρ0 with
    | none => rfl
    | some p =>
      obtain ⟨ri, ρ2⟩ := p
      show bindM (rdR rj) _ ρ2 = aS3 j g f (rdD rj ρ2) (rdD ri ρ2) ρ2
      unfold aS3
      conv => lhs; unfold bindM
      rw [rdR_rd]
      cases rdD rj ρ2 with
      | none => rfl
      | some o =>
        show bindM (rdR ri) _ ρ2 = _
        conv => lhs; unfold bindM
        rw [rdR_rd]
        cases rdD ri ρ2 with
        | none => rfl
        | some i =>
          show bindM (optM (getD o i)) _ ρ2 = aS4 j g f i (getD o i) ρ2
          unfold aS4
          conv => lhs; unfold bindM
          cases getD o i with
          | none => rfl
          | some a =>
            show bindM f _ ρ2 = aS5 j g i a (f ρ2)
            unfold aS5
            conv => lhs; unfold bindM
            cases f ρ2 with
            | none => rfl
            | some p =>
              obtain ⟨r, ρ3⟩ := p
              show bindM (rdR r) _ ρ3 = aS6 j g i a (rdD r ρ3) ρ3
              unfold aS6
              conv => lhs; unfold bindM
              rw [rdR_rd]
              cases rdD r ρ3 with
              | none => rfl
              | some b =>
                show bindM (optM (augI g a b)) _ ρ3 = aS7 j i (augI g a b) ρ3
                unfold aS7
                conv => lhs; unfold bindM
                cases augI g a b with
                | none => rfl
                | some d => exact e_mu j _ ρ3
@[simp] theorem e_aS1 (j : Nat) (g : Int → Int → Int) (fi f : Mo Rs) (rj : Rs) (ρ : Rho) : aS1 j g fi f (some (rj, ρ)) = aS2 j g f rj (fi ρ) := (rfl)
@[simp] theorem e_aS2 (j : Nat) (g : Int → Int → Int) (f : Mo Rs) (rj ri : Rs) (ρ : Rho) : aS2 j g f rj (some (ri, ρ)) = aS3 j g f (rdD rj ρ) (rdD ri ρ) ρ := (rfl)
@[simp] theorem e_aS3 (j : Nat) (g : Int → Int → Int) (f : Mo Rs) (o i : PyData) (ρ : Rho) : aS3 j g f (some o) (some i) ρ = aS4 j g f i (getD o i) ρ := (rfl)
@[simp] theorem e_aS4 (j : Nat) (g : Int → Int → Int) (f : Mo Rs) (i a : PyData) (ρ : Rho) : aS4 j g f i (some a) ρ = aS5 j g i a (f ρ) := (rfl)
@[simp] theorem e_aS5 (j : Nat) (g : Int → Int → Int) (i a : PyData) (r : Rs) (ρ : Rho) : aS5 j g i a (some (r, ρ)) = aS6 j g i a (rdD r ρ) ρ := (rfl)
@[simp] theorem e_aS6 (j : Nat) (g : Int → Int → Int) (i a b : PyData) (ρ : Rho) : aS6 j g i a (some b) ρ = aS7 j i (augI g a b) ρ := (rfl)
@[simp] theorem e_aS7 (j : Nat) (i d : PyData) (ρ : Rho) : aS7 j i (some d) ρ = mua (gi ρ j) j (fun o' => setD o' i d) ρ := (rfl)
/-! ### places of lists -/
theorem getD_nat (l : List PyData) (i : Nat) : getD (.list l) (.int (i : Int)) = l[i]? := atI_nat' l i
@[simp] theorem o_gd0 (l : List PyData) : getD (.list l) (.int 0) = l[0]? := getD_nat l 0
@[simp] theorem o_gd1 (l : List PyData) : getD (.list l) (.int 1) = l[1]? := getD_nat l 1
@[simp] theorem o_gd2 (l : List PyData) : getD (.list l) (.int 2) = l[2]? := getD_nat l 2
@[simp] theorem o_gd3 (l : List PyData) : getD (.list l) (.int 3) = l[3]? := getD_nat l 3
theorem setD_nat {l : List PyData} {i : Nat} (h : i < l.length) (v : PyData) : setD (.list l) (.int (i : Int)) v = some (.list (l.set i v)) := by
  show Option.map _ (ixN l.length (i : Int)) = _
  unfold ixN
  rw [if_pos (by omega), if_pos (by omega)]
  simp
theorem setD_0 {l : List PyData} (v : PyData) (h : 0 < l.length) : setD (.list l) (.int 0) v = some (.list (l.set 0 v)) := setD_nat h v
theorem setD_1 {l : List PyData} (v : PyData) (h : 1 < l.length) : setD (.list l) (.int 1) v = some (.list (l.set 1 v)) := setD_nat h v
theorem setD_2 {l : List PyData} (v : PyData) (h : 2 < l.length) : setD (.list l) (.int 2) v = some (.list (l.set 2 v)) := setD_nat h v
theorem setD_3 {l : List PyData} (v : PyData) (h : 3 < l.length) : setD (.list l) (.int 3) v = some (.list (l.set 3 v)) := setD_nat h v
/-! ### targets -/
def gca (x : Option (Unit × Rho)) (gs : G2) (ds : List PyData) : Option (Unit × Rho) := match x with
  | some (_, ρ) => gs.run ds ρ
  | none => none
@[simp] theorem e_gN (i : Nat) (d : PyData) (ρ : Rho) : (gN i).run d ρ = if i < ρ.length then some ((), ρ.set i (some (.shr, d))) else none := (rfl)
@[simp] theorem e_gT (gs : G2) (ds : List PyData) (ρ : Rho) : (gT gs).run (.tuple ds) ρ = gs.run ds ρ := (rfl)
@[simp] theorem e_gC (g : G1) (gs : G2) (d : PyData) (ds : List PyData) (ρ : Rho) : (gsC g gs).run (d :: ds) ρ = gca (g.run d ρ) gs ds := by
  show bindM (g.run d) _ ρ = _
  unfold bindM gca
  cases g.run d ρ <;> rfl
@[simp] theorem e_gca (ρ : Rho) (gs : G2) (ds : List PyData) : gca (some ((), ρ)) gs ds = gs.run ds ρ := (rfl)
@[simp] theorem e_gs0 (ρ : Rho) : gsN.run [] ρ = some ((), ρ) := (rfl)
def upa (g : G1) (x : Option (Rs × Rho)) : Option (Fl × Rho) := match x with
  | some (r, ρ) => match keepR r ρ with
    | some (d, ρ1) => match g.run d ρ1 with
      | some (_, ρ2) => some (.nx, ρ2)
      | none => none
    | none => none
  | none => none
def upb (g : G1) (x : Option (PyData × Rho)) : Option (Fl × Rho) := match x with
    | some (d, ρ1) => match g.run d ρ1 with
      | some (_, ρ2) => some (.nx, ρ2)
      | none => none
    | none => none
def upc (x : Option (Unit × Rho)) : Option (Fl × Rho) := match x with
      | some (_, ρ2) => some (.nx, ρ2)
      | none => none
@[simp] theorem e_up (f : Mo Rs) (g : G1) (ρ : Rho) : sUnp f g ρ = upa g (f ρ) := by
  unfold sUnp upa
  show bindM f _ ρ = _
  conv => lhs; unfold bindM
  cases f ρ with
  | none => rfl
  | some p =>
    obtain ⟨r, ρ0⟩ := p
    show bindM (keepR r) _ ρ0 = upb g (keepR r ρ0)
    unfold upb
    conv => lhs; unfold bindM
    cases keepR r ρ0 with
    | none => rfl
    | some q =>
      obtain ⟨d, ρ1⟩ := q
      show bindM (g.run d) _ ρ1 = upc (g.run d ρ1)
      unfold upc bindM
      cases g.run d ρ1 <;> rfl
@[simp] theorem e_upa (g : G1) (r : Rs) (ρ : Rho) : upa g (some (r, ρ)) = upb g (keepR r ρ) := (rfl)
@[simp] theorem e_upb (g : G1) (d : PyData) (ρ : Rho) : upb g (some (d, ρ)) = upc (g.run d ρ) := (rfl)
@[simp] theorem e_upc (ρ : Rho) : upc (some ((), ρ)) = some (.nx, ρ) := (rfl)
/-! ### d.get(k, x) -/
def gta (fk fx : Mo Rs) (x : Option (Rs × Rho)) : Option (Rs × Rho) := match x with
  | some (r, ρ) => xGet2 (fun _ => some (r, ρ)) fk fx ρ
  | none => none
def gtb (r : Rs) (o : Option PyData) (fk fx : Mo Rs) (ρ : Rho) : Option (Rs × Rho) := match o with
  | some (.dict _) => (bindM fk fun rk => bindM fx fun rx => bindM (rdR rk) fun k => bindM (rdR r) fun o => bindM (keepR rx) fun x => bindM (optM (getK o k)) fun y => retM (.kept (y.getD x))) ρ
  | _ => none
def gtc (r : Rs) (fx : Mo Rs) (x : Option (Rs × Rho)) : Option (Rs × Rho) := match x with
  | some (rk, ρ) => (bindM fx fun rx => bindM (rdR rk) fun k => bindM (rdR r) fun o => bindM (keepR rx) fun x => bindM (optM (getK o k)) fun y => retM (.kept (y.getD x))) ρ
  | none => none
def gtd (r rk : Rs) (x : Option (Rs × Rho)) : Option (Rs × Rho) := match x with
  | some (rx, ρ) => match rdD rk ρ, rdD r ρ with
    | some k, some o => match keepR rx ρ with
      | some (x, ρ1) => match getK o k with
        | some y => some (.kept (y.getD x), ρ1)
        | none => none
      | none => none
    | _, _ => none
  | none => none
def gte (k o : Option PyData) (rx : Rs) (ρ : Rho) : Option (Rs × Rho) := match k, o with
    | some k, some o => match keepR rx ρ with
      | some (x, ρ1) => match getK o k with
        | some y => some (.kept (y.getD x), ρ1)
        | none => none
      | none => none
    | _, _ => none
def gtf (k o : PyData) (x : Option (PyData × Rho)) : Option (Rs × Rho) := match x with
      | some (x, ρ1) => match getK o k with
        | some y => some (.kept (y.getD x), ρ1)
        | none => none
      | none => none
@[simp] theorem e_gt (f fk fx : Mo Rs) (ρ : Rho) : xGet2 f fk fx ρ = gta fk fx (f ρ) := by
  unfold gta xGet2
  conv => lhs; unfold bindM
  cases f ρ <;> rfl
theorem e_gta0 (fk fx : Mo Rs) (r : Rs) (ρ : Rho) : gta fk fx (some (r, ρ)) = gtb r (rdD r ρ) fk fx ρ := by
  unfold gta xGet2
  dsimp only
  show bindM (rdR r) _ ρ = _
  conv => lhs; unfold bindM
  rw [rdR_rd]
  unfold gtb
  cases rdD r ρ with
  | none => rfl
  | some o => cases o <;> rfl
@[simp] theorem e_gta (fk fx : Mo Rs) (r : Rs) (ρ : Rho) : gta fk fx (some (r, ρ)) = gtb r (rdD r ρ) fk fx ρ := e_gta0 _ _ _ _
@[simp] theorem e_gtb (r : Rs) (kvs : List (PyData × PyData)) (fk fx : Mo Rs) (ρ : Rho) : gtb r (some (.dict kvs)) fk fx ρ = gtc r fx (fk ρ) := by
  unfold gtb gtc
  dsimp only
  conv => lhs; unfold bindM
  cases fk ρ <;> rfl
@[simp] theorem e_gtc (r rk : Rs) (fx : Mo Rs) (ρ : Rho) : gtc r fx (some (rk, ρ)) = gtd r rk (fx ρ) := by
  unfold gtc
  dsimp only
  conv => lhs; unfold bindM
  cases fx ρ with
  | none => rfl
  | some p =>
    obtain ⟨rx, ρ0⟩ := p
    show bindM (rdR rk) _ ρ0 = gte (rdD rk ρ0) (rdD r ρ0) rx ρ0
    unfold gte
    conv => lhs; unfold bindM
    rw [rdR_rd]
    cases rdD rk ρ0 with
    | none => rfl
    | some k =>
      show bindM (rdR r) _ ρ0 = _
      conv => lhs; unfold bindM
      rw [rdR_rd]
      cases rdD r ρ0 with
      | none => rfl
      | some o =>
        show bindM (keepR rx) _ ρ0 = gtf k o (keepR rx ρ0)
        unfold gtf
        conv => lhs; unfold bindM
        cases keepR rx ρ0 with
        | none => rfl
        | some q =>
          obtain ⟨x, ρ1⟩ := q
          show bindM (optM (getK o k)) _ ρ1 = _
          unfold bindM
          cases getK o k <;> rfl
@[simp] theorem e_gtd (r rk rx : Rs) (ρ : Rho) : gtd r rk (some (rx, ρ)) = gte (rdD rk ρ) (rdD r ρ) rx ρ := (rfl)
@[simp] theorem e_gte (k o : PyData) (rx : Rs) (ρ : Rho) : gte (some k) (some o) rx ρ = gtf k o (keepR rx ρ) := (rfl)
def gtg (y : Option (Option PyData)) (x : PyData) (ρ : Rho) : Option (Rs × Rho) := match y with
        | some y => some (.kept (y.getD x), ρ)
        | none => none
@[simp] theorem e_gtf (k o x : PyData) (ρ : Rho) : gtf k o (some (x, ρ)) = gtg (getK o k) x ρ := (rfl)
@[simp] theorem e_gtg (y : Option PyData) (x : PyData) (ρ : Rho) : gtg (some y) x ρ = some (.kept (y.getD x), ρ) := (rfl)
@[simp] theorem e_gK (kvs : List (PyData × PyData)) (x : Str) (h : isM kvs = false) : getK (.dict kvs) (.str x) = some (lookD (.str x) kvs) := by
  unfold getK
  dsimp only
  rw [h]; rfl
@[simp] theorem o_ixD (kvs : List (PyData × PyData)) (x : Str) : opIx (.dict kvs) (.str x) = lookD (.str x) kvs := (rfl)
@[simp] theorem o_inD (kvs : List (PyData × PyData)) (x : Str) (h : isM kvs = false) : opInA (.str x) (.dict kvs) = some (.bool (lookD (.str x) kvs).isSome) := by
  unfold opInA anyIn inKD
  dsimp only
  rw [h]; rfl
@[simp] theorem o_ninD (kvs : List (PyData × PyData)) (x : Str) (h : isM kvs = false) : opNotInA (.str x) (.dict kvs) = some (.bool (!(lookD (.str x) kvs).isSome)) := by
  unfold opNotInA anyIn inKD
  dsimp only
  rw [h]; rfl
/-! ### the methods that change -/
def mta (T : String) (j : Nat) (op : PyData → List PyData → Option (PyData × PyData)) (g : Mo (List Rs)) (x : Option (Option (Stt × PyData))) (ρ : Rho) : Option (Rs × Rho) := match x with
  | some (some (st, d)) => if st.mut = true ∧ tyD d = T then match g ρ with
      | some (rs, ρ1) => match keepL rs ρ1 with
        | some (ds, ρ2) => mutR j (fun d => op d ds) ρ2
        | none => none
      | none => none
    else none
  | _ => none
def mtb (j : Nat) (op : PyData → List PyData → Option (PyData × PyData)) (x : Option (List Rs × Rho)) : Option (Rs × Rho) := match x with
      | some (rs, ρ1) => match keepL rs ρ1 with
        | some (ds, ρ2) => mutR j (fun d => op d ds) ρ2
        | none => none
      | none => none
def mtc (j : Nat) (op : PyData → List PyData → Option (PyData × PyData)) (x : Option (List PyData × Rho)) : Option (Rs × Rho) := match x with
        | some (ds, ρ2) => mutR j (fun d => op d ds) ρ2
        | none => none
def mtd (j : Nat) (op : PyData → List PyData → Option (PyData × PyData)) (ds : List PyData) (x : Option (Option (Stt × PyData))) (ρ : Rho) : Option (Rs × Rho) := match x with
  | some (some (st, d)) => if st.mut = true then match op d ds with
      | some (d', rt) => some (.kept rt, ρ.set j (some (st, d')))
      | none => none
    else none
  | _ => none
def mte (j : Nat) (st : Stt) (x : Option (PyData × PyData)) (ρ : Rho) : Option (Rs × Rho) := match x with
      | some (d', rt) => some (.kept rt, ρ.set j (some (st, d')))
      | none => none
@[simp] theorem e_mt (T : String) (j : Nat) (op : PyData → List PyData → Option (PyData × PyData)) (g : Mo (List Rs)) (ρ : Rho) : xMut T j op g ρ = mta T j op g (gi ρ j) ρ := by
  unfold xMut mta gi
  show bindM (chkT T j) _ ρ = _
  conv => lhs; unfold bindM chkT
  cases ρ[j]? with
  | none => rfl
  | some x =>
    cases x with
    | none => rfl
    | some p =>
      obtain ⟨st, d⟩ := p
      dsimp only
      by_cases hc : st.mut = true ∧ tyD d = T
      · simp only [if_pos hc]
        cases g ρ with
        | none => rfl
        | some q =>
          obtain ⟨rs, ρ1⟩ := q
          dsimp only
          cases keepL rs ρ1 with
          | none => rfl
          | some z => rfl
      · simp only [if_neg hc]
theorem e_mta0 (T : String) (j : Nat) (op : PyData → List PyData → Option (PyData × PyData)) (g : Mo (List Rs)) (st : Stt) (d : PyData) (ρ : Rho) (h1 : st.mut = true) (h2 : tyD d = T) : mta T j op g (some (some (st, d))) ρ = mtb j op (g ρ) := if_pos ⟨h1, h2⟩
@[simp] theorem e_mtal (j : Nat) (op : PyData → List PyData → Option (PyData × PyData)) (g : Mo (List Rs)) (l : List PyData) (ρ : Rho) : mta "list" j op g (some (some (.own, .list l))) ρ = mtb j op (g ρ) := e_mta0 _ _ _ _ _ _ _ rfl rfl
@[simp] theorem e_mtal2 (j : Nat) (op : PyData → List PyData → Option (PyData × PyData)) (g : Mo (List Rs)) (l : List PyData) (ρ : Rho) : mta "list" j op g (some (some (.lent, .list l))) ρ = mtb j op (g ρ) := e_mta0 _ _ _ _ _ _ _ rfl rfl
@[simp] theorem e_mtad (j : Nat) (op : PyData → List PyData → Option (PyData × PyData)) (g : Mo (List Rs)) (l : List (PyData × PyData)) (ρ : Rho) : mta "dict" j op g (some (some (.own, .dict l))) ρ = mtb j op (g ρ) := e_mta0 _ _ _ _ _ _ _ rfl rfl
@[simp] theorem e_mtb (j : Nat) (op : PyData → List PyData → Option (PyData × PyData)) (rs : List Rs) (ρ : Rho) : mtb j op (some (rs, ρ)) = mtc j op (keepL rs ρ) := (rfl)
@[simp] theorem e_mtc (j : Nat) (op : PyData → List PyData → Option (PyData × PyData)) (ds : List PyData) (ρ : Rho) : mtc j op (some (ds, ρ)) = mtd j op ds (gi ρ j) ρ := by
  unfold mtc mtd mutR gi
  dsimp only
  all_goals
    cases ρ[j]? with
    | none => rfl
    | some x =>
      cases x with
      | none => rfl
      | some p => rfl
@[simp] theorem e_mtd (j : Nat) (op : PyData → List PyData → Option (PyData × PyData)) (ds : List PyData) (d : PyData) (ρ : Rho) : mtd j op ds (some (some (.own, d))) ρ = mte j .own (op d ds) ρ := (rfl)
@[simp] theorem e_mtd2 (j : Nat) (op : PyData → List PyData → Option (PyData × PyData)) (ds : List PyData) (d : PyData) (ρ : Rho) : mtd j op ds (some (some (.lent, d))) ρ = mte j .lent (op d ds) ρ := (rfl)
@[simp] theorem e_mte (j : Nat) (st : Stt) (d rt : PyData) (ρ : Rho) : mte j st (some (d, rt)) ρ = some (.kept rt, ρ.set j (some (st, d))) := (rfl)
/-! ### calls of defs -/
def ava : Option (Option (Stt × PyData)) → Option (Stt × PyData)
  | some (some (.shr, d)) => some (.shr, d)
  | some (some (.own, d)) => some (.bor, d)
  | some (some (.lent, d)) => some (.bor, d)
  | some (some (.bor, d)) => some (.bor, d)
  | some (some (.scr, d)) => some (.scr, d)
  | _ => none
def ala : Option (Option (Stt × PyData)) → Option (Stt × PyData)
  | some (some (.own, d)) => some (.lent, d)
  | some (some (.lent, d)) => some (.lent, d)
  | _ => none
@[simp] theorem e_avk (d : PyData) (ρ : Rho) : argV (.kept d) ρ = some (.shr, d) := (rfl)
@[simp] theorem e_avf (d : PyData) (ρ : Rho) : argV (.fresh d) ρ = some (.shr, d) := (rfl)
@[simp] theorem e_avs (i : Nat) (ρ : Rho) : argV (.slot i) ρ = ava (gi ρ i) := by
  unfold argV ava gi
  dsimp only
  all_goals
    cases ρ[i]? with
    | none => rfl
    | some x =>
      cases x with
      | none => rfl
      | some p => obtain ⟨st, d⟩ := p; cases st <;> rfl
@[simp] theorem e_als (i : Nat) (ρ : Rho) : argL (.slot i) ρ = ala (gi ρ i) := by
  unfold argL ala gi
  dsimp only
  all_goals
    cases ρ[i]? with
    | none => rfl
    | some x =>
      cases x with
      | none => rfl
      | some p => obtain ⟨st, d⟩ := p; cases st <;> rfl
@[simp] theorem e_av1 (d : PyData) : ava (some (some (.shr, d))) = some (.shr, d) := (rfl)
@[simp] theorem e_av2 (d : PyData) : ava (some (some (.own, d))) = some (.bor, d) := (rfl)
@[simp] theorem e_av3 (d : PyData) : ava (some (some (.bor, d))) = some (.bor, d) := (rfl)
@[simp] theorem e_av4 (d : PyData) : ava (some (some (.lent, d))) = some (.bor, d) := (rfl)
@[simp] theorem e_al1 (d : PyData) : ala (some (some (.own, d))) = some (.lent, d) := (rfl)
@[simp] theorem e_al2 (d : PyData) : ala (some (some (.lent, d))) = some (.lent, d) := (rfl)
def acn : Option (Stt × PyData) → Option (List (Stt × PyData)) → Option (List (Stt × PyData))
  | some a, some l => some (a :: l)
  | _, _ => none
@[simp] theorem e_avs0 (ρ : Rho) (b : Bool) : argVs ρ b [] = some [] := (rfl)
@[simp] theorem e_avsS (ρ : Rho) (r : Rs) (rs : List Rs) : argVs ρ false (r :: rs) = acn (argV r ρ) (argVs ρ false rs) := (rfl)
@[simp] theorem e_avsL (ρ : Rho) (r : Rs) (rs : List Rs) : argVs ρ true (r :: rs) = acn (argL r ρ) (argVs ρ false rs) := (rfl)
@[simp] theorem e_acn (a : Stt × PyData) (l : List (Stt × PyData)) : acn (some a) (some l) = some (a :: l) := (rfl)
def hda : Option (Option (Stt × PyData)) → Bool
  | some (some (st, _)) => st.hold
  | _ => false
@[simp] theorem e_nc0 (ρ : Rho) : noClash ρ [] = true := (rfl)
@[simp] theorem e_ncS (ρ : Rho) (r : Rs) (rs : List Rs) : noClash ρ (r :: rs) = (rs.all (fun r' => !clash ρ r r') && noClash ρ rs) := (rfl)
@[simp] theorem e_clk (ρ : Rho) (d : PyData) (r : Rs) : clash ρ (.kept d) r = false := (rfl)
@[simp] theorem e_clf (ρ : Rho) (d : PyData) (r : Rs) : clash ρ (.fresh d) r = false := (rfl)
@[simp] theorem e_clsk (ρ : Rho) (d : PyData) (i : Nat) : clash ρ (.slot i) (.kept d) = false := (rfl)
@[simp] theorem e_clsf (ρ : Rho) (d : PyData) (i : Nat) : clash ρ (.slot i) (.fresh d) = false := (rfl)
@[simp] theorem e_cls (ρ : Rho) (i j : Nat) : clash ρ (.slot i) (.slot j) = (i == j && hda (gi ρ i)) := by
  unfold clash hda gi
  dsimp only
  all_goals
    cases ρ[i]? with
    | none => rfl
    | some x => cases x <;> rfl
@[simp] theorem e_hd1 (d : PyData) : hda (some (some (.shr, d))) = false := (rfl)
def cla (fn : Fn) (x : Option (List Rs × Rho)) : Option (Rs × Rho) := match x with
  | some (rs, ρ) => match argVs ρ false rs with
    | some args => if noClash ρ rs = true then match fn args with
        | some (.kept d, _) => some (.kept d, ρ)
        | some (.fresh d, _) => some (.fresh d, ρ)
        | _ => none
      else none
    | none => none
  | none => none
def clb (fn : Fn) (a : Option (List (Stt × PyData))) (nc : Bool) (ρ : Rho) : Option (Rs × Rho) := match a with
    | some args => if nc = true then match fn args with
        | some (.kept d, _) => some (.kept d, ρ)
        | some (.fresh d, _) => some (.fresh d, ρ)
        | _ => none
      else none
    | none => none
def clc (x : Option (Rs × Option PyData)) (ρ : Rho) : Option (Rs × Rho) := match x with
        | some (.kept d, _) => some (.kept d, ρ)
        | some (.fresh d, _) => some (.fresh d, ρ)
        | _ => none
@[simp] theorem e_cl (fn : Fn) (g : Mo (List Rs)) (ρ : Rho) : xCall fn g ρ = cla fn (g ρ) := by
  unfold xCall cla bindM
  cases g ρ with
  | none => rfl
  | some p =>
    obtain ⟨rs, ρ1⟩ := p
    dsimp only
    cases argVs ρ1 false rs with
    | none => rfl
    | some args =>
      dsimp only
      split
      · cases fn args with
        | none => rfl
        | some q => obtain ⟨r, l⟩ := q; cases r <;> rfl
      · rfl
@[simp] theorem e_cla (fn : Fn) (rs : List Rs) (ρ : Rho) : cla fn (some (rs, ρ)) = clb fn (argVs ρ false rs) (noClash ρ rs) ρ := (rfl)
@[simp] theorem e_clb (fn : Fn) (args : List (Stt × PyData)) (ρ : Rho) : clb fn (some args) true ρ = clc (fn args) ρ := (rfl)
@[simp] theorem e_clck (d : PyData) (l : Option PyData) (ρ : Rho) : clc (some (.kept d, l)) ρ = some (.kept d, ρ) := (rfl)
@[simp] theorem e_clcf (d : PyData) (l : Option PyData) (ρ : Rho) : clc (some (.fresh d, l)) ρ = some (.fresh d, ρ) := (rfl)
def dla (fn : Fn) (x : Option (List Rs × Rho)) : Option (Rs × Rho) := match x with
  | some (rs, ρ) => xCallL fn (fun _ => some (rs, ρ)) ρ
  | none => none
def stOf : Option (Option (Stt × PyData)) → Stt
  | some (some (st, _)) => st
  | _ => .shr
def dlb (fn : Fn) (i : Nat) (a : Option (List (Stt × PyData))) (nc : Bool) (ρ : Rho) : Option (Rs × Rho) := match a with
    | some args => if nc = true then match fn args, gi ρ i with
        | some (.kept d, some d'), some (some (st, _)) => some (.kept d, ρ.set i (some (st, d')))
        | some (.fresh d, some d'), some (some (st, _)) => some (.fresh d, ρ.set i (some (st, d')))
        | _, _ => none
      else none
    | none => none
def dlc (i : Nat) (x : Option (Rs × Option PyData)) (y : Option (Option (Stt × PyData))) (ρ : Rho) : Option (Rs × Rho) := match x, y with
        | some (.kept d, some d'), some (some (st, _)) => some (.kept d, ρ.set i (some (st, d')))
        | some (.fresh d, some d'), some (some (st, _)) => some (.fresh d, ρ.set i (some (st, d')))
        | _, _ => none
@[simp] theorem e_dl (fn : Fn) (g : Mo (List Rs)) (ρ : Rho) : xCallL fn g ρ = dla fn (g ρ) := by
  unfold dla xCallL
  conv => lhs; unfold bindM
  cases g ρ <;> rfl
@[simp] theorem e_dla (fn : Fn) (i : Nat) (rs : List Rs) (ρ : Rho) : dla fn (some (.slot i :: rs, ρ)) = dlb fn i (argVs ρ true (.slot i :: rs)) (noClash ρ (.slot i :: rs)) ρ := by
  unfold dla xCallL dlb gi
  dsimp only
  unfold bindM
  dsimp only
  cases argVs ρ true (.slot i :: rs) with
  | none => rfl
  | some args =>
    dsimp only
    split
    · cases fn args with
      | none => rfl
      | some q =>
        obtain ⟨r, l⟩ := q
        cases l with
        | none => cases r <;> rfl
        | some d' =>
          cases r with
          | slot k => rfl
          | kept d =>
            dsimp only
            cases ρ[i]? with
            | none => rfl
            | some x => cases x <;> rfl
          | fresh d =>
            dsimp only
            cases ρ[i]? with
            | none => rfl
            | some x => cases x <;> rfl
    · rfl
@[simp] theorem e_dlb (fn : Fn) (i : Nat) (args : List (Stt × PyData)) (ρ : Rho) : dlb fn i (some args) true ρ = dlc i (fn args) (gi ρ i) ρ := (rfl)
@[simp] theorem e_dlck (i : Nat) (d d' : PyData) (st : Stt) (z : PyData) (ρ : Rho) : dlc i (some (.kept d, some d')) (some (some (st, z))) ρ = some (.kept d, ρ.set i (some (st, d'))) := (rfl)
@[simp] theorem e_dlcf (i : Nat) (d d' : PyData) (st : Stt) (z : PyData) (ρ : Rho) : dlc i (some (.fresh d, some d')) (some (some (st, z))) ρ = some (.fresh d, ρ.set i (some (st, d'))) := (rfl)
/-! ### slices -/
def sla (f : Mo Rs) (x : Option (Rs × Rho)) (lo hi : Mo (Option Int)) : Option (Rs × Rho) := match x with
  | some (r, ρ) => (bindM lo fun l => bindM hi fun h => bindM (rdR r) fun d => bindM (optM (opSl d l h)) fun d' => retM (resN d')) ρ
  | none => none
def slb (r : Rs) (x : Option (Option Int × Rho)) (hi : Mo (Option Int)) : Option (Rs × Rho) := match x with
  | some (l, ρ) => (bindM hi fun h => bindM (rdR r) fun d => bindM (optM (opSl d l h)) fun d' => retM (resN d')) ρ
  | none => none
def slc (r : Rs) (l : Option Int) (x : Option (Option Int × Rho)) : Option (Rs × Rho) := match x with
  | some (h, ρ) => match rdD r ρ with
    | some d => x2d true (opSl d l h) ρ
    | none => none
  | none => none
def sld (l h : Option Int) (d : Option PyData) (ρ : Rho) : Option (Rs × Rho) := match d with
    | some d => x2d true (opSl d l h) ρ
    | none => none
@[simp] theorem e_sl (f : Mo Rs) (lo hi : Mo (Option Int)) (ρ : Rho) : xSl f lo hi ρ = sla f (f ρ) lo hi := by
  unfold xSl sla
  conv => lhs; unfold bindM
  cases f ρ <;> rfl
@[simp] theorem e_sla (f : Mo Rs) (r : Rs) (ρ : Rho) (lo hi : Mo (Option Int)) : sla f (some (r, ρ)) lo hi = slb r (lo ρ) hi := by
  unfold sla slb
  dsimp only
  conv => lhs; unfold bindM
  cases lo ρ <;> rfl
@[simp] theorem e_slb (r : Rs) (l : Option Int) (ρ : Rho) (hi : Mo (Option Int)) : slb r (some (l, ρ)) hi = slc r l (hi ρ) := by
  unfold slb
  dsimp only
  conv => lhs; unfold bindM
  cases hi ρ with
  | none => rfl
  | some p =>
    obtain ⟨h, ρ1⟩ := p
    show bindM (rdR r) _ ρ1 = sld l h (rdD r ρ1) ρ1
    unfold sld
    conv => lhs; unfold bindM
    rw [rdR_rd]
    cases rdD r ρ1 with
    | none => rfl
    | some d =>
      show bindM (optM (opSl d l h)) _ ρ1 = x2d true (opSl d l h) ρ1
      unfold bindM x2d
      cases opSl d l h <;> rfl
@[simp] theorem e_slc (r : Rs) (l h : Option Int) (ρ : Rho) : slc r l (some (h, ρ)) = sld l h (rdD r ρ) ρ := (rfl)
@[simp] theorem e_sld (l h : Option Int) (d : PyData) (ρ : Rho) : sld l h (some d) ρ = x2d true (opSl d l h) ρ := (rfl)
@[simp] theorem e_oN (ρ : Rho) : oN ρ = some (none, ρ) := (rfl)
def oSa (x : Option (Rs × Rho)) : Option (Option Int × Rho) := match x with
  | some (r, ρ) => match rdD r ρ with
    | some (.int i) => some (some i, ρ)
    | _ => none
  | none => none
def oSb (d : Option PyData) (ρ : Rho) : Option (Option Int × Rho) := match d with
    | some (.int i) => some (some i, ρ)
    | _ => none
@[simp] theorem e_oS (f : Mo Rs) (ρ : Rho) : oS f ρ = oSa (f ρ) := by
  unfold oS oSa
  conv => lhs; unfold bindM
  cases f ρ with
  | none => rfl
  | some p =>
    obtain ⟨r, ρ1⟩ := p
    show bindM (rdR r) _ ρ1 = oSb (rdD r ρ1) ρ1
    unfold oSb
    conv => lhs; unfold bindM
    rw [rdR_rd]
    cases rdD r ρ1 with
    | none => rfl
    | some d => cases d <;> rfl
@[simp] theorem e_oSa (r : Rs) (ρ : Rho) : oSa (some (r, ρ)) = oSb (rdD r ρ) ρ := (rfl)
@[simp] theorem e_oSb (i : Int) (ρ : Rho) : oSb (some (.int i)) ρ = some (some i, ρ) := (rfl)
/-! ### loops -/
theorem for_inv {ds : List PyData} {g : G1} {b : Mo Fl} (I : Nat → Rho → Prop) (P : Rs → Prop)
    (step : ∀ i d ρ, ds[i]? = some d → I i ρ → ∃ ρ1 fl ρ2, g.run d ρ = some ((), ρ1) ∧ b ρ1 = some (fl, ρ2) ∧ (((fl = .nx ∨ fl = .ct) ∧ I (i + 1) ρ2) ∨ ∃ r, fl = .ret r ∧ P r)) :
    ∀ ρ, I 0 ρ → (∃ ρ', forM ds g b ρ = some (.nx, ρ') ∧ I ds.length ρ') ∨ ∃ r ρ', forM ds g b ρ = some (.ret r, ρ') ∧ P r := by
  have go : ∀ (n i : Nat) (ρ : Rho), i + n = ds.length → I i ρ → (∃ ρ', forM (ds.drop i) g b ρ = some (.nx, ρ') ∧ I ds.length ρ') ∨ ∃ r ρ', forM (ds.drop i) g b ρ = some (.ret r, ρ') ∧ P r := by
    intro n
    induction n with
    | zero =>
      intro i ρ h hi
      obtain rfl : i = ds.length := by omega
      rw [List.drop_length]
      exact .inl ⟨ρ, rfl, hi⟩
    | succ n ih =>
      intro i ρ h hi
      have hlt : i < ds.length := by omega
      rw [List.drop_eq_getElem_cons hlt]
      obtain ⟨ρ1, fl, ρ2, e1, e2, q⟩ := step i _ ρ (List.getElem?_eq_getElem hlt) hi
      unfold forM
      rw [e1]
      dsimp only
      rw [e2]
      rcases q with ⟨rfl | rfl, q⟩ | ⟨r, rfl, q⟩
      · exact ih (i + 1) ρ2 (by omega) q
      · exact ih (i + 1) ρ2 (by omega) q
      · exact .inr ⟨r, ρ2, rfl, q⟩
  intro ρ hi
  have := go ds.length 0 ρ (by omega) hi
  rwa [List.drop_zero] at this
theorem for_all {ds : List PyData} {g : G1} {b : Mo Fl} (I : Nat → Rho → Prop)
    (step : ∀ i d ρ, ds[i]? = some d → I i ρ → ∃ ρ1 ρ2, g.run d ρ = some ((), ρ1) ∧ b ρ1 = some (.nx, ρ2) ∧ I (i + 1) ρ2) {ρ : Rho} (h : I 0 ρ) : ∃ ρ', forM ds g b ρ = some (.nx, ρ') ∧ I ds.length ρ' := by
  rcases for_inv I (fun _ => False) (fun i d ρ hd hi => by obtain ⟨ρ1, ρ2, e1, e2, q⟩ := step i d ρ hd hi; exact ⟨ρ1, .nx, ρ2, e1, e2, .inl ⟨.inl rfl, q⟩⟩) ρ h with z | ⟨r, ρ', _, z⟩
  · exact z
  · exact z.elim
/-- a comprehension whose parts change nothing -/
theorem lc_map {vs : List Nat} {g : G1} {t : Mo Bool} {fe : Mo Rs} {ρ0 : Rho} {p : PyData → Bool} {f : PyData → PyData} : ∀ (ds acc : List PyData), acc.length + ds.length ≤ LIM →
    (∀ d ∈ ds, ∃ ρ1, g.run d ρ0 = some ((), ρ1) ∧ ∃ ρ2, t ρ1 = some (p d, ρ2) ∧ (p d = false → wipeE ρ2 vs = ρ0) ∧ (p d = true → ∃ r ρ3 ρ4, fe ρ2 = some (r, ρ3) ∧ keepR r ρ3 = some (f d, ρ4) ∧ wipeE ρ4 vs = ρ0)) →
    lcM vs g t fe ds acc ρ0 = some (acc ++ (ds.filter p).map f, ρ0)
  | [], acc, _, _ => by simp [lcM, retM]
  | d :: ds, acc, hl, h => by
    obtain ⟨ρ1, e1, ρ2, e2, h1, h2⟩ := h d List.mem_cons_self
    have hl' : acc.length + ds.length + 1 ≤ LIM := by rw [List.length_cons] at hl; omega
    unfold lcM
    rw [e1]
    dsimp only
    rw [e2]
    cases hp : p d with
    | false =>
      dsimp only
      rw [h1 hp, lc_map ds acc (by omega) fun x hx => h x (List.mem_cons_of_mem _ hx), List.filter_cons_of_neg (by simp [hp])]
    | true =>
      obtain ⟨r, ρ3, ρ4, e3, e4, e5⟩ := h2 hp
      dsimp only
      have eb : bindM fe keepR ρ2 = some (f d, ρ4) := by unfold bindM; rw [e3]; exact e4
      rw [eb]
      dsimp only
      rw [if_pos (by omega), e5, lc_map ds (acc ++ [f d]) (by rw [List.length_append, List.length_singleton]; omega) fun x hx => h x (List.mem_cons_of_mem _ hx), List.filter_cons_of_pos hp]
      simp
theorem lc_eval {vs : List Nat} {fi : Mo (List PyData)} {g : G1} {t : Mo Bool} {fe : Mo Rs} {ρ ρ1 : Rho} {ds : List PyData} (p : PyData → Bool) (f : PyData → PyData) (hi : fi ρ = some (ds, ρ1)) (hl : ds.length ≤ LIM)
    (h : ∀ d ∈ ds, ∃ ρ2, g.run d (wipeE ρ1 vs) = some ((), ρ2) ∧ ∃ ρ3, t ρ2 = some (p d, ρ3) ∧ (p d = false → wipeE ρ3 vs = wipeE ρ1 vs) ∧ (p d = true → ∃ r ρ4 ρ5, fe ρ3 = some (r, ρ4) ∧ keepR r ρ4 = some (f d, ρ5) ∧ wipeE ρ5 vs = wipeE ρ1 vs)) :
    xLc vs fi g t fe ρ = some (.fresh (.list ((ds.filter p).map f)), restE ρ1 (wipeE ρ1 vs) vs) := by
  unfold xLc
  rw [hi]
  dsimp only
  rw [lc_map ds [] (by simpa using hl) h]
  rfl
end PyI

/-! PyI, part P: what is walked. -/
namespace PyI
open PySem PySem.Spec L2
def fora (x : Option (List PyData × Rho)) (g : G1) (b : Mo Fl) : Option (Fl × Rho) := match x with
  | some (ds, ρ) => forM ds g b ρ
  | none => none
@[simp] theorem e_for (f : Mo (List PyData)) (g : G1) (b : Mo Fl) (ρ : Rho) : sFor f g b ρ = fora (f ρ) g b := by
  unfold sFor fora bindM
  cases f ρ <;> rfl
@[simp] theorem e_fora (ds : List PyData) (ρ : Rho) (g : G1) (b : Mo Fl) : fora (some (ds, ρ)) g b = forM ds g b ρ := (rfl)
def ira (x : Option (Rs × Rho)) : Option (List PyData × Rho) := match x with
  | some (r, ρ) => match rdD r ρ with
    | some (.int j) => if smallI j = true then some (rngD 0 j.toNat, ρ) else none
    | _ => none
  | none => none
def irb (x : Option PyData) (ρ : Rho) : Option (List PyData × Rho) := match x with
    | some (.int j) => if smallI j = true then some (rngD 0 j.toNat, ρ) else none
    | _ => none
@[simp] theorem e_ir (f : Mo Rs) (ρ : Rho) : iR1 f ρ = ira (f ρ) := by
  unfold iR1 ira
  show bindM f _ ρ = _
  conv => lhs; unfold bindM
  cases f ρ with
  | none => rfl
  | some p =>
    obtain ⟨r, ρ1⟩ := p
    show bindM (rdR r) _ ρ1 = irb (rdD r ρ1) ρ1
    unfold irb
    conv => lhs; unfold bindM
    rw [rdR_rd]
    cases rdD r ρ1 with
    | none => rfl
    | some d =>
      cases d with
      | int j =>
        show (if smallI j = true then retM (rngD 0 j.toNat) else fun _ => none) ρ1 = _
        by_cases h : smallI j = true
        · rw [if_pos h]; simp only [if_pos h]; rfl
        · rw [if_neg h]; simp only [if_neg h]
      | _ => rfl
@[simp] theorem e_ira (r : Rs) (ρ : Rho) : ira (some (r, ρ)) = irb (rdD r ρ) ρ := (rfl)
theorem e_irb (n : Nat) (ρ : Rho) (h : n < 1000000) : irb (some (.int (n : Int))) ρ = some (rngD 0 n, ρ) := by
  show (if smallI (n : Int) = true then some (rngD 0 ((n : Int).toNat), ρ) else none) = _
  have hs : smallI (n : Int) = true := decide_eq_true (by omega)
  rw [if_pos hs]
  simp
def ita : Option (Option (Stt × PyData)) → Nat → Rho → Option (PyData × Rho)
  | some (some (.bor, d)), _, ρ => some (d, ρ)
  | x, i, ρ => kpa x i ρ
@[simp] theorem e_itk (d : PyData) (ρ : Rho) : iterR (.kept d) ρ = some (d, ρ) := (rfl)
@[simp] theorem e_itf (d : PyData) (ρ : Rho) : iterR (.fresh d) ρ = some (d, ρ) := (rfl)
@[simp] theorem e_its (i : Nat) (ρ : Rho) : iterR (.slot i) ρ = ita (gi ρ i) i ρ := by
  unfold iterR ita
  rw [e_ks]
  unfold gi
  dsimp only
  cases ρ[i]? with
  | none => rfl
  | some x =>
    cases x with
    | none => rfl
    | some p => obtain ⟨st, d⟩ := p; cases st <;> rfl
@[simp] theorem e_it1 (d : PyData) (i : Nat) (ρ : Rho) : ita (some (some (.shr, d))) i ρ = some (d, ρ) := (rfl)
@[simp] theorem e_it2 (d : PyData) (i : Nat) (ρ : Rho) : ita (some (some (.bor, d))) i ρ = some (d, ρ) := (rfl)
@[simp] theorem e_it3 (d : PyData) (i : Nat) (ρ : Rho) : ita (some (some (.own, d))) i ρ = some (d, ρ.set i (some (.shr, d))) := (rfl)
def isa (x : Option (Rs × Rho)) : Option (List PyData × Rho) := match x with
  | some (r, ρ) => match iterR r ρ with
    | some (d, ρ1) => match seqOf d with
      | some ds => some (ds, ρ1)
      | none => none
    | none => none
  | none => none
def isb (x : Option (PyData × Rho)) : Option (List PyData × Rho) := match x with
    | some (d, ρ1) => match seqOf d with
      | some ds => some (ds, ρ1)
      | none => none
    | none => none
@[simp] theorem e_iS (f : Mo Rs) (ρ : Rho) : iS f ρ = isa (f ρ) := by
  unfold iS isa
  show bindM f _ ρ = _
  conv => lhs; unfold bindM
  cases f ρ with
  | none => rfl
  | some p =>
    obtain ⟨r, ρ1⟩ := p
    show bindM (iterR r) _ ρ1 = isb (iterR r ρ1)
    unfold isb
    conv => lhs; unfold bindM
    cases iterR r ρ1 with
    | none => rfl
    | some q =>
      obtain ⟨d, ρ2⟩ := q
      show optM (seqOf d) ρ2 = _
      unfold optM
      cases h : seqOf d <;> simp only [h]
@[simp] theorem e_isa' (r : Rs) (ρ : Rho) : isa (some (r, ρ)) = isb (iterR r ρ) := (rfl)
@[simp] theorem e_isbL (l : List PyData) (ρ : Rho) : isb (some (.list l, ρ)) = some (l, ρ) := (rfl)
@[simp] theorem e_isbT (l : List PyData) (ρ : Rho) : isb (some (.tuple l, ρ)) = some (l, ρ) := (rfl)
/-! a walked dict -/
def ida (m : Wm) (x : Option (Option (Stt × PyData))) (i : Nat) (ρ : Rho) : Option (List PyData × Rho) := match x with
  | some (some (.shr, .dict kvs)) => gateM kvs (some (selD m kvs, ρ))
  | some (some (.bor, .dict kvs)) => gateM kvs (some (selD m kvs, ρ))
  | some (some (.own, .dict kvs)) => gateM kvs (some (selD m kvs, ρ.set i (some (.shr, .dict kvs))))
  | _ => none
@[simp] theorem e_id (m : Wm) (i : Nat) (ρ : Rho) : iDict m i ρ = ida m (gi ρ i) i ρ := by
  unfold iDict ida gi
  cases ρ[i]? with
  | none => rfl
  | some x =>
    cases x with
    | none => rfl
    | some p => obtain ⟨st, d⟩ := p; cases st <;> cases d <;> rfl
@[simp] theorem e_id1 (m : Wm) (kvs : List (PyData × PyData)) (i : Nat) (ρ : Rho) (h : isM kvs = false) : ida m (some (some (.shr, .dict kvs))) i ρ = some (selD m kvs, ρ) := gateM_no h _
@[simp] theorem e_id3 (m : Wm) (kvs : List (PyData × PyData)) (i : Nat) (ρ : Rho) (h : isM kvs = false) : ida m (some (some (.own, .dict kvs))) i ρ = some (selD m kvs, ρ.set i (some (.shr, .dict kvs))) := gateM_no h _
@[simp] theorem e_id2 (m : Wm) (kvs : List (PyData × PyData)) (i : Nat) (ρ : Rho) (h : isM kvs = false) : ida m (some (some (.bor, .dict kvs))) i ρ = some (selD m kvs, ρ) := gateM_no h _
/-! a list's place -/
theorem rngD_at {n i : Nat} {d : PyData} (h : (rngD 0 n)[i]? = some d) : d = .int (i : Int) ∧ i < n := by
  have hl : i < n := by
    have := (List.getElem?_eq_some_iff.mp h).1
    rwa [rngD_len] at this
  rw [rngD_get n 0 i hl] at h
  cases h
  exact ⟨by simp, hl⟩
theorem eqD_bool (a b : Bool) : eqD (.bool a) (.bool b) = some (a == b) := by simp [eqD, PyData.plain, PyData.depth, PyData.eqv]
@[simp] theorem o_eqB (x y : Bool) : opEq (.bool x) (.bool y) = some (.bool (x == y)) := by unfold opEq; rw [eqD_bool]; rfl
theorem runF_def {np n : Nat} {body : Mo Fl} {args : List (Stt × PyData)} (h : argsFit np args = true) : runF np n body args = match body (args.map some ++ List.replicate (n - args.length) none) with
    | some (fl, ρ') => match retOf ρ' fl with
      | some r => match lentOf ρ' args with
        | some l => some (r, l)
        | none => none
      | none => none
    | none => none := by unfold runF; rw [if_pos h] <;> rfl
/-- a status under which a value is handed over to be read -/
def Rdg (s : Stt) : Prop := s = .shr ∨ s = .bor
theorem run_ret {np n : Nat} {body : Mo Fl} {args : List (Stt × PyData)} {ρ' : Rho} {fl : Fl} {d : PyData} (hf : argsFit np args = true) (hl : lentOf ρ' args = some none) (e : body (args.map some ++ List.replicate (n - args.length) none) = some (fl, ρ')) (hr : retOf ρ' fl = some (.kept d)) : runF np n body args = some (.kept d, none) := by
  rw [runF_def hf, e]
  dsimp only
  rw [hr]
  dsimp only
  rw [hl]
theorem run_fresh {np n : Nat} {body : Mo Fl} {args : List (Stt × PyData)} {ρ' : Rho} {fl : Fl} {d : PyData} (hf : argsFit np args = true) (hl : lentOf ρ' args = some none) (e : body (args.map some ++ List.replicate (n - args.length) none) = some (fl, ρ')) (hr : retOf ρ' fl = some (.fresh d)) : runF np n body args = some (.fresh d, none) := by
  rw [runF_def hf, e]
  dsimp only
  rw [hr]
  dsimp only
  rw [hl]
end PyI

/-! PyI, part Q: {k: v for target in iter if ..}. -/
namespace PyI
open PySem PySem.Spec L2
theorem KvR.up {K : PySem.W.Frag} {S S' : Addr → Prop} {H H' : Hp} {ts : List (Key × V)} {kvs : List (PyData × PyData)} (u : Uph S H S' H') (h : KvR K S H ts kvs) : KvR K S' H' ts kvs := ⟨h.1, RpL.up u h.2⟩
def kvM (fk fv : Mo Rs) : Mo (PyData × PyData) := bindM fk fun rk => bindM fv fun rv => bindM (rdR rk) fun k => bindM (keepR rv) fun v => retM (k, v)
def dcM (vs : List Nat) (g : G1) (t : Mo Bool) (fk fv : Mo Rs) : List PyData → List (PyData × PyData) → Mo (List (PyData × PyData))
  | [], acc => retM acc
  | d :: ds, acc => fun ρ => match g.run d ρ with
    | none => none
    | some (_, ρ1) => match t ρ1 with
      | none => none
      | some (false, ρ2) => dcM vs g t fk fv ds acc (wipeE ρ2 vs)
      | some (true, ρ2) => match kvM fk fv ρ2 with
        | none => none
        | some ((k, y), ρ3) => match keyOf? k with
          | none => none
          | some _ => if acc.length < LIM then dcM vs g t fk fv ds (putD acc k y) (wipeE ρ3 vs) else none
def xDc (vs : List Nat) (fi : Mo (List PyData)) (g : G1) (t : Mo Bool) (fk fv : Mo Rs) : Mo Rs := fun ρ => match fi ρ with
  | none => none
  | some (ds, ρ1) => match dcM vs g t fk fv ds [] (wipeE ρ1 vs) with
    | none => none
    | some (acc, ρ2) => some (.fresh (.dict acc), restE ρ1 ρ2 vs)
/-- an iterator that walks ds goes on doing so behind growth that leaves T alone -/
theorem dc_ok {K : PySem.W.Frag} {vs : List Nat} {fi : Mo (List PyData)} {g : G1} {t : Mo Bool} {fk fv : Mo Rs} {σ : L2.St} {H : Hp} {Q : VK} (hv : g.vs = vs) (h : tD K (xDc vs fi g t fk fv) σ H Q) : tDc (tI K fi) (tG K g) (tT K t) (tD K fk) (tD K fv) vs σ H Q := by
  obtain ⟨S, ρ, r, ρ', G, e, q⟩ := h
  unfold xDc at e
  cases ei : fi ρ with
  | none => rw [ei] at e; cases e
  | some p =>
    obtain ⟨ds, ρ1⟩ := p
    rw [ei] at e
    dsimp only at e
    cases el : dcM vs g t fk fv ds [] (wipeE ρ1 vs) with
    | none => rw [el] at e; cases e
    | some p =>
      obtain ⟨accE, ρ2⟩ := p
      rw [el] at e
      cases e
      refine ⟨S, ρ, ds, ρ1, G, ei, fun J S1 H1 T F1 G1 hT W D hD => ?_⟩
      have E0 : Gw S1 H1 S1 (upd H1 D (.dK [])) := Gw.lay G1.al hD
      have nSD : ¬ S1 D := fun z => G1.al D z hD
      have Gw0 : Gd K S1 (wipeE ρ1 vs) (wipe σ vs) (upd H1 D (.dK [])) := (G1.wiped (vs := vs)).ext E0
      -- the state of a turn
      refine ⟨fun i m H2 => ∃ S2 ρc acc, Gd K S2 ρc (wipe σ vs) H2 ∧ (∀ (j : Nat) (x : Option (Stt × PyData)), j ∈ vs → ρc[j]? = some x → x = none) ∧ Fm S1 (wipeE ρ1 vs) (wipe σ vs) H1 S2 ρc H2 ∧ ¬ S2 D ∧ (∃ ws, H2 D = some (.dK ws) ∧ KvR K S2 H2 ws acc) ∧ i ≤ ds.length ∧ m = ds.length - i ∧
        dcM vs g t fk fv (ds.drop i) acc ρc = some (accE, ρ2), ⟨ds.length, S1, wipeE ρ1 vs, [], Gw0, fun j x hj hx => wipeE_on hj hx, E0.fr, nSD, ⟨[], upd_same, KvR.nil⟩, Nat.zero_le _, rfl, el⟩, ?_⟩
      rintro i m H2 ⟨S2, ρc, acc, G2, hc, F2, nD2, ⟨ws, hws, rws⟩, hi, rfl, e3⟩
      have u : Uph S1 H1 S2 H2 := ⟨F2.sh, fun a o hs ha => F2.keep a o ha fun z => (G1.wiped (vs := vs)).notMu hs z⟩
      have tt : ∀ a o, T a → H1 a = some o → H2 a = some o := fun a o ha h => F2.keep a o h fun z => (hT a ha).2 z.wiped
      obtain ⟨w1, w2⟩ := W S2 H2 i u tt G2.al
      have nMD : ¬ Mu ρc (wipe σ vs) D := fun z => Mu.there (G1.wiped (vs := vs)) (F2.mu z) hD
      by_cases hlt : i < ds.length
      · obtain ⟨go, yl⟩ := w1 hlt
        refine .inr ⟨go, fun H' => ∃ S' ρ2' acc', Gd K S' ρ2' (wipe σ vs) H' ∧ (∀ (j : Nat) (x : Option (Stt × PyData)), j ∈ vs → ρ2'[j]? = some x → x = none) ∧ Fm S1 (wipeE ρ1 vs) (wipe σ vs) H1 S' ρ2' H' ∧ ¬ S' D ∧ (∃ ws, H' D = some (.dK ws) ∧ KvR K S' H' ws acc') ∧
          dcM vs g t fk fv (ds.drop (i + 1)) acc' ρ2' = some (accE, ρ2), fun H' ⟨S', ρ2', acc', a1, a2, a3, a4, a5, a6⟩ => ⟨ds.length - (i + 1), by omega, S', ρ2', acc', a1, a2, a3, a4, a5, hlt, rfl, a6⟩, fun x H3 y => ?_⟩
        obtain ⟨S3, d, E3, hd, rp⟩ := yl x H3 y
        have hdrop : ds.drop i = d :: ds.drop (i + 1) := by
          rw [List.drop_eq_getElem_cons hlt]
          rw [List.getElem?_eq_getElem hlt] at hd
          cases hd
          rfl
        rw [hdrop] at e3
        unfold dcM at e3
        cases eg : g.run d ρc with
        | none => rw [eg] at e3; cases e3
        | some p =>
          obtain ⟨_, ρ3⟩ := p
          rw [eg] at e3
          dsimp only at e3
          have G3 := G2.ext E3
          have nD3 : ¬ S3 D := fun z => (E3.new D z).elim nD2 (by rw [hws]; simp)
          have hws3 : H3 D = some (.dK ws) := E3.keep D _ hws
          have rws3 := KvR.up E3.up rws
          refine ⟨S3, ρc, d, ρ3, G3, rp, eg, fun σ4 G4 F4 O4 => ?_⟩
          rw [hv] at O4
          have hwp : wipe σ4 vs = wipe σ vs := by
            have O4' : Sto vs (wipeE ρc vs) (wipe (wipe σ vs) vs) ρ3 σ4 := by
              have e1 : wipeE ρc vs = ρc := by
                apply List.ext_getElem?
                intro j
                by_cases hj : j ∈ vs
                · cases h1 : ρc[j]? with
                  | none => rw [List.getElem?_eq_none_iff] at h1 ⊢; rw [wipeE_len]; exact h1
                  | some x =>
                    have hx := hc j x hj h1
                    have hlt := (List.getElem?_eq_some_iff.mp h1).1
                    have hlt2 : j < (wipeE ρc vs).length := by rw [wipeE_len]; exact hlt
                    rw [List.getElem?_eq_getElem hlt2, wipeE_on hj (List.getElem?_eq_getElem hlt2), hx]
                · exact wipeE_off hj
              have e2 : wipe (wipe σ vs) vs = wipe σ vs := by
                have := wipe_sto (ρ := ρc) (σ := σ) (vs := vs) (ρ2 := wipeE ρc vs) (σ2 := wipe σ vs) Sto.refl
                exact this
              rw [e1, e2]; exact O4
            have := wipe_sto O4'
            have e2 : wipe (wipe σ vs) vs = wipe σ vs := wipe_sto (ρ := ρc) (σ := σ) (vs := vs) (ρ2 := wipeE ρc vs) (σ2 := wipe σ vs) Sto.refl
            rw [this, e2]
          refine ⟨hwp, ?_⟩
          have hl3 : ρ3.length = ρc.length := F4.len
          cases et : t ρ3 with
          | none => rw [et] at e3; cases e3
          | some p =>
            obtain ⟨b, ρ4⟩ := p
            rw [et] at e3
            refine ⟨S3, ρ3, b, ρ4, G4, et, fun S5 H5 F5 G5 => ?_⟩
            have nMD3 : ¬ Mu ρ3 σ4 D := fun z => (F4.mu z).elim nMD (by rw [hws3]; simp)
            have keepD : ∀ {Sx : Addr → Prop} {ρx : Rho} {Hx : Hp}, Fm S3 ρ3 σ4 H3 Sx ρx Hx → Hx D = some (.dK ws) ∧ ¬ Sx D := fun {Sx ρx Hx} f => ⟨f.keep D _ hws3 nMD3, fun z => (f.new D z).elim nD3 fun z => z.elim nMD3 (by rw [hws3]; simp)⟩
            have done : ∀ {Sx : Addr → Prop} {ρx : Rho} {Hx : Hp}, Fm S3 ρ3 σ4 H3 Sx ρx Hx → Gd K Sx ρx σ4 Hx → Gd K Sx (wipeE ρx vs) (wipe σ vs) Hx ∧ Fm S1 (wipeE ρ1 vs) (wipe σ vs) H1 Sx (wipeE ρx vs) Hx := fun {Sx ρx Hx} f gx => by
              obtain ⟨b1, b2⟩ := turn_back hc O4 (by rw [wipe_length]; exact (by have := G2.len; rw [wipe_length] at this; exact this.symm)) gx f G3 hl3 hwp
              exact ⟨b1, F2.trans (E3.fr.trans b2)⟩
            cases b with
            | false =>
              dsimp only at e3
              obtain ⟨b1, b2⟩ := done F5 G5
              obtain ⟨k1, k2⟩ := keepD F5
              exact iteF ⟨S5, wipeE ρ4 vs, acc, b1, fun j x hj hx => wipeE_on hj hx, b2, k2, ⟨ws, k1, KvR.up (F5.up G4) rws3⟩, e3⟩
            | true =>
              dsimp only at e3
              refine iteT ?_
              cases ee : kvM fk fv ρ4 with
              | none => rw [ee] at e3; cases e3
              | some p =>
                obtain ⟨⟨kd, yd⟩, ρ6⟩ := p
                rw [ee] at e3
                dsimp only at e3
                obtain ⟨rk, ρk, ek, a1⟩ := bindM_some ee
                obtain ⟨rv, ρ5, e6, a2⟩ := bindM_some a1
                obtain ⟨kd', ρ5', ek2, a3⟩ := bindM_some a2
                cases rdR_same ek2
                obtain ⟨yd', ρ6', e7, a4⟩ := bindM_some a3
                cases retM_some a4
                cases hk : keyOf? kd with
                | none => rw [hk] at e3; cases e3
                | some kk =>
                rw [hk] at e3
                dsimp only at e3
                split at e3
                · rename_i hlim
                  refine ⟨S5, ρ4, rk, ρk, G5, ek, fun y S6k H6k F6k G6k R6k => ⟨S6k, ρk, rv, ρ5, G6k, e6, fun v S6 H6 F6 G6 R6 => ?_⟩⟩
                  have n5 : Now K σ4 S3 ρ3 H3 S5 ρ4 H5 := ⟨G4, F5, G5⟩
                  have n6k := n5.step F6k G6k
                  have n6 : Now K σ4 S3 ρ3 H3 S6 ρ5 H6 := n6k.step F6 G6
                  have R6' : RR K H3 S6 H6 ρ5 σ4 v rv := R6.pre n6k
                  have Rk := ((R6k.pre n5).fm n6k F6).rd G6 ek2
                  obtain ⟨S7, n7, p7, sh7⟩ := R6'.w.keep n6 e7
                  obtain ⟨k1, k2⟩ := keepD n7.f
                  obtain ⟨b1, b2⟩ := done n7.f n7.g
                  have rws7 := KvR.up (n7.f.up G4) rws3
                  have al7 := n7.g.al
                  have u7 : Uph S7 H6 S7 (upd H6 D (.dK (putK ws kk v))) := ⟨fun _ h => h, fun b o hb hh => by rw [upd_ne (show b ≠ D from fun z => k2 (z ▸ hb))]; exact hh⟩
                  have nMw : ¬ Mu (wipeE ρ6 vs) (wipe σ vs) D := fun z => Mu.there (G1.wiped (vs := vs)) (b2.mu z) hD
                  refine ⟨ws, kk, Rk.1.key hk, k1, by rw [← rws7.len]; exact lim_lt hlim, S7, wipeE ρ6 vs, putD acc kd yd, ?_, fun j x hj hx => wipeE_on hj hx, ⟨fun b hb => ?_, fun b o hb nm => ?_, b2.sh, b2.new, b2.len, b2.non, b2.sts⟩, k2, ⟨putK ws kk v, upd_same, by have := keyOf_keyD hk; subst this; exact (KvR.up u7 rws7).put (Rp.up u7 p7)⟩, e3⟩
                  · -- the new list has one more item: no slot holds it
                    refine ⟨b1.len, fun j st d' hj => ?_, b1.ne, fun b hb => ?_⟩
                    · obtain ⟨w', z1, z2⟩ := b1.sl j st d' hj
                      refine ⟨w', z1, ?_⟩
                      have other : ∀ b, w' = .ref b → st.hold = true → b ≠ D := fun b eb hh zz => by
                        subst eb
                        obtain ⟨d2, hj2⟩ := b2.held hj hh
                        have := (G1.wiped (vs := vs)).held hj2 hh z1
                        rw [zz] at this
                        exact this hD
                      cases st with
                      | shr => exact Rp.up u7 z2
                      | own => obtain ⟨b, rfl, ns, tx⟩ := z2; exact ⟨b, rfl, ns, TopX.up u7 (fun o hh => by rw [upd_ne (other b rfl rfl)]; exact hh) tx⟩
                      | lent => obtain ⟨b, rfl, ns, tx⟩ := z2; exact ⟨b, rfl, ns, TopX.up u7 (fun o hh => by rw [upd_ne (other b rfl rfl)]; exact hh) tx⟩
                      | bor => obtain ⟨b, rfl, ns, tx⟩ := z2; exact ⟨b, rfl, ns, TopR.up u7 (fun o hh => by rw [upd_ne (other b rfl rfl)]; exact hh) tx⟩
                      | scr =>
                        obtain ⟨b, ns1, rfl, e1, k⟩ := z2
                        refine ⟨b, ns1, rfl, e1, KLst.keep (fun o hh => ?_) k⟩
                        rw [upd_ne (ne_of hh k1 (by intro z; cases z))]
                        exact hh
                    · by_cases z : b = D
                      · exact absurd (z ▸ hb) k2
                      · rw [upd_ne z]; exact b1.al b hb
                  · by_cases z : b = D
                    · rw [z, upd_same]; simp
                    · rw [upd_ne z]; exact b2.dom b hb
                  · rw [upd_ne (ne_of_none hb hD)]
                    exact b2.keep b o hb nm
                · cases e3
      · have hie : ds.drop i = [] := List.drop_eq_nil_of_le (by omega)
        rw [hie] at e3
        cases retM_some e3
        refine .inl ⟨w2 (by omega), ?_⟩
        obtain ⟨c1, c2⟩ := block_back G1 G2 F2
        have n1 : Now K σ S ρ H S1 ρ1 H1 := ⟨G, F1, G1⟩
        exact q (.ref D) S2 H2 (F1.trans c2) c1 ⟨D, rfl, n1.none0 hD, nD2, .inl ⟨ws, hws, rws.1, rws.2⟩⟩
section
variable {X : Cx} {kx vx tg iter : Expr} {ifs : List Expr} {scope : Scope} {pos : Pos} {fi : Mo (List PyData)} {g : G1} {t : Mo Bool} {fk fv : Mo Rs}
theorem pd_dc (own : List (Str × Nat)) (hc : X.calm = true) (hN : X.N.Nodup) (hi : ID X tg iter fi) (ok : BlkOk X.N X.env.scope scope own) (hv : g.vs = own.map (·.2))
    (hg : ∀ (s : Shared) (H : Hp) (C : Addr) (cl : List (Str × Addr)) (fp : List Addr), GD (X.blk s H scope (compEnvC scope cl C X.env) fp) tg g) (ht : ∀ (s : Shared) (H : Hp) (C : Addr) (cl : List (Str × Addr)) (fp : List Addr), TsD (X.blk s H scope (compEnvC scope cl C X.env) fp) ifs t)
    (hk : ∀ (s : Shared) (H : Hp) (C : Addr) (cl : List (Str × Addr)) (fp : List Addr), PD (X.blk s H scope (compEnvC scope cl C X.env) fp) kx fk)
    (he : ∀ (s : Shared) (H : Hp) (C : Addr) (cl : List (Str × Addr)) (fp : List Addr), PD (X.blk s H scope (compEnvC scope cl C X.env) fp) vx fv) (hs : ∀ x, foldedSetIterable iter X.env x = pure x := by intro _; rfl) :
    PD X (.DictComp kx vx [⟨tg, iter, ifs, 0⟩] scope pos) (xDc (own.map (·.2)) fi g t fk fv) := PE.to (pe_dc hc hN hi ok hg ht hk he hs) fun σ H Q h => dc_ok hv h
end
end PyI

/-! PyI, part R: [elt for target in iter if .. for target1 in iter1 if ..]. -/
namespace PyI
open PySem PySem.Spec L2
/-- the walk that adds to a list D -/
theorem lc_walk {K : PySem.W.Frag} {vs : List Nat} {g : G1} {t : Mo Bool} {fe : Mo Rs} {σ : L2.St} {ds : List PyData} {S1 : Addr → Prop} {ρ1 ρ2 : Rho} {H1 : Hp} {J : It} {T : Addr → Prop} {D : Addr} {ws0 : List V} {acc0 accE : List PyData} {Qfin : Hp → Prop}
    (hv : g.vs = vs) (G1 : Gd K S1 ρ1 σ H1) (hT : ∀ a, T a → H1 a ≠ none ∧ ¬ Mu ρ1 σ a) (W : Walk K J ds T S1 H1) (hD : H1 D = none) (r0 : RpL K S1 H1 ws0 acc0) (el : lcM vs g t fe ds acc0 (wipeE ρ1 vs) = some (accE, ρ2))
    (fin : ∀ S2 H2 ws, Gd K S2 ρ2 (wipe σ vs) H2 → Fm S1 (wipeE ρ1 vs) (wipe σ vs) H1 S2 ρ2 H2 → ¬ S2 D → H2 D = some (.lst ws) → RpL K S2 H2 ws accE → Qfin H2) :
    ∃ W : Nat → Nat → Hp → Prop, (∃ m, W 0 m (upd H1 D (.lst ws0))) ∧ ∀ i m H, W i m H →
      (J.stop i H ∧ Qfin H) ∨ (J.go i H ∧ ∃ Nx : Hp → Prop, (∀ H', Nx H' → ∃ m', m' < m ∧ W (i + 1) m' H') ∧ ∀ x H', J.yld i H x H' → tG K g x (wipe σ vs) H' fun σ2 H2 => wipe σ2 vs = wipe σ vs ∧ tT K t σ2 H2 fun b H3 =>
        if b = true then tD K fe σ2 H3 fun y H4 => ∃ acc, H4 D = some (.lst acc) ∧ acc.length < sizeLine ∧ Nx (upd H4 D (.lst (acc ++ [y]))) else Nx H3) := by
  have E0 : Gw S1 H1 S1 (upd H1 D (.lst ws0)) := Gw.lay G1.al hD
  have nSD : ¬ S1 D := fun z => G1.al D z hD
  have Gw0 : Gd K S1 (wipeE ρ1 vs) (wipe σ vs) (upd H1 D (.lst ws0)) := (G1.wiped (vs := vs)).ext E0
  -- the state of a turn
  refine ⟨fun i m H2 => ∃ S2 ρc acc, Gd K S2 ρc (wipe σ vs) H2 ∧ (∀ (j : Nat) (x : Option (Stt × PyData)), j ∈ vs → ρc[j]? = some x → x = none) ∧ Fm S1 (wipeE ρ1 vs) (wipe σ vs) H1 S2 ρc H2 ∧ ¬ S2 D ∧ (∃ ws, H2 D = some (.lst ws) ∧ RpL K S2 H2 ws acc) ∧ i ≤ ds.length ∧ m = ds.length - i ∧
    lcM vs g t fe (ds.drop i) acc ρc = some (accE, ρ2), ⟨ds.length, S1, wipeE ρ1 vs, acc0, Gw0, fun j x hj hx => wipeE_on hj hx, E0.fr, nSD, ⟨ws0, upd_same, RpL.up E0.up r0⟩, Nat.zero_le _, rfl, el⟩, ?_⟩
  rintro i m H2 ⟨S2, ρc, acc, G2, hc, F2, nD2, ⟨ws, hws, rws⟩, hi, rfl, e3⟩
  have u : Uph S1 H1 S2 H2 := ⟨F2.sh, fun a o hs ha => F2.keep a o ha fun z => (G1.wiped (vs := vs)).notMu hs z⟩
  have tt : ∀ a o, T a → H1 a = some o → H2 a = some o := fun a o ha h => F2.keep a o h fun z => (hT a ha).2 z.wiped
  obtain ⟨w1, w2⟩ := W S2 H2 i u tt G2.al
  have nMD : ¬ Mu ρc (wipe σ vs) D := fun z => Mu.there (G1.wiped (vs := vs)) (F2.mu z) hD
  by_cases hlt : i < ds.length
  · obtain ⟨go, yl⟩ := w1 hlt
    refine .inr ⟨go, fun H' => ∃ S' ρ2' acc', Gd K S' ρ2' (wipe σ vs) H' ∧ (∀ (j : Nat) (x : Option (Stt × PyData)), j ∈ vs → ρ2'[j]? = some x → x = none) ∧ Fm S1 (wipeE ρ1 vs) (wipe σ vs) H1 S' ρ2' H' ∧ ¬ S' D ∧ (∃ ws, H' D = some (.lst ws) ∧ RpL K S' H' ws acc') ∧
      lcM vs g t fe (ds.drop (i + 1)) acc' ρ2' = some (accE, ρ2), fun H' ⟨S', ρ2', acc', a1, a2, a3, a4, a5, a6⟩ => ⟨ds.length - (i + 1), by omega, S', ρ2', acc', a1, a2, a3, a4, a5, hlt, rfl, a6⟩, fun x H3 y => ?_⟩
    obtain ⟨S3, d, E3, hd, rp⟩ := yl x H3 y
    have hdrop : ds.drop i = d :: ds.drop (i + 1) := by
      rw [List.drop_eq_getElem_cons hlt]
      rw [List.getElem?_eq_getElem hlt] at hd
      cases hd
      rfl
    rw [hdrop] at e3
    unfold lcM at e3
    cases eg : g.run d ρc with
    | none => rw [eg] at e3; cases e3
    | some p =>
      obtain ⟨_, ρ3⟩ := p
      rw [eg] at e3
      dsimp only at e3
      have G3 := G2.ext E3
      have nD3 : ¬ S3 D := fun z => (E3.new D z).elim nD2 (by rw [hws]; simp)
      have hws3 : H3 D = some (.lst ws) := E3.keep D _ hws
      have rws3 := RpL.up E3.up rws
      refine ⟨S3, ρc, d, ρ3, G3, rp, eg, fun σ4 G4 F4 O4 => ?_⟩
      rw [hv] at O4
      have hwp : wipe σ4 vs = wipe σ vs := by
        have O4' : Sto vs (wipeE ρc vs) (wipe (wipe σ vs) vs) ρ3 σ4 := by
          have e1 : wipeE ρc vs = ρc := by
            apply List.ext_getElem?
            intro j
            by_cases hj : j ∈ vs
            · cases h1 : ρc[j]? with
              | none => rw [List.getElem?_eq_none_iff] at h1 ⊢; rw [wipeE_len]; exact h1
              | some x =>
                have hx := hc j x hj h1
                have hlt := (List.getElem?_eq_some_iff.mp h1).1
                have hlt2 : j < (wipeE ρc vs).length := by rw [wipeE_len]; exact hlt
                rw [List.getElem?_eq_getElem hlt2, wipeE_on hj (List.getElem?_eq_getElem hlt2), hx]
            · exact wipeE_off hj
          have e2 : wipe (wipe σ vs) vs = wipe σ vs := by
            have := wipe_sto (ρ := ρc) (σ := σ) (vs := vs) (ρ2 := wipeE ρc vs) (σ2 := wipe σ vs) Sto.refl
            exact this
          rw [e1, e2]; exact O4
        have := wipe_sto O4'
        have e2 : wipe (wipe σ vs) vs = wipe σ vs := wipe_sto (ρ := ρc) (σ := σ) (vs := vs) (ρ2 := wipeE ρc vs) (σ2 := wipe σ vs) Sto.refl
        rw [this, e2]
      refine ⟨hwp, ?_⟩
      have hl3 : ρ3.length = ρc.length := F4.len
      cases et : t ρ3 with
      | none => rw [et] at e3; cases e3
      | some p =>
        obtain ⟨b, ρ4⟩ := p
        rw [et] at e3
        refine ⟨S3, ρ3, b, ρ4, G4, et, fun S5 H5 F5 G5 => ?_⟩
        have nMD3 : ¬ Mu ρ3 σ4 D := fun z => (F4.mu z).elim nMD (by rw [hws3]; simp)
        have keepD : ∀ {Sx : Addr → Prop} {ρx : Rho} {Hx : Hp}, Fm S3 ρ3 σ4 H3 Sx ρx Hx → Hx D = some (.lst ws) ∧ ¬ Sx D := fun {Sx ρx Hx} f => ⟨f.keep D _ hws3 nMD3, fun z => (f.new D z).elim nD3 fun z => z.elim nMD3 (by rw [hws3]; simp)⟩
        have done : ∀ {Sx : Addr → Prop} {ρx : Rho} {Hx : Hp}, Fm S3 ρ3 σ4 H3 Sx ρx Hx → Gd K Sx ρx σ4 Hx → Gd K Sx (wipeE ρx vs) (wipe σ vs) Hx ∧ Fm S1 (wipeE ρ1 vs) (wipe σ vs) H1 Sx (wipeE ρx vs) Hx := fun {Sx ρx Hx} f gx => by
          obtain ⟨b1, b2⟩ := turn_back hc O4 (by rw [wipe_length]; exact (by have := G2.len; rw [wipe_length] at this; exact this.symm)) gx f G3 hl3 hwp
          exact ⟨b1, F2.trans (E3.fr.trans b2)⟩
        cases b with
        | false =>
          dsimp only at e3
          obtain ⟨b1, b2⟩ := done F5 G5
          obtain ⟨k1, k2⟩ := keepD F5
          exact iteF ⟨S5, wipeE ρ4 vs, acc, b1, fun j x hj hx => wipeE_on hj hx, b2, k2, ⟨ws, k1, RpL.up (F5.up G4) rws3⟩, e3⟩
        | true =>
          dsimp only at e3
          refine iteT ?_
          cases ee : bindM fe keepR ρ4 with
          | none => rw [ee] at e3; cases e3
          | some p =>
            obtain ⟨yd, ρ6⟩ := p
            rw [ee] at e3
            dsimp only at e3
            obtain ⟨r6, ρ5, e6, e7⟩ := bindM_some ee
            split at e3
            · rename_i hlim
              refine ⟨S5, ρ4, r6, ρ5, G5, e6, fun v S6 H6 F6 G6 R6 => ?_⟩
              have n6 : Now K σ4 S3 ρ3 H3 S6 ρ5 H6 := (⟨G4, F5, G5⟩ : Now K σ4 S3 ρ3 H3 S5 ρ4 H5).step F6 G6
              have R6' : RR K H3 S6 H6 ρ5 σ4 v r6 := R6.pre ⟨G4, F5, G5⟩
              obtain ⟨S7, n7, p7, sh7⟩ := R6'.w.keep n6 e7
              obtain ⟨k1, k2⟩ := keepD n7.f
              obtain ⟨b1, b2⟩ := done n7.f n7.g
              have rws7 := RpL.up (n7.f.up G4) rws3
              have al7 := n7.g.al
              have u7 : Uph S7 H6 S7 (upd H6 D (.lst (ws ++ [v]))) := ⟨fun _ h => h, fun b o hb hh => by rw [upd_ne (show b ≠ D from fun z => k2 (z ▸ hb))]; exact hh⟩
              have nMw : ¬ Mu (wipeE ρ6 vs) (wipe σ vs) D := fun z => Mu.there (G1.wiped (vs := vs)) (b2.mu z) hD
              refine ⟨ws, k1, by rw [rws7.len]; exact lim_lt hlim, S7, wipeE ρ6 vs, acc ++ [yd], ?_, fun j x hj hx => wipeE_on hj hx, ⟨fun b hb => ?_, fun b o hb nm => ?_, b2.sh, b2.new, b2.len, b2.non, b2.sts⟩, k2, ⟨ws ++ [v], upd_same, (RpL.up u7 rws7).app (.cons (Rp.up u7 p7) .nil)⟩, e3⟩
              · -- the new list has one more item: no slot holds it
                refine ⟨b1.len, fun j st d' hj => ?_, b1.ne, fun b hb => ?_⟩
                · obtain ⟨w', z1, z2⟩ := b1.sl j st d' hj
                  refine ⟨w', z1, ?_⟩
                  have other : ∀ b, w' = .ref b → st.hold = true → b ≠ D := fun b eb hh zz => by
                    subst eb
                    obtain ⟨d2, hj2⟩ := b2.held hj hh
                    have := (G1.wiped (vs := vs)).held hj2 hh z1
                    rw [zz] at this
                    exact this hD
                  cases st with
                  | shr => exact Rp.up u7 z2
                  | own => obtain ⟨b, rfl, ns, tx⟩ := z2; exact ⟨b, rfl, ns, TopX.up u7 (fun o hh => by rw [upd_ne (other b rfl rfl)]; exact hh) tx⟩
                  | lent => obtain ⟨b, rfl, ns, tx⟩ := z2; exact ⟨b, rfl, ns, TopX.up u7 (fun o hh => by rw [upd_ne (other b rfl rfl)]; exact hh) tx⟩
                  | bor => obtain ⟨b, rfl, ns, tx⟩ := z2; exact ⟨b, rfl, ns, TopR.up u7 (fun o hh => by rw [upd_ne (other b rfl rfl)]; exact hh) tx⟩
                  | scr =>
                    obtain ⟨b, ns1, rfl, e1, k⟩ := z2
                    refine ⟨b, ns1, rfl, e1, KLst.keep (fun o hh => ?_) k⟩
                    rw [upd_ne (ne_of hh k1 (by intro z; cases z))]
                    exact hh
                · by_cases z : b = D
                  · exact absurd (z ▸ hb) k2
                  · rw [upd_ne z]; exact b1.al b hb
              · by_cases z : b = D
                · rw [z, upd_same]; simp
                · rw [upd_ne z]; exact b2.dom b hb
              · rw [upd_ne (ne_of_none hb hD)]
                exact b2.keep b o hb nm
            · cases e3
  · have hie : ds.drop i = [] := List.drop_eq_nil_of_le (by omega)
    rw [hie] at e3
    cases retM_some e3
    exact .inl ⟨w2 (by omega), fin S2 H2 ws G2 F2 nD2 hws rws⟩
/-! ### a heap without one object -/
def del (H : Hp) (D : Addr) : Hp := fun a => if a = D then none else H a
theorem del_same {H : Hp} {D : Addr} : del H D D = none := if_pos rfl
theorem del_ne {H : Hp} {D a : Addr} (h : a ≠ D) : del H D a = H a := if_neg h
theorem del_some {H : Hp} {D a : Addr} {o} (h : del H D a = some o) : a ≠ D ∧ H a = some o := by
  by_cases z : a = D
  · subst z; rw [del_same] at h; cases h
  · rw [del_ne z] at h; exact ⟨z, h⟩
section
variable {K : PySem.W.Frag} {S S' : Addr → Prop} {ρ ρ' : Rho} {σ : L2.St} {H H' : Hp} {D : Addr}
theorem Fm.del (f : Fm S ρ σ H S' ρ' H') (h : ¬ S' D) : Fm S ρ σ (del H D) S' ρ' (PyI.del H' D) :=
  ⟨fun a ha => by
    cases e : PyI.del H D a with
    | none => exact absurd e ha
    | some o =>
      obtain ⟨z, e2⟩ := del_some e
      rw [del_ne z]
      exact f.dom a (by rw [e2]; simp),
   fun a o e nm => by
    obtain ⟨z, e2⟩ := del_some e
    rw [del_ne z]; exact f.keep a o e2 nm,
   f.sh, fun a ha => by
    have z : a ≠ D := fun z => h (z ▸ ha)
    rw [del_ne z]; exact f.new a ha, f.len, f.non, f.sts⟩
theorem Fm.toDel (f : Fm S ρ σ H S' ρ' H') (h : H D = none) : Fm S ρ σ H S' ρ' (PyI.del H' D) :=
  ⟨fun a ha => by
    have z : a ≠ D := fun z => ha (z ▸ h)
    rw [del_ne z]; exact f.dom a ha,
   fun a o e nm => by
    have z : a ≠ D := fun z => by rw [z, h] at e; cases e
    rw [del_ne z]; exact f.keep a o e nm,
   f.sh, f.new, f.len, f.non, f.sts⟩
theorem up_del (h : ¬ S D) : Uph S H S (del H D) := ⟨fun _ h => h, fun b o hb e => by rw [del_ne (fun z : b = D => h (z ▸ hb))]; exact e⟩
theorem Gd.del {ws : List V} (g : Gd K S ρ σ H) (h : ¬ S D) (hd : H D = some (.lst ws)) (no : ∀ (i : Nat) (st : Stt) (d : PyData), ρ[i]? = some (some (st, d)) → st.hold = true → σ[i]? ≠ some (some (V.ref D))) : Gd K S ρ σ (del H D) := by
  have u := up_del (H := H) h
  refine ⟨g.len, fun i st d hi => ?_, g.ne, fun b hb => ?_⟩
  · obtain ⟨w, z1, z2⟩ := g.sl i st d hi
    refine ⟨w, z1, ?_⟩
    have other : ∀ b, w = .ref b → st.hold = true → b ≠ D := fun b eb hh zz => no i st d hi hh (by rw [z1, eb, zz])
    cases st with
    | shr => exact Rp.up u z2
    | own => obtain ⟨b, rfl, ns, tx⟩ := z2; exact ⟨b, rfl, ns, TopX.up u (fun o hh => by rw [del_ne (other b rfl rfl)]; exact hh) tx⟩
    | lent => obtain ⟨b, rfl, ns, tx⟩ := z2; exact ⟨b, rfl, ns, TopX.up u (fun o hh => by rw [del_ne (other b rfl rfl)]; exact hh) tx⟩
    | bor => obtain ⟨b, rfl, ns, tx⟩ := z2; exact ⟨b, rfl, ns, TopR.up u (fun o hh => by rw [del_ne (other b rfl rfl)]; exact hh) tx⟩
    | scr =>
      obtain ⟨b, ns1, rfl, e1, k⟩ := z2
      refine ⟨b, ns1, rfl, e1, KLst.keep (fun o hh => ?_) k⟩
      rw [del_ne (ne_of hh hd (by intro z; cases z))]
      exact hh
  · rw [del_ne (fun z : b = D => h (z ▸ hb))]; exact g.al b hb
theorem Walk.del {J : It} {ds : List PyData} (w : Walk K J ds (fun _ => False) S H) (h : ¬ S D) : Walk K J ds (fun _ => False) S (PyI.del H D) := fun S2 H2 i u _ al =>
  w S2 H2 i ⟨u.sh, fun b o hb e => u.at' b o hb (by rw [del_ne (fun z : b = D => h (z ▸ hb))]; exact e)⟩ (fun _ _ z => z.elim) al
theorem upd_del {ws : List V} (h : H D = some (.lst ws)) : upd (del H D) D (.lst ws) = H := by
  funext a
  by_cases z : a = D
  · subst z; rw [upd_same, h]
  · rw [upd_ne z, del_ne z]
end
/-! ### what is walked, handed on -/
def tI0 (K : PySem.W.Frag) (f : Mo (List PyData)) : TI := fun σ H R => ∃ S ρ ds ρ', Gd K S ρ σ H ∧ f ρ = some (ds, ρ') ∧ ∀ J S' H', Fm S ρ σ H S' ρ' H' → Gd K S' ρ' σ H' → Walk K J ds (fun _ => False) S' H' → R J H'
abbrev ID0 (X : Cx) (tg iter : Expr) (f : Mo (List PyData)) : Prop := PI X tg iter (tI0 X.K f)
def iK (f : Mo Rs) : Mo (List PyData) := bindM f fun r => bindM (keepR r) fun d => optM (seqOf d)
theorem id0_seq {X : Cx} {tg l : Expr} {f : Mo Rs} (hl : PD X l f) : ID0 X tg l (iK f) := PI.to (pi_seq hl) fun σ H R h => by
  obtain ⟨S, ρ, ds, ρ', G, e, q⟩ := h
  obtain ⟨r, ρ1, e1, e2⟩ := bindM_some e
  obtain ⟨d, ρ2, e3, e4⟩ := bindM_some e2
  obtain ⟨e5, e6⟩ := optM_some e4
  simp only at e5 e6
  subst e6
  refine ⟨S, ρ, r, ρ1, G, e1, fun v S1 H1 F1 G1 R1 => ?_⟩
  obtain ⟨S2, n2, p, _⟩ := R1.w.keep ⟨G, F1, G1⟩ e3
  cases d with
  | list xs =>
    cases e5
    cases p with
    | lst hs h1 h2 => exact ⟨_, rfl, .inl ⟨_, SqL.of h1, q _ S2 H1 n2.f n2.g (walk_list h1 h2 (.inl hs))⟩⟩
  | tuple xs =>
    cases e5
    cases p with
    | tup h1 h2 _ => exact ⟨_, rfl, .inr ⟨_, h1.sqT, q _ S2 H1 n2.f n2.g (walk_tup h1 h2)⟩⟩
  | _ => cases e5
end PyI

/-! PyI, part S: [elt for target in iter if .. for target1 in iter1 if ..]. -/
namespace PyI
open PySem PySem.Spec L2
def lc2M (vs vs1 : List Nat) (g : G1) (t : Mo Bool) (fi1 : Mo (List PyData)) (g1 : G1) (t1 : Mo Bool) (fe : Mo Rs) : List PyData → List PyData → Mo (List PyData)
  | [], acc => retM acc
  | d :: ds, acc => fun ρ => match g.run d ρ with
    | none => none
    | some (_, ρ1) => match t ρ1 with
      | none => none
      | some (false, ρ2) => lc2M vs vs1 g t fi1 g1 t1 fe ds acc (wipeE ρ2 vs)
      | some (true, ρ2) => match fi1 ρ2 with
        | none => none
        | some (ds1, ρ3) => match lcM vs1 g1 t1 fe ds1 acc (wipeE ρ3 vs1) with
          | none => none
          | some (acc1, ρ4) => lc2M vs vs1 g t fi1 g1 t1 fe ds acc1 (wipeE (restE ρ3 ρ4 vs1) vs)
def xLc2 (vs vs1 : List Nat) (fi : Mo (List PyData)) (g : G1) (t : Mo Bool) (fi1 : Mo (List PyData)) (g1 : G1) (t1 : Mo Bool) (fe : Mo Rs) : Mo Rs := fun ρ => match fi ρ with
  | none => none
  | some (ds, ρ1) => match lc2M vs vs1 g t fi1 g1 t1 fe ds [] (wipeE ρ1 vs) with
    | none => none
    | some (acc, ρ2) => some (.fresh (.list acc), restE ρ1 ρ2 vs)
theorem Sto.more {vs vs' : List Nat} {ρ ρ2 : Rho} {σ σ2 : L2.St} (o : Sto vs ρ σ ρ2 σ2) (h : ∀ i ∈ vs, i ∈ vs') : Sto vs' ρ σ ρ2 σ2 :=
  ⟨o.len, fun i hi => o.off i fun z => hi (h i z), fun i st d hi e => by
    by_cases z : i ∈ vs
    · exact o.on i st d z e
    · rw [(o.off i z).1] at e; exact .inr e⟩
theorem lc2_walk {K : PySem.W.Frag} {vs vs1 : List Nat} {g : G1} {t : Mo Bool} {fi1 : Mo (List PyData)} {g1 : G1} {t1 : Mo Bool} {fe : Mo Rs} {σ : L2.St} {ds : List PyData} {S1 : Addr → Prop} {ρ1 ρ2 : Rho} {H1 : Hp} {J : It} {T : Addr → Prop} {D : Addr} {accE : List PyData} {Qfin : Hp → Prop}
    (hv : ∀ i ∈ g.vs, i ∈ vs) (hv1 : g1.vs = vs1) (G1 : Gd K S1 ρ1 σ H1) (hT : ∀ a, T a → H1 a ≠ none ∧ ¬ Mu ρ1 σ a) (W : Walk K J ds T S1 H1) (hD : H1 D = none) (el : lc2M vs vs1 g t fi1 g1 t1 fe ds [] (wipeE ρ1 vs) = some (accE, ρ2))
    (fin : ∀ S2 H2 ws, Gd K S2 ρ2 (wipe σ vs) H2 → Fm S1 (wipeE ρ1 vs) (wipe σ vs) H1 S2 ρ2 H2 → ¬ S2 D → H2 D = some (.lst ws) → RpL K S2 H2 ws accE → Qfin H2) :
    ∃ W : Nat → Nat → Hp → Prop, (∃ m, W 0 m (upd H1 D (.lst []))) ∧ ∀ i m H, W i m H →
      (J.stop i H ∧ Qfin H) ∨ (J.go i H ∧ ∃ Nx : Hp → Prop, (∀ H', Nx H' → ∃ m', m' < m ∧ W (i + 1) m' H') ∧ ∀ x H', J.yld i H x H' → tG K g x (wipe σ vs) H' fun σ2 H2 => wipe σ2 vs = wipe σ vs ∧ tT K t σ2 H2 fun b H3 =>
        if b = true then tI0 K fi1 σ2 H3 fun J1 H4 => ∃ W1 : Nat → Nat → Hp → Prop, (∃ m, W1 0 m H4) ∧ ∀ j k H, W1 j k H →
          (J1.stop j H ∧ Nx H) ∨ (J1.go j H ∧ ∃ Nx1 : Hp → Prop, (∀ H', Nx1 H' → ∃ k', k' < k ∧ W1 (j + 1) k' H') ∧ ∀ x H', J1.yld j H x H' → tG K g1 x (wipe σ2 vs1) H' fun σ3 H5 => wipe σ3 vs1 = wipe σ2 vs1 ∧ tT K t1 σ3 H5 fun b H6 =>
            if b = true then tD K fe σ3 H6 fun y H7 => ∃ acc, H7 D = some (.lst acc) ∧ acc.length < sizeLine ∧ Nx1 (upd H7 D (.lst (acc ++ [y]))) else Nx1 H6)
        else Nx H3) := by
  have E0 : Gw S1 H1 S1 (upd H1 D (.lst [])) := Gw.lay G1.al hD
  have nSD : ¬ S1 D := fun z => G1.al D z hD
  have Gw0 : Gd K S1 (wipeE ρ1 vs) (wipe σ vs) (upd H1 D (.lst [])) := (G1.wiped (vs := vs)).ext E0
  refine ⟨fun i m H2 => ∃ S2 ρc acc, Gd K S2 ρc (wipe σ vs) H2 ∧ (∀ (j : Nat) (x : Option (Stt × PyData)), j ∈ vs → ρc[j]? = some x → x = none) ∧ Fm S1 (wipeE ρ1 vs) (wipe σ vs) H1 S2 ρc H2 ∧ ¬ S2 D ∧ (∃ ws, H2 D = some (.lst ws) ∧ RpL K S2 H2 ws acc) ∧ i ≤ ds.length ∧ m = ds.length - i ∧
    lc2M vs vs1 g t fi1 g1 t1 fe (ds.drop i) acc ρc = some (accE, ρ2), ⟨ds.length, S1, wipeE ρ1 vs, [], Gw0, fun j x hj hx => wipeE_on hj hx, E0.fr, nSD, ⟨[], upd_same, .nil⟩, Nat.zero_le _, rfl, el⟩, ?_⟩
  rintro i m H2 ⟨S2, ρc, acc, G2, hc, F2, nD2, ⟨ws, hws, rws⟩, hi, rfl, e3⟩
  have u : Uph S1 H1 S2 H2 := ⟨F2.sh, fun a o hs ha => F2.keep a o ha fun z => (G1.wiped (vs := vs)).notMu hs z⟩
  have tt : ∀ a o, T a → H1 a = some o → H2 a = some o := fun a o ha h => F2.keep a o h fun z => (hT a ha).2 z.wiped
  obtain ⟨w1, w2⟩ := W S2 H2 i u tt G2.al
  have nMD : ¬ Mu ρc (wipe σ vs) D := fun z => Mu.there (G1.wiped (vs := vs)) (F2.mu z) hD
  by_cases hlt : i < ds.length
  · obtain ⟨go, yl⟩ := w1 hlt
    refine .inr ⟨go, fun H' => ∃ S' ρ2' acc', Gd K S' ρ2' (wipe σ vs) H' ∧ (∀ (j : Nat) (x : Option (Stt × PyData)), j ∈ vs → ρ2'[j]? = some x → x = none) ∧ Fm S1 (wipeE ρ1 vs) (wipe σ vs) H1 S' ρ2' H' ∧ ¬ S' D ∧ (∃ ws, H' D = some (.lst ws) ∧ RpL K S' H' ws acc') ∧
      lc2M vs vs1 g t fi1 g1 t1 fe (ds.drop (i + 1)) acc' ρ2' = some (accE, ρ2), fun H' ⟨S', ρ2', acc', a1, a2, a3, a4, a5, a6⟩ => ⟨ds.length - (i + 1), by omega, S', ρ2', acc', a1, a2, a3, a4, a5, hlt, rfl, a6⟩, fun x H3 y => ?_⟩
    obtain ⟨S3, d, E3, hd, rp⟩ := yl x H3 y
    have hdrop : ds.drop i = d :: ds.drop (i + 1) := by
      rw [List.drop_eq_getElem_cons hlt]
      rw [List.getElem?_eq_getElem hlt] at hd
      cases hd
      rfl
    rw [hdrop] at e3
    unfold lc2M at e3
    cases eg : g.run d ρc with
    | none => rw [eg] at e3; cases e3
    | some p =>
      obtain ⟨_, ρ3⟩ := p
      rw [eg] at e3
      dsimp only at e3
      have G3 := G2.ext E3
      have nD3 : ¬ S3 D := fun z => (E3.new D z).elim nD2 (by rw [hws]; simp)
      have hws3 : H3 D = some (.lst ws) := E3.keep D _ hws
      have rws3 := RpL.up E3.up rws
      refine ⟨S3, ρc, d, ρ3, G3, rp, eg, fun σ4 G4 F4 O4 => ?_⟩
      replace O4 := O4.more hv
      have hwp : wipe σ4 vs = wipe σ vs := by
        have O4' : Sto vs (wipeE ρc vs) (wipe (wipe σ vs) vs) ρ3 σ4 := by
          have e1 : wipeE ρc vs = ρc := by
            apply List.ext_getElem?
            intro j
            by_cases hj : j ∈ vs
            · cases h1 : ρc[j]? with
              | none => rw [List.getElem?_eq_none_iff] at h1 ⊢; rw [wipeE_len]; exact h1
              | some x =>
                have hx := hc j x hj h1
                have hlt := (List.getElem?_eq_some_iff.mp h1).1
                have hlt2 : j < (wipeE ρc vs).length := by rw [wipeE_len]; exact hlt
                rw [List.getElem?_eq_getElem hlt2, wipeE_on hj (List.getElem?_eq_getElem hlt2), hx]
            · exact wipeE_off hj
          have e2 : wipe (wipe σ vs) vs = wipe σ vs := by
            have := wipe_sto (ρ := ρc) (σ := σ) (vs := vs) (ρ2 := wipeE ρc vs) (σ2 := wipe σ vs) Sto.refl
            exact this
          rw [e1, e2]; exact O4
        have := wipe_sto O4'
        have e2 : wipe (wipe σ vs) vs = wipe σ vs := wipe_sto (ρ := ρc) (σ := σ) (vs := vs) (ρ2 := wipeE ρc vs) (σ2 := wipe σ vs) Sto.refl
        rw [this, e2]
      refine ⟨hwp, ?_⟩
      have hl3 : ρ3.length = ρc.length := F4.len
      have hlw : (wipe σ vs).length = ρc.length := by have := G2.len; exact this.symm
      cases et : t ρ3 with
      | none => rw [et] at e3; cases e3
      | some p =>
        obtain ⟨b, ρ4⟩ := p
        rw [et] at e3
        refine ⟨S3, ρ3, b, ρ4, G4, et, fun S5 H5 F5 G5 => ?_⟩
        have nMD3 : ¬ Mu ρ3 σ4 D := fun z => (F4.mu z).elim nMD (by rw [hws3]; simp)
        have keepD : ∀ {Sx : Addr → Prop} {ρx : Rho} {Hx : Hp}, Fm S3 ρ3 σ4 H3 Sx ρx Hx → Hx D = some (.lst ws) ∧ ¬ Sx D := fun {Sx ρx Hx} f => ⟨f.keep D _ hws3 nMD3, fun z => (f.new D z).elim nD3 fun z => z.elim nMD3 (by rw [hws3]; simp)⟩
        have F23 : Fm S1 (wipeE ρ1 vs) (wipe σ vs) H1 S3 ρc H3 := F2.trans E3.fr
        -- no held slot of the block's start is the new list
        have noC : ∀ (i : Nat) (st : Stt) (d : PyData), ρc[i]? = some (some (st, d)) → st.hold = true → (wipe σ vs)[i]? ≠ some (some (V.ref D)) := fun i st d hj hh z1 => by
          obtain ⟨d2, hj2⟩ := F2.held hj hh
          exact (G1.wiped (vs := vs)).held hj2 hh z1 hD
        have no4 : ∀ (i : Nat) (st : Stt) (d : PyData), ρ3[i]? = some (some (st, d)) → st.hold = true → σ4[i]? ≠ some (some (V.ref D)) := fun i st d hj hh z1 => by
          by_cases hiv : i ∈ vs
          · rcases O4.on i st d hiv hj with z | z
            · subst z; cases hh
            · have := hc i _ hiv z; cases this
          · rw [(O4.off i hiv).1] at hj
            rw [(O4.off i hiv).2] at z1
            exact noC i st d hj hh z1
        cases b with
        | false =>
          dsimp only at e3
          obtain ⟨b1, b2⟩ := turn_back hc O4 hlw G5 F5 G3 hl3 hwp
          obtain ⟨k1, k2⟩ := keepD F5
          exact iteF ⟨S5, wipeE ρ4 vs, acc, b1, fun j x hj hx => wipeE_on hj hx, F23.trans b2, k2, ⟨ws, k1, RpL.up (F5.up G4) rws3⟩, e3⟩
        | true =>
          dsimp only at e3
          refine iteT ?_
          cases ei : fi1 ρ4 with
          | none => rw [ei] at e3; cases e3
          | some p =>
            obtain ⟨ds1, ρ5⟩ := p
            rw [ei] at e3
            dsimp only at e3
            cases el1 : lcM vs1 g1 t1 fe ds1 acc (wipeE ρ5 vs1) with
            | none => rw [el1] at e3; cases e3
            | some p =>
              obtain ⟨acc1, ρE⟩ := p
              rw [el1] at e3
              dsimp only at e3
              refine ⟨S5, ρ4, ds1, ρ5, G5, ei, fun J1 S6 H6 F6 G6 W6 => ?_⟩
              have F56 : Fm S3 ρ3 σ4 H3 S6 ρ5 H6 := F5.trans F6
              obtain ⟨k1, k2⟩ := keepD F56
              have no6 : ∀ (i : Nat) (st : Stt) (d : PyData), ρ5[i]? = some (some (st, d)) → st.hold = true → σ4[i]? ≠ some (some (V.ref D)) := fun i st d hj hh z1 => by
                obtain ⟨d2, hj2⟩ := F56.held hj hh
                exact no4 i st d2 hj2 hh z1
              have G6d := G6.del k2 k1 no6
              have r6 := RpL.up (F56.up G4) rws3
              have := lc_walk (K := K) (vs := vs1) (g := g1) (t := t1) (fe := fe) (σ := σ4) (ds := ds1) (S1 := S6) (ρ1 := ρ5) (ρ2 := ρE) (H1 := del H6 D) (J := J1) (T := fun _ => False) (D := D) (ws0 := ws) (acc0 := acc) (accE := acc1)
                (Qfin := fun H' => ∃ S' ρ2' acc', Gd K S' ρ2' (wipe σ vs) H' ∧ (∀ (j : Nat) (x : Option (Stt × PyData)), j ∈ vs → ρ2'[j]? = some x → x = none) ∧ Fm S1 (wipeE ρ1 vs) (wipe σ vs) H1 S' ρ2' H' ∧ ¬ S' D ∧ (∃ ws, H' D = some (.lst ws) ∧ RpL K S' H' ws acc') ∧
      lc2M vs vs1 g t fi1 g1 t1 fe (ds.drop (i + 1)) acc' ρ2' = some (accE, ρ2))
                hv1 G6d (fun _ z => z.elim) (W6.del k2) del_same (RpL.up (up_del k2) r6) el1 ?_
              · rw [upd_del k1] at this
                exact this
              · intro S7 H7 ws7 G7 F7 nD7 hws7 rws7
                obtain ⟨c1, c2⟩ := block_back G6d G7 F7
                have f1 : Fm S3 ρ3 σ4 (del H3 D) S7 (restE ρ5 ρE vs1) H7 := (F56.del k2).trans c2
                obtain ⟨b1, b2⟩ := turn_back hc O4 hlw c1 f1 (G3.del nD3 hws3 noC) hl3 hwp
                exact ⟨S7, wipeE (restE ρ5 ρE vs1) vs, acc1, b1, fun j x hj hx => wipeE_on hj hx, (F23.toDel hD).trans b2, nD7, ⟨ws7, hws7, rws7⟩, e3⟩
  · have hie : ds.drop i = [] := List.drop_eq_nil_of_le (by omega)
    rw [hie] at e3
    cases retM_some e3
    exact .inl ⟨w2 (by omega), fin S2 H2 ws G2 F2 nD2 hws rws⟩
theorem lc2_ok {K : PySem.W.Frag} {vs vs1 : List Nat} {fi : Mo (List PyData)} {g : G1} {t : Mo Bool} {fi1 : Mo (List PyData)} {g1 : G1} {t1 : Mo Bool} {fe : Mo Rs} {σ : L2.St} {H : Hp} {Q : VK} (hv : ∀ i ∈ g.vs, i ∈ vs) (hv1 : g1.vs = vs1) (h : tD K (xLc2 vs vs1 fi g t fi1 g1 t1 fe) σ H Q) :
    tLc2 (tI K fi) (tG K g) (tT K t) (tI0 K fi1) (tG K g1) (tT K t1) (tD K fe) vs vs1 σ H Q := by
  obtain ⟨S, ρ, r, ρ', G, e, q⟩ := h
  unfold xLc2 at e
  cases ei : fi ρ with
  | none => rw [ei] at e; cases e
  | some p =>
    obtain ⟨ds, ρ1⟩ := p
    rw [ei] at e
    dsimp only at e
    cases el : lc2M vs vs1 g t fi1 g1 t1 fe ds [] (wipeE ρ1 vs) with
    | none => rw [el] at e; cases e
    | some p =>
      obtain ⟨accE, ρ2⟩ := p
      rw [el] at e
      cases e
      refine ⟨S, ρ, ds, ρ1, G, ei, fun J S1 H1 T F1 G1 hT W D hD => ?_⟩
      exact lc2_walk hv hv1 G1 hT W hD el fun S2 H2 ws G2 F2 nD2 hws rws => by
        obtain ⟨c1, c2⟩ := block_back G1 G2 F2
        have n1 : Now K σ S ρ H S1 ρ1 H1 := ⟨G, F1, G1⟩
        exact q (.ref D) S2 H2 (F1.trans c2) c1 ⟨D, rfl, n1.none0 hD, nD2, ws, hws, rws⟩
section
variable {X : Cx} {elt tg iter tg1 iter1 : Expr} {ifs ifs1 : List Expr} {scope : Scope} {pos : Pos} {fi fi1 : Mo (List PyData)} {g g1 : G1} {t t1 : Mo Bool} {fe : Mo Rs} {vs1 : List Nat}
theorem pd_lc2 (own : List (Str × Nat)) (hc : X.calm = true) (hN : X.N.Nodup) (hi : ID X tg iter fi) (ok : BlkOk X.N X.env.scope scope own) (hv : ∀ i ∈ g.vs, i ∈ own.map (·.2)) (hv1 : g1.vs = vs1) (hs1 : ∀ i ∈ vs1, i ∈ own.map (·.2))
    (hg : ∀ (s : Shared) (H : Hp) (C : Addr) (cl : List (Str × Addr)) (fp : List Addr), GD (X.blk s H scope (compEnvC scope cl C X.env) fp) tg g) (ht : ∀ (s : Shared) (H : Hp) (C : Addr) (cl : List (Str × Addr)) (fp : List Addr), TsD (X.blk s H scope (compEnvC scope cl C X.env) fp) ifs t)
    (hi1 : ∀ (s : Shared) (H : Hp) (C : Addr) (cl : List (Str × Addr)) (fp : List Addr), ID0 (X.blk s H scope (compEnvC scope cl C X.env) fp) tg1 iter1 fi1)
    (hg1 : ∀ (s : Shared) (H : Hp) (C : Addr) (cl : List (Str × Addr)) (fp : List Addr), GD (X.blk s H scope (compEnvC scope cl C X.env) fp) tg1 g1) (ht1 : ∀ (s : Shared) (H : Hp) (C : Addr) (cl : List (Str × Addr)) (fp : List Addr), TsD (X.blk s H scope (compEnvC scope cl C X.env) fp) ifs1 t1)
    (he : ∀ (s : Shared) (H : Hp) (C : Addr) (cl : List (Str × Addr)) (fp : List Addr), PD (X.blk s H scope (compEnvC scope cl C X.env) fp) elt fe) (hs : ∀ x, foldedSetIterable iter X.env x = pure x := by intro _; rfl) (hs1' : ∀ env x, foldedSetIterable iter1 env x = pure x := by intro _ _; rfl) :
    PD X (.ListComp elt [⟨tg, iter, ifs, 0⟩, ⟨tg1, iter1, ifs1, 0⟩] scope pos) (xLc2 (own.map (·.2)) vs1 fi g t fi1 g1 t1 fe) := PE.to (pe_lc2 hc hN hi ok hs1 hg ht hi1 hg1 ht1 he hs hs1') fun σ H Q h => lc2_ok hv hv1 h
end
end PyI

/-! PyI, part T: {k: v, ..}, {**d, k: v, ..}. -/
namespace PyI
open PySem PySem.Spec L2
section
variable {prog : Program} {w : World} {A : Around} {E : Value → Shared → Prop} {s : Shared}
theorem put_ok {d : Addr} {kvs : List (Key × Value)} {k : Key} {key v : Value} {Q : Unit → Shared → Prop} (hkey : (mixKind prog w).is k key = true) (hm : s.heap.DictOf (mixKind prog w) d kvs)
    (hQ : ∀ h', h'.DictOf (mixKind prog w) d (stored kvs k v) → Heap.SameBut d s.heap h' → Q () { s with heap := h' })
    (hsz : kvs.length ≤ sizeLine) : wpAny (model prog w) A (dictPut d ((mixKind prog w).hash k) key v) Q E s := by
  obtain ⟨o, es, ep, ho, hc, hd, hk, hp, hn⟩ := hm
  have hes : es.size ≤ sizeLine := by have e1 := hp.length; have e2 : es.toList.length = es.size := by simp
                                      omega
  unfold dictPut
  refine wpAny_bind (wpAny_dictFind_of hkey ho hd hk ?_)
  have hidx : (es.findIdx? fun e => (mixKind prog w).is k e.key) = kvs.findIdx? fun kv => decide (kv.1 = k) := by
    rw [← hp.findIdx k]; obtain ⟨l⟩ := es; simp
  cases hi : es.findIdx? fun e => (mixKind prog w).is k e.key with
  | some i =>
    refine wpAny_updateDict ho hd (hQ _ ⟨_, _, ep, Heap.get?_update_self _ ho (Obj.isFreed_of_dict (Obj.data_mapDict hd _)),
      hc.mapDict _, Obj.data_mapDict hd _, hk.modify _ _, ?_, ?_⟩ (Heap.SameBut.update ..))
    · rw [stored, if_pos (any_of_findIdx_some (hidx ▸ hi))]
      have hl : (es.toList.findIdx? fun e => (mixKind prog w).is k e.key) = some i := by rw [← hi]; obtain ⟨l⟩ := es; simp
      have := hp.modify hn hl v
      obtain ⟨l⟩ := es
      simpa using this
    · rw [stored, if_pos (any_of_findIdx_some (hidx ▸ hi)), keys_map_store]; exact hn
  | none =>
    have hnot : k ∉ kvs.map (·.1) := not_mem_of_findIdx_none (hidx ▸ hi)
    have hany : ¬ (kvs.any fun kv => decide (kv.1 = k)) = true := by
      rw [List.any_eq_true]; rintro ⟨kv, hkv, he⟩
      exact hnot (List.mem_map.mpr ⟨kv, hkv, of_decide_eq_true he⟩)
    refine wpAny_updateDictKeys (hz := hes) ho hd (hQ _ ⟨_, _, ep + 1, Heap.get?_update_self _ ho (Obj.isFreed_of_dict (Obj.data_mapDictKeys hd _)),
      hc.mapDictKeys _, Obj.data_mapDictKeys hd _, hk.push hkey _, ?_, ?_⟩ (Heap.SameBut.update ..))
    · rw [stored, if_neg hany]
      have := hp.append hkey ((mixKind prog w).hash k) v
      obtain ⟨l⟩ := es
      simpa using this
    · rw [stored, if_neg hany, List.map_append, List.nodup_append]
      refine ⟨hn, by simp, ?_⟩
      intro a ha b hb
      simp only [List.map_cons, List.map_nil, List.mem_singleton] at hb
      subst hb
      exact fun e => hnot (e ▸ ha)
theorem loop_nil {α : Type} (f : α → PUnit → Sem (ForInStep PUnit)) : ∀ l : List α, (∀ e ∈ l, f e PUnit.unit = pure (.yield PUnit.unit)) → forIn l PUnit.unit f = pure PUnit.unit
  | [], _ => rfl
  | e :: l, h => by
    rw [List.forIn_cons, h e List.mem_cons_self, pure_bind]
    exact loop_nil f l fun x hx => h x (List.mem_cons_of_mem _ hx)
theorem mergeM_ok {d o : Addr} {kvs more : List (Key × Value)} {Q : Unit → Shared → Prop} (hdo : d ≠ o) (hoS : (o == sysModules) = false)
    (hd : s.heap.DictOf (mixKind prog w) d kvs) (ho : s.heap.DictOf (mixKind prog w) o more)
    (hQ : ∀ h', h'.DictOf (mixKind prog w) d (merged kvs more) → h'.DictOf (mixKind prog w) o more → Heap.SameBut d s.heap h' → Q () { s with heap := h' })
    (hsz : kvs.length + more.length ≤ sizeLine) :
    wpAny (model prog w) A (mergeMapping d (.ref o) false) Q E s := by
  obtain ⟨od, esd, epd, hod, hcd, hdd, hkd, hpd, hnd⟩ := id hd
  obtain ⟨oo, eso, epo, hoo, hco, hdo', hko, hpo, hno⟩ := id ho
  have hlen : more.length = eso.size := by rw [← hpo.length]; simp
  unfold mergeMapping
  refine wpAny_bind (wpAny_isInstance ho.typeIs isSubtype_dict_dict ?_)
  dsimp only
  rw [if_pos rfl]
  refine wpAny_bind (wpAny_specialOf ho.typeIs F.slot_dict_iter.lookup ?_)
  refine wpAny_bind (wpAny_pure ?_)
  simp only [beq_self_eq_true, hoS, Bool.false_eq_true, if_false]
  refine wpAny_bind (wpAny_dictEntries hod hdd ?_)
  have noref : ∀ e ∈ eso.toList, ∀ a, e.key ≠ .ref a := fun e he a z => by
    obtain ⟨k', hkey, _⟩ := hko e (by simpa using he)
    rcases keyIs_shape hkey with ⟨i, t, _, e1⟩ | ⟨x, t, _, e1⟩ <;> (rw [z] at e1; cases e1)
  have rest : wpAny (model prog w) A (do
      let l ← dictEntries o
      let epoch ← dictEpoch o
      forIn (List.range l.size) PUnit.unit fun i (_ : PUnit) => (do
          let l' ← dictEntries o
          match l'[i]? with
            | some e => do
              holding [e.key, e.val] (dictPut d e.hash e.key e.val)
              let ep' ← dictEpoch o
              if (ep' != epoch) = true then do
                  (unsupported "dict.changed-during-merge" : Sem PUnit)
                  pure (ForInStep.yield PUnit.unit)
                else pure (ForInStep.yield PUnit.unit)
            | _ => do
              (unsupported "dict.changed-during-merge" : Sem PUnit)
              pure (ForInStep.yield PUnit.unit) : Sem (ForInStep PUnit))
      pure ()) Q E s := by
    refine wpAny_bind (wpAny_dictEntries hoo hdo' ?_)
    refine wpAny_bind (wpAny_dictEpoch hoo hdo' ?_)
    refine wpAny_bind ?_
    rw [List.range_eq_range']
    refine wpAny_forIn_list _
      (fun rest _ s' => ∃ h' i, s' = { s with heap := h' } ∧ rest = List.range' i (eso.size - i) ∧ i ≤ eso.size ∧ h'.DictOf (mixKind prog w) d (merged kvs (more.take i)) ∧ h'.get? o = some oo ∧ Heap.SameBut d s.heap h')
      _ ?_ ?_ _ _ ⟨s.heap, 0, rfl, by simp, Nat.zero_le _, by simpa [merged] using hd, hoo, Heap.SameBut.refl _ _⟩
    · rintro x rest b s' ⟨h', i, rfl, hr, hi, hd', hoo', hs'⟩
      have hlt : i < eso.size := by
        rcases Nat.lt_or_ge i eso.size with h | h
        · exact h
        · rw [Nat.sub_eq_zero_of_le h] at hr; simp at hr
      obtain ⟨rfl, hrest⟩ : x = i ∧ rest = List.range' (i + 1) (eso.size - (i + 1)) := by
        have e : eso.size - i = (eso.size - (i + 1)) + 1 := by omega
        rw [e, List.range'_succ] at hr
        injection hr with h1 h2
        exact ⟨h1, h2⟩
      refine wpAny_bind (wpAny_dictEntries hoo' hdo' ?_)
      rw [Array.getElem?_eq_getElem hlt]
      obtain ⟨kv, hkv⟩ : ∃ kv, more[x]? = some kv := ⟨more[x]'(by rw [hlen]; exact hlt), List.getElem?_eq_getElem _⟩
      obtain ⟨k, v⟩ := kv
      obtain ⟨hkey, hval⟩ := hpo.get? (e := eso[x]) (by simp [hlt]) hkv
      obtain ⟨k', hkey', hhash⟩ := hko eso[x] (Array.getElem_mem hlt)
      obtain rfl : k' = k := (mixKind prog w).inj _ _ _ hkey' hkey
      show wpAny _ _ (holding [eso[x].key, eso[x].val] (dictPut d eso[x].hash eso[x].key eso[x].val) >>= _) _ _ _
      rw [hhash, hval]
      have hmx : (merged kvs (more.take x)).length ≤ sizeLine := by
        have e1 := merged_length_le kvs (more.take x)
        have e2 : (more.take x).length ≤ more.length := by rw [List.length_take]; omega
        omega
      refine wpAny_bind (wpAny_holding (put_ok (hsz := hmx) hkey hd' fun h'' hd'' hs'' => ?_))
      have hoo'' : h''.get? o = some oo := (hs''.2 o (Ne.symm hdo)).trans hoo'
      refine wpAny_bind (wpAny_dictEpoch hoo'' hdo' ?_)
      rw [if_neg (by simp)]
      exact wpAny_pure ⟨h'', x + 1, rfl, hrest, hlt, by rw [merged_take_succ kvs more x (k', v) hkv]; exact hd'', hoo'', hs'.trans hs''⟩
    · rintro b s' ⟨h', i, rfl, hr, hi, hd', hoo', hs'⟩
      have hin : i = eso.size := by
        rcases Nat.lt_or_ge i eso.size with h | h
        · have e : eso.size - i = (eso.size - (i + 1)) + 1 := by omega
          rw [e, List.range'_succ] at hr; exact nomatch hr
        · exact Nat.le_antisymm hi h
      refine wpAny_pure (hQ h' ?_ ⟨oo, eso, epo, hoo', hco, hdo', hko, hpo, hno⟩ hs')
      rw [hin, ← hlen, List.take_length] at hd'; exact hd'
  split
  · refine wpAny_bind (wpAny_dictEntries hoo hdo' ?_)
    refine wpAny_bind ?_
    rw [← Array.forIn_toList, loop_nil _ _ fun e he => ?_]
    · exact wpAny_pure rest
    · have h1 := noref e he
      split
      · rename_i a ha; exact absurd ha (h1 a)
      · rfl
  · exact rest
theorem gather_some (d : Addr) (f : (Option (Sem Value) × Sem Value) → (Option Addr × List (Sem Value × Sem Value)) → Sem (ForInStep (Option Addr × List (Sem Value × Sem Value))))
    (hf : ∀ (p : Sem Value × Sem Value) (run : List (Sem Value × Sem Value)), run.length + 1 < 17 → f (some p.1, p.2) (some d, run) = pure (.yield (some d, run ++ [p]))) :
    ∀ (items run : List (Sem Value × Sem Value)), run.length + items.length < 17 → forIn (items.map fun p => (some p.1, p.2)) (some d, run) f = pure (some d, run ++ items)
  | [], run, _ => by simp
  | p :: rest, run, h => by
    rw [List.map_cons, List.forIn_cons, hf p run (by simp at h; omega), pure_bind]
    have := gather_some d f hf rest (run ++ [p]) (by simp at h ⊢; omega)
    simpa using this
theorem star_ok {tm : Sem Value} {pairs : List (Sem Value × Sem Value)} {Q : Value → Shared → Prop} (h0 : pairs ≠ []) (hlen : pairs.length < 17)
    (h : wpAny (model prog w) A (alloc { cls := .type "dict", data := .dict #[] }) (fun d s1 => wpAny (model prog w) A tm (fun m s2 => wpAny (model prog w) A (mergeMapping d m false) (fun _ s3 =>
      wpAny (model prog w) A (subDict pairs) (fun sub s4 => wpAny (model prog w) A (mergeMapping d (.ref sub) false) (fun _ s5 => Q (.ref d) s5) (fun _ _ => False) s4) E s3) (fun _ _ => False) s2) E s1) E s) :
    wpAny (model prog w) A (dictDisplay ((none, tm) :: pairs.map fun p => (some p.1, p.2))) Q E s := by
  unfold dictDisplay
  dsimp only
  rw [List.forIn_cons]
  refine wpAny_bind (wpAny_bind ?_)
  dsimp only
  refine wpAny_bind ?_
  show wpAny _ _ (pure none) _ _ _
  refine wpAny_pure ?_
  dsimp only
  refine wpAny_bind (wpAny_mono h (fun d s1 h1 => ?_) fun _ _ e => e)
  refine wpAny_bind (wpAny_holding (wpAny_mono h1 (fun m s2 h2 => ?_) fun _ _ e => e))
  refine wpAny_bind (wpAny_onRaise (wpAny_tryCatch (wpAny_onRaise (wpAny_holding (wpAny_mono h2 (fun _ s3 h3 => ?_) fun _ _ e => e.elim)))))
  refine wpAny_pure ?_
  dsimp only
  rw [gather_some d _ (fun p run hr => by
    have hne : ((run ++ [(p.1, p.2)]).length == 17) = false := by simp; omega
    simp only [hne, Bool.false_eq_true, if_false]) pairs [] (by simpa using hlen)]
  refine wpAny_pure ?_
  simp only [List.nil_append]
  have he : pairs.isEmpty = false := by cases pairs with | nil => exact absurd rfl h0 | cons _ _ => rfl
  rw [he]
  simp only [Bool.false_eq_true, if_false]
  refine wpAny_bind ?_
  refine wpAny_bind (wpAny_holding (wpAny_mono h3 (fun sub s4 h4 => ?_) fun _ _ e => e))
  refine wpAny_bind (wpAny_onRaise (wpAny_holding (wpAny_mono h4 (fun _ s5 h5 => ?_) fun _ _ e => e.elim)))
  exact wpAny_pure (wpAny_pure h5)
end
end PyI

/-! PyI, part U: the rules of {k: v, ..}, {**d, k: v, ..}. -/
namespace PyI
open PySem PySem.Spec L2
def tStar (tm : TE) (trs : List (TE × TE)) : TE := fun σ H Q => ∀ p, H p = none → tm σ (upd H p (.dK [])) fun x H1 => H1 p = some (.dK []) ∧ ∃ b ts, x = .ref b ∧ b ≠ p ∧ Rd H1 b (.dK ts) ∧ ts.length ≤ LIM ∧ ∀ q, upd H1 p (.dK (mergeK [] ts)) q = none →
  tPairs trs σ (upd (upd H1 p (.dK (mergeK [] ts))) q (.dK [])) fun ps H2 => H2 p = some (.dK (mergeK [] ts)) ∧ H2 q = some (.dK []) ∧ ∃ kvs : List (Key × V), ps = kvs.map (fun kv => (kV kv.1, kv.2)) ∧ kvs.length ≤ 15 ∧
    Q (.ref p) (upd (upd H2 q (.dK (mergeK [] kvs))) p (.dK (mergeK (mergeK [] ts) (mergeK [] kvs))))
theorem len_merge0 (ts : List (Key × V)) : (mergeK [] ts).length ≤ ts.length := by
  have := length_mergeK ts []
  rw [List.length_nil] at this; omega
theorem pe_star {X : Cx} {pos : Pos} {m : Expr} {keys : List (Option Expr)} {values : List Expr} {tm : TE} {trs : List (TE × TE)} (hm : PE X m tm) (h : PPs X pos keys values trs) (hall : keys.all (·.isSome) = true) (hl : keys.length = values.length) (h0 : keys ≠ [])
    (h15 : keys.length ≤ 15) : PE X (.Dict (none :: keys) (m :: values) pos) (tStar tm trs) := by
  refine ⟨fun pins s σ H Q I hq => ?_⟩
  have hn := I.hok.fresh (Nat.le_refl s.heap.objs.size)
  have hlen := pairTrees_length keys values X.env pos hall hl
  have hp0 : pairTrees keys values X.env pos ≠ [] := by
    intro he
    rw [he] at hlen
    exact h0 (List.length_eq_zero_iff.mp hlen.symm)
  have shape : (evalEachOpt (none :: keys) X.env).zip ((evalEach (m :: values) X.env).map fun v => do let x ← v; standAt pos; pure x) = (none, do let x ← eval m X.env; standAt pos; pure x) :: (pairTrees keys values X.env pos).map fun p => (some p.1, p.2) := by
    rw [← zip_pairTrees keys values X.env pos hall hl]; rfl
  rw [arm_eval_Dict, shape]
  have I1 := I.laid (a := s.heap.objs.size) (o := .dK []) (h' := s.heap.push { cls := .type "dict", data := .dict #[] }) (t' := s.toks) (fun _ _ q => Heap.get?_push_of_some _ q) (Nat.le_refl _) (dk_empty s.heap I.big)
  have hq1 := hq _ hn
  generalize hp : s.heap.objs.size = p at *
  refine wpAny_bind (wpAny_standAt (star_ok hp0 (by rw [hlen]; omega) (wpAny_alloc ?_)))
  rw [hp]
  refine wpAny_bind (thn (hm.run pins _ σ _ _ I1 hq1) fun u s2 ⟨x, H1, I2, rx, e1, b, ts, ex, nb, rb, hz, q1⟩ => wpAny_bind (wpAny_standAt (wpAny_pure ?_)))
  subst ex
  obtain rfl : u = Value.ref b := rx
  obtain ⟨z, hd, vs0, r0, dd⟩ := dk_of I2.hok e1
  cases r0
  obtain ⟨z2, hd2, vs2, rel2, dd2⟩ := dk_rd I2.hok rb
  have z3 : vs2.length ≤ LIM := by rw [← rel2.length]; exact hz
  refine mergeM_ok (Ne.symm nb) hd2 dd dd2 (fun h' dd' _ hs => ?_) (by rw [List.length_nil, Nat.zero_add]; exact lim_line z3)
  have he : ∃ q, h'.get? p = some q := let ⟨q, _, _, hq, _⟩ := dd'; ⟨q, hq⟩
  have I3 := d_write (t' := s2.toks) I2 (by rw [e1]; exact True.intro) hs he (dk_new (Nat.le_trans (len_merge0 ts) (lim_line hz)) hd (rel2.merge .nil) dd')
  have I4 := I3.laid (a := h'.objs.size) (o := .dK []) (h' := h'.push { cls := .type "dict", data := .dict #[] }) (t' := s2.toks) (fun _ _ q => Heap.get?_push_of_some _ q) (Nat.le_refl _) (dk_empty h' I3.big)
  have hq0 := I3.hok.fresh (Nat.le_refl h'.objs.size)
  have hpq : p ≠ h'.objs.size := fun z => by rw [← z, upd_same] at hq0; cases hq0
  refine wpAny_subDict (knd := mixKind X.prog X.w) (by rw [hlen]; exact h15) (thn (h.run pins _ σ _ _ I4 (q1 _ hq0)) fun ws s5 ⟨ps, H2, I5, rel, e3, e4, kvs, ep, lk, q2⟩ => ?_)
  subst ep
  obtain ⟨rs, c, rk⟩ := carries_of (P := X.prog) (w := X.w) rel
  show ∃ kvs, Carries (mixKind X.prog X.w) ws kvs ∧ s5.heap.DictOf (mixKind X.prog X.w) h'.objs.size [] ∧ _
  generalize hqq : h'.objs.size = q at *
  obtain ⟨z5, hd5, vs5, r5, dd5⟩ := dk_of I5.hok e4
  cases r5
  refine ⟨rs, c, dd5, fun h6 dd6 hs6 => ?_⟩
  have zk : (mergeK [] kvs).length ≤ 15 := Nat.le_trans (len_merge0 kvs) lk
  have z15 : (15 : Nat) ≤ sizeLine := by rw [sizeLine_eq]; omega
  have he6 : ∃ o, h6.get? q = some o := let ⟨o, _, _, ho, _⟩ := dd6; ⟨o, ho⟩
  have I6 := d_write (t' := s5.toks + ws.length) I5 (by rw [e4]; exact True.intro) hs6 he6 (dk_new (Nat.le_trans zk z15) hd5 (rk.merge .nil) dd6)
  have ep6 : (upd H2 q (HO.dK (mergeK [] kvs))) p = some (.dK (mergeK [] ts)) := by rw [upd_ne hpq]; exact e3
  obtain ⟨z7, hd7, vs7, r7, dd7⟩ := dk_of I6.hok ep6
  obtain ⟨z8, hd8, vs8, r8, dd8⟩ := dk_of I6.hok (upd_same (H := H2) (a := q) (o := .dK (mergeK [] kvs)))
  have zl : (mergeK [] ts).length + (mergeK [] kvs).length ≤ sizeLine := by
    have h1 := len_merge0 ts
    rw [sizeLine_eq]
    have : LIM = 1000000 := rfl
    omega
  refine mergeM_ok hpq hd8 dd7 dd8 (fun h9 dd9 _ hs9 => ?_) (by rw [← r7.length, ← r8.length]; exact zl)
  have he9 : ∃ o, h9.get? p = some o := let ⟨o, _, _, ho, _⟩ := dd9; ⟨o, ho⟩
  have I9 := d_write (t' := s5.toks + ws.length) I6 (by rw [ep6]; exact True.intro) hs9 he9 (dk_new (Nat.le_trans (length_mergeK _ _) zl) hd7 (KV.merge r8 r7) dd9)
  exact ⟨.ref p, _, I9, rfl, q2⟩
end PyI

/-! PyI, part V: displays by value. -/
namespace PyI
open PySem PySem.Spec L2
def xPs : List (Mo Rs × Mo Rs) → Mo (List Rs)
  | [] => retM []
  | (fk, fv) :: r => bindM fk fun a => bindM fv fun b => bindM (xPs r) fun l => retM (a :: b :: l)
def dispD : List PyData → Option (List (PyData × PyData))
  | [] => some []
  | k :: v :: r => match keyOf? k, dispD r with
    | some _, some l => some ((k, v) :: l)
    | _, _ => none
  | _ :: [] => none
def flatV : List (V × V) → List V
  | [] => []
  | (x, y) :: r => x :: y :: flatV r
def trsD (K : PySem.W.Frag) (fs : List (Mo Rs × Mo Rs)) : List (TE × TE) := fs.map fun f => (tD K f.1, tD K f.2)
def PPD (X : Cx) (pos : Pos) (keys : List (Option Expr)) (values : List Expr) (fs : List (Mo Rs × Mo Rs)) : Prop := PPs X pos keys values (trsD X.K fs)
section
variable {X : Cx} {pos : Pos} {k v : Expr} {ks : List (Option Expr)} {vs : List Expr} {fk fv : Mo Rs} {fs : List (Mo Rs × Mo Rs)}
theorem ppd_nil : PPD X pos [] [] [] := pps_nil
theorem ppd_cons (hk : PD X k fk) (hv : PD X v fv) (hr : PPD X pos ks vs fs) : PPD X pos (some k :: ks) (v :: vs) ((fk, fv) :: fs) := pps_cons hk hv hr
end
section
variable {K : PySem.W.Frag} {S0 S S' S2 : Addr → Prop} {ρ0 ρ ρ' ρ2 : Rho} {σ : L2.St} {H0 H H' H2 : Hp} {p : Addr}
theorem tPs_ok : ∀ (fs : List (Mo Rs × Mo Rs)) {S : Addr → Prop} {ρ ρ' : Rho} {H : Hp} {rs : List Rs} {Q : List (V × V) → Hp → Prop}, Gd K S ρ σ H → xPs fs ρ = some (rs, ρ') →
    (∀ ps S' H', Fm S ρ σ H S' ρ' H' → Gd K S' ρ' σ H' → RRL K H S' H' ρ' σ (flatV ps) rs → Q ps H') → tPairs (trsD K fs) σ H Q
  | [], S, ρ, ρ', H, rs, Q, G, e, q => by
    cases retM_some e
    exact q [] S H Fm.refl G .nil
  | (fk, fv) :: fs, S, ρ, ρ', H, rs, Q, G, e, q => by
    obtain ⟨a, ρ1, e1, e2⟩ := bindM_some e
    obtain ⟨b, ρ2, e3, e4⟩ := bindM_some e2
    obtain ⟨l, ρ3, e5, e6⟩ := bindM_some e4
    cases retM_some e6
    refine ⟨S, ρ, a, ρ1, G, e1, fun x S1 H1 F1 G1 R1 => ⟨S1, ρ1, b, ρ2, G1, e3, fun y S2 H2 F2 G2 R2 => ?_⟩⟩
    have n1 : Now K σ S ρ H S1 ρ1 H1 := ⟨G, F1, G1⟩
    have n2 := n1.step F2 G2
    refine tPs_ok fs G2 e5 fun ps S3 H3 F3 G3 R3 => ?_
    refine q ((x, y) :: ps) S3 H3 (n2.f.trans F3) G3 ?_
    have r1 := (R1.fm n1 F2).fm n2 F3
    have r2 := (R2.pre n1).fm n2 F3
    exact .cons r1 (.cons r2 (R3.pre n2))
theorem disp_run : ∀ {ds : List PyData} {l : List (PyData × PyData)} {ps : List (V × V)}, RpL K S H (flatV ps) ds → dispD ds = some l →
    ∃ kvs : List (Key × V), ps = kvs.map (fun kv => (kV kv.1, kv.2)) ∧ KvR K S H kvs l
  | _, l, [], .nil, e => by cases e; exact ⟨[], rfl, KvR.nil⟩
  | _, l, (x, y) :: ps, .cons h1 (.cons h2 t), e => by
    unfold dispD at e
    split at e
    · rename_i kk l' hk hl
      cases e
      obtain ⟨kvs, rfl, r⟩ := disp_run t hl
      have ek := keyOf_keyD hk
      obtain rfl := Rdb.key (.inl h1) hk
      exact ⟨(kk, y) :: kvs, rfl, KvR.cons ek h2 r⟩
    · cases e
/-- an object that nobody knows is written -/
theorem Fm.updN {o : HO} (f : Fm S ρ σ H S' ρ' H') (h : H p = none) : Fm S ρ σ H S' ρ' (upd H' p o) :=
  ⟨fun b hb => by
    by_cases z : b = p
    · rw [z, upd_same]; simp
    · rw [upd_ne z]; exact f.dom b hb,
   fun b o' hb nm => by rw [upd_ne (ne_of_none hb h)]; exact f.keep b o' hb nm,
   f.sh, f.new, f.len, f.non, f.sts⟩
theorem Gd.updN {o : HO} (g : Gd K S ρ σ H) (h : ¬ S p) (hd : ∀ u l, H p ≠ some (.frz u l)) (no : ∀ (i : Nat) (st : Stt) (d : PyData), ρ[i]? = some (some (st, d)) → st.hold = true → σ[i]? ≠ some (some (V.ref p))) : Gd K S ρ σ (upd H p o) := by
  have u := uph_at (H := H) h o
  refine ⟨g.len, fun i st d hi => ?_, g.ne, fun b hb => ?_⟩
  · obtain ⟨w, z1, z2⟩ := g.sl i st d hi
    refine ⟨w, z1, ?_⟩
    have other : ∀ b, w = .ref b → st.hold = true → b ≠ p := fun b eb hh zz => no i st d hi hh (by rw [z1, eb, zz])
    cases st with
    | shr => exact Rp.up u z2
    | own => obtain ⟨b, rfl, ns, tx⟩ := z2; exact ⟨b, rfl, ns, TopX.up u (fun o hh => by rw [upd_ne (other b rfl rfl)]; exact hh) tx⟩
    | lent => obtain ⟨b, rfl, ns, tx⟩ := z2; exact ⟨b, rfl, ns, TopX.up u (fun o hh => by rw [upd_ne (other b rfl rfl)]; exact hh) tx⟩
    | bor => obtain ⟨b, rfl, ns, tx⟩ := z2; exact ⟨b, rfl, ns, TopR.up u (fun o hh => by rw [upd_ne (other b rfl rfl)]; exact hh) tx⟩
    | scr =>
      obtain ⟨b, ns1, rfl, e1, k⟩ := z2
      refine ⟨b, ns1, rfl, e1, KLst.keep (fun o hh => ?_) k⟩
      rw [upd_ne (fun z : b = p => hd _ _ (z ▸ hh))]
      exact hh
  · rw [upd_ne (fun z : b = p => h (z ▸ hb))]; exact g.al b hb
/-- no held slot is a place that was nobody's -/
theorem Fm.noH (f : Fm S ρ σ H S' ρ' H') (g : Gd K S ρ σ H) (h : H p = none) (i : Nat) (st : Stt) (d : PyData) (hi : ρ'[i]? = some (some (st, d))) (hh : st.hold = true) : σ[i]? ≠ some (some (V.ref p)) := fun z => by
  obtain ⟨d', h'⟩ := f.held hi hh
  exact g.held h' hh z h
theorem Now.noMu (n : Now K σ S0 ρ0 H0 S ρ H) (h : H0 p = none) : ¬ Mu ρ σ p := fun z => n.mu0 z h
end
def xDisp (fs : List (Mo Rs × Mo Rs)) : Mo Rs := bindM (xPs fs) fun rs => bindM (keepL rs) fun ds => bindM (optM (dispD ds)) fun l => if l.length ≤ 15 then retM (.fresh (.dict (mergeD [] l))) else fun _ => none
def xStar (fm : Mo Rs) (fs : List (Mo Rs × Mo Rs)) : Mo Rs := bindM fm fun r => bindM (rdR r) fun d => bindM (optM (match d with | .dict kvs => if kvs.length ≤ LIM ∧ isM kvs = false then some kvs else none | _ => none)) fun kvs =>
  bindM (xPs fs) fun rs => bindM (keepL rs) fun ds => bindM (optM (dispD ds)) fun l => if l.length ≤ 15 then retM (.fresh (.dict (mergeD (mergeD [] kvs) (mergeD [] l)))) else fun _ => none
section
variable {X : Cx} {pos : Pos} {m : Expr} {ks : List (Option Expr)} {vs : List Expr} {fm : Mo Rs} {fs : List (Mo Rs × Mo Rs)}
theorem pd_disp (h : PPD X pos ks vs fs) (hall : ks.all (·.isSome) = true := by rfl) (hl : ks.length = vs.length := by rfl) (h0 : ks ≠ [] := by exact List.cons_ne_nil _ _) (h15 : ks.length ≤ 15 := by decide) : PD X (.Dict ks vs pos) (xDisp fs) :=
  PE.to (pe_disp h hall hl h0 h15) fun σ H Q hq => by
    obtain ⟨S, ρ, r, ρ', G, e, q⟩ := hq
    obtain ⟨rs, ρ1, e1, e2⟩ := bindM_some e
    obtain ⟨ds, ρ2, e3, e4⟩ := bindM_some e2
    obtain ⟨l, ρ3, e5, e6⟩ := bindM_some e4
    obtain ⟨b1, b2⟩ := optM_some e5
    simp only at b1 b2
    split at e6
    · rename_i hl15
      cases retM_some e6
      subst b2
      intro p hp
      have gw := Gw.lay (o := .dK []) G.al hp
      have n0 := (Now.start G).grow gw
      refine tPs_ok fs n0.g e1 fun ps S1 H1 F1 G1 R1 => ?_
      have n1 : Now X.K σ S ρ (upd H p (.dK [])) S1 ρ1 H1 := ⟨n0.g, F1, G1⟩
      obtain ⟨S2, n2, p2, sh2⟩ := RRLw.keep rs n1 R1.w e3
      obtain ⟨kvs, rfl, kr⟩ := disp_run p2 b1
      have nS : ¬ S p := fun z => G.al p z hp
      have nM : ¬ Mu ρ σ p := fun z => Mu.there G z hp
      have hp2 : H1 p = some (.dK []) := n2.f.keep p _ upd_same nM
      have nS2 : ¬ S2 p := fun z => (n2.f.new p z).elim nS fun z => z.elim nM (by rw [upd_same]; simp)
      have fA : Fm S ρ σ H S2 ρ' H1 := n0.f.trans n2.f
      refine ⟨hp2, kvs, rfl, by rw [← kr.len]; exact hl15, ?_⟩
      have g2 : Gd X.K S2 ρ' σ (upd H1 p (.dK (mergeK [] kvs))) := n2.g.updN nS2 (fun u l z => by rw [hp2] at z; cases z) (fA.noH G hp)
      refine q (.ref p) S2 _ (fA.updN hp) g2 ⟨p, rfl, hp, nS2, .inl ⟨_, upd_same, ?_⟩⟩
      have mm := KvR.merge kr (KvR.nil (K := X.K) (S := S2) (H := H1))
      exact ⟨mm.1, RpL.up (uph_at nS2 _) mm.2⟩
    · cases e6
theorem pd_star (hm : PD X m fm) (h : PPD X pos ks vs fs) (hall : ks.all (·.isSome) = true := by rfl) (hl : ks.length = vs.length := by rfl) (h0 : ks ≠ [] := by exact List.cons_ne_nil _ _) (h15 : ks.length ≤ 15 := by decide) : PD X (.Dict (none :: ks) (m :: vs) pos) (xStar fm fs) :=
  PE.to (pe_star hm h hall hl h0 h15) fun σ H Q hq => by
    obtain ⟨S, ρ, r, ρ', G, e, q⟩ := hq
    obtain ⟨rm, ρ1, e1, e2⟩ := bindM_some e
    obtain ⟨dm, ρ2, e3, e4⟩ := bindM_some e2
    obtain ⟨kvm, ρ3, e5, e6⟩ := bindM_some e4
    obtain ⟨rs, ρ4, e7, e8⟩ := bindM_some e6
    obtain ⟨ds, ρ5, e9, e10⟩ := bindM_some e8
    obtain ⟨l, ρ6, e11, e12⟩ := bindM_some e10
    obtain ⟨b1, b2⟩ := optM_some e5
    obtain ⟨b3, b4⟩ := optM_some e11
    simp only at b1 b2 b3 b4
    split at e12
    · rename_i hl15
      cases retM_some e12
      subst b2
      subst b4
      intro p hp
      have gw := Gw.lay (o := .dK []) G.al hp
      have n0 := (Now.start G).grow gw
      refine ⟨S, ρ, rm, ρ1, n0.g, e1, fun v S1 H1 F1 G1 R1 => ?_⟩
      obtain ⟨rd, rfl⟩ := R1.rd G1 e3
      split at b1
      · split at b1
        · rename_i hz
          cases b1
          obtain ⟨hz, nM0⟩ := hz
          obtain ⟨b, ts, rfl, h1, p1, p2⟩ := rd.dct nM0
          have kv0 : KvR X.K S1 H1 ts kvm := ⟨p1, p2⟩
          have nS : ¬ S p := fun z => G.al p z hp
          have nM : ¬ Mu ρ σ p := fun z => Mu.there G z hp
          have n1 : Now X.K σ S ρ (upd H p (.dK [])) S1 ρ3 H1 := ⟨n0.g, F1, G1⟩
          have hp1 : H1 p = some (.dK []) := n1.f.keep p _ upd_same nM
          have nS1 : ¬ S1 p := fun z => (n1.f.new p z).elim nS fun z => z.elim nM (by rw [upd_same]; simp)
          have fA : Fm S ρ σ H S1 ρ3 H1 := n0.f.trans n1.f
          -- the walked dict is not the new one
          have nb : b ≠ p := fun z => by
            subst z
            cases rm with
            | kept d => cases e3; cases R1 with | dctT => cases nM0 | dct hs _ _ _ => exact nS1 hs
            | fresh d =>
              obtain ⟨a, ea, h0', _⟩ := R1
              cases ea
              rw [upd_same] at h0'; cases h0'
            | slot i =>
              obtain ⟨s1, ⟨st, dd⟩, s2⟩ := R1
              obtain ⟨w, s3, s4⟩ := G1.sl i st dd s2
              rw [s1] at s3; cases s3
              cases hh : st.hold with
              | true => exact fA.noH G hp i st dd s2 hh s1
              | false =>
                cases st with
                | shr => cases s4 with
                  | dct hs _ _ _ => exact nS1 hs
                  | dctT hs _ _ _ => exact nS1 hs
                  | tup hs _ _ => 
                    rcases h1 with h1 | ⟨o, h1⟩ <;> rw [hp1] at h1 <;> first | (rcases hs with ⟨hs, _⟩ | ⟨_, _, _, _, _⟩; exact nS1 hs; unfold rdR at e3; simp only [s2] at e3; cases e3) | cases h1
                  | lst hs _ _ => exact nS1 hs
                | scr => unfold rdR at e3; simp only [s2] at e3; cases e3
                | _ => cases hh
          refine ⟨hp1, b, ts, rfl, nb, h1, by rw [← kv0.len]; exact hz, fun qq hqq => ?_⟩
          have g1 : Gd X.K S1 ρ3 σ (upd H1 p (.dK (mergeK [] ts))) := G1.updN nS1 (fun u l z => by rw [hp1] at z; cases z) (fA.noH G hp)
          have kv1 : KvR X.K S1 (upd H1 p (.dK (mergeK [] ts))) (mergeK [] ts) (mergeD [] kvm) := by
            have mm := KvR.merge kv0 (KvR.nil (K := X.K) (S := S1) (H := H1))
            exact ⟨mm.1, RpL.up (uph_at nS1 _) mm.2⟩
          have gw2 := Gw.lay (o := .dK []) g1.al hqq
          have hqp : qq ≠ p := fun z => by rw [z, upd_same] at hqq; cases hqq
          have fB : Fm S ρ σ H S1 ρ3 (upd H1 p (.dK (mergeK [] ts))) := fA.updN hp
          have m1 : Now X.K σ S ρ H S1 ρ3 (upd H1 p (.dK (mergeK [] ts))) := ⟨G, fB, g1⟩
          have hq0 : H qq = none := m1.none0 hqq
          have m2 := m1.grow gw2
          refine tPs_ok fs m2.g e7 fun ps S4 H4 F4 G4 R4 => ?_
          have m3 := m2.step F4 G4
          obtain ⟨S5, n5, p5, sh5⟩ := RRLw.keep rs (⟨m2.g, F4, G4⟩ : Now X.K σ S1 ρ3 _ S4 ρ4 H4) R4.w e9
          obtain ⟨kvs, rfl, kr⟩ := disp_run p5 b3
          have nMp : ¬ Mu ρ3 σ p := m1.noMu hp
          have nMq : ¬ Mu ρ3 σ qq := m1.noMu hq0
          have hp5 : H4 p = some (.dK (mergeK [] ts)) := n5.f.keep p _ (by rw [upd_ne (Ne.symm hqp), upd_same]) nMp
          have hq5 : H4 qq = some (.dK []) := n5.f.keep qq _ upd_same nMq
          have nS1q : ¬ S1 qq := fun z => g1.al qq z hqq
          have nSp5 : ¬ S5 p := fun z => (n5.f.new p z).elim nS1 fun z => z.elim nMp (by rw [upd_ne (Ne.symm hqp), upd_same]; simp)
          have nSq5 : ¬ S5 qq := fun z => (n5.f.new qq z).elim nS1q fun z => z.elim nMq (by rw [upd_same]; simp)
          refine ⟨hp5, hq5, kvs, rfl, by rw [← kr.len]; exact hl15, ?_⟩
          have f5 : Fm S ρ σ H S5 ρ' H4 := m2.f.trans n5.f
          have g5 : Gd X.K S5 ρ' σ (upd H4 qq (.dK (mergeK [] kvs))) := n5.g.updN nSq5 (fun u l z => by rw [hq5] at z; cases z) (f5.noH G hq0)
          have f6 : Fm S ρ σ H S5 ρ' (upd H4 qq (.dK (mergeK [] kvs))) := f5.updN hq0
          have g6 : Gd X.K S5 ρ' σ (upd (upd H4 qq (.dK (mergeK [] kvs))) p (.dK (mergeK (mergeK [] ts) (mergeK [] kvs)))) := g5.updN nSp5 (fun u l z => by rw [upd_ne (Ne.symm hqp), hp5] at z; cases z) (f6.noH G hp)
          refine q (.ref p) S5 _ (f6.updN hp) g6 ⟨p, rfl, hp, nSp5, .inl ⟨_, upd_same, ?_⟩⟩
          have kv5 : KvR X.K S5 H4 (mergeK [] ts) (mergeD [] kvm) := ⟨kv1.1, RpL.up ((gw2.up).trans (n5.f.up n5.g0)) kv1.2⟩
          have mm := KvR.merge (KvR.merge kr (KvR.nil (K := X.K) (S := S5) (H := H4))) kv5
          exact ⟨mm.1, RpL.up ((uph_at nSq5 _).trans (uph_at nSp5 _)) mm.2⟩
        · cases b1
      · cases b1
    · cases e12
end
end PyI

/-! PyI, part W: list(d.items()), l.index(x). -/
namespace PyI
open PySem PySem.Spec L2
/-- list(e.items()), of a dict that may stand under a lock -/
def tItL (te : TE) : TE := fun σ H Q => te σ H fun x H1 => ∃ (d : Addr) (kvs : List (Key × V)), x = .ref d ∧ Rd H1 d (.dK kvs) ∧
  ∀ (H' : Hp) (p : Addr) (ts : List Addr), (∀ b o, H1 b = some o → H' b = some o) → H1 p = none → (∀ t ∈ ts, H1 t = none) → p ∉ ts → H' p = some (.lst (ts.map V.ref)) →
    Paired (fun (t : Addr) (q : Key × V) => H' t = some (.tup [kV q.1, q.2])) ts kvs → Q (.ref p) H'
section
variable {X : Cx} {e : Expr} {te : TE} {f : Mo Rs} {p apos cpos pos : Pos}
theorem pe_itL (hc : X.calm = true) (he : PE X e te) (hg : Gl X "list") (hm : X.mg "list" = none) (hv : bootBuiltins "list" = some (.type "list")) (hb : attributeBase e "items" X.env (eval e X.env) = eval e X.env) (hl : (apos.endLine == cpos.line) = true)
    (hs : starEach [.Call (.Attribute e "items" apos) [] [] cpos] X.env = (false, eval (.Call (.Attribute e "items" apos) [] [] cpos) X.env) :: starEach [] X.env) : PE X (.Call (.Name "list" p) [.Call (.Attribute e "items" apos) [] [] cpos] [] pos) (tItL te) := by
  constructor
  intro pins s σ H Q I hq
  apply wpAny_Call_Name_kw
  refine ld_blt I hg hm hv (PyProof.Rows.callWith_type1 ?_ hs rfl)
  rw [hs]
  show wpAny _ _ (spliced ((false, eval (.Call (.Attribute e "items" apos) [] [] cpos) X.env) :: backTo pos (starEach [] X.env))) _ _ s
  apply Calls.spliced_cons
  refine wpAny_Call_method (T := "dict") (id := "dict.items") hb rfl hl PySem.F.plainAttrs_dict PySem.F.slot_dict_items PySem.F.type_dict_items ?_
  refine thn (he.run pins s σ H _ I hq) ?_
  rintro u s1 ⟨x, H1, I1, rx, d, kvs, rfl, hd, q⟩
  obtain rfl : u = Value.ref d := rx
  obtain ⟨hz, h0, vs, kv, dd⟩ := dk_rd I1.hok hd
  obtain ⟨ep, at1⟩ := dd.dictAt
  have lk : kvs.length = vs.length := Paired.length kv
  have I2 := I1.kept (t' := s1.toks) (h' := s1.heap.push { cls := .type "dict_items", data := .fields #[.ref d] }) fun b ob z => Heap.get?_push_of_some _ z
  refine ⟨dd.typeIs, dd.mapOf.noDict, ?_⟩
  show wpAny _ _ (callWith cpos (.builtin "dict.items") [.ref d] [] []) _ X.xe s1
  refine method_meetsIn PySem.F.slot_dict_items PySem.F.entry_dict_items rfl (PySem.evalArgs_none ⟨rfl, dd.typeIs, PySem.F.args_dict_items_1 _, _, meets_dict_items (mixKind X.prog X.w) d h0, ⟨vs, dd⟩, Calls.spliced_nil ?_⟩)
  refine PySem.W.kdx_call (ep := ep) (kvs := vs) (knd := mixKind X.prog X.w) (I1.ok.hd hc) ⟨_, Heap.get?_push_size _ rfl, rfl, rfl⟩ (at1.push _) (by omega) ?_
  intro h2 tk acc c as k1 k2 k3 k4 k5
  obtain ⟨H', a1, a2, a3, a4, a5, a6, J⟩ := LiI.items_laid (tk := tk) I2 hz kv k1 k2 k3 k4 k5
  exact ⟨.ref _, H', J, rfl, q H' _ as a1 a2 a3 a4 a5 a6⟩
def itemsD (kvs : List (PyData × PyData)) : List PyData := kvs.map fun p => .tuple [p.1, p.2]
def xItems (f : Mo Rs) : Mo Rs := bindM f fun r => bindM (rdR r) fun d => bindM (optM (match d with | .dict kvs => gateM kvs (some kvs) | _ => none)) fun kvs => retM (.fresh (.list (itemsD kvs)))
theorem items_rp {K : PySem.W.Frag} {S : Addr → Prop} {H : Hp} : ∀ {ts : List Addr} {us : List (Key × V)} {kvs : List (PyData × PyData)}, Paired (fun (t : Addr) (q : Key × V) => H t = some (.tup [kV q.1, q.2])) ts us → KvR K S H us kvs → (∀ t ∈ ts, S t) →
    RpL K S H (ts.map V.ref) (itemsD kvs)
  | [], [], [], _, _, _ => .nil
  | [], [], _ :: _, _, h, _ => by have := h.len; simp at this
  | t :: ts, u :: us, [], _, h, _ => by have := h.len; simp at this
  | t :: ts, u :: us, q :: kvs, .cons h1 h2, h, hS => by
    obtain ⟨a, b, c⟩ := h.cons_inv
    refine .cons (.tup (.inl ⟨hS t List.mem_cons_self, .inl h1⟩) (.cons ?_ (.cons b .nil)) ⟨fun e => ?_, fun _ => ⟨hS t List.mem_cons_self, h1⟩⟩) (items_rp h2 c fun x hx => hS x (List.mem_cons_of_mem _ hx))
    case refine_2 => rw [a] at e; cases hu : u.1 <;> rw [hu] at e <;> cases e
    rw [a]
    cases u.1 with
    | inl i => exact .int i
    | inr x => exact .str x
theorem paired_mem {α β : Type} {F : α → β → Prop} : ∀ {xs : List α} {ys : List β}, Paired F xs ys → ∀ x ∈ xs, ∃ y, F x y
  | _, _, .cons h t, x, hx => by
    rcases List.mem_cons.mp hx with rfl | hx
    · exact ⟨_, h⟩
    · exact paired_mem t x hx
theorem pd_items (hc : X.calm = true) (he : PD X e f) (hm : X.mg "list" = none) (hv : bootBuiltins "list" = some (.type "list")) (hg : Gl X "list" := by rfl) (hb : attributeBase e "items" X.env (eval e X.env) = eval e X.env := by rfl) (hl : (apos.endLine == cpos.line) = true := by rfl)
    (hs : starEach [.Call (.Attribute e "items" apos) [] [] cpos] X.env = (false, eval (.Call (.Attribute e "items" apos) [] [] cpos) X.env) :: starEach [] X.env := by rfl) : PD X (.Call (.Name "list" p) [.Call (.Attribute e "items" apos) [] [] cpos] [] pos) (xItems f) :=
  PE.to (pe_itL hc he hg hm hv hb hl hs) fun σ H Q h => by
    obtain ⟨S, ρ, r, ρ', G, e, q⟩ := h
    obtain ⟨r0, ρ1, e1, e2⟩ := bindM_some e
    obtain ⟨d, ρ2, e3, e4⟩ := bindM_some e2
    obtain ⟨kvs, ρ3, e5, e6⟩ := bindM_some e4
    obtain ⟨b1, b2⟩ := optM_some e5
    simp only at b1 b2
    cases retM_some e6
    obtain rfl := rdR_same e3
    subst b2
    refine ⟨S, ρ, r0, _, G, e1, fun v S1 H1 F1 G1 R1 => ?_⟩
    obtain ⟨rd, _⟩ := R1.rd G1 e3
    split at b1
    · obtain ⟨nM0, b1⟩ := gateM_some b1
      cases b1
      obtain ⟨a, us, rfl, h1, p1, p2⟩ := rd.dct nM0
      have kv : KvR X.K S1 H1 us kvs := ⟨p1, p2⟩
      refine ⟨a, us, rfl, h1, fun H' t ts k1 k2 k3 k4 k5 k6 => ?_⟩
      have n1 : Now X.K σ S ρ H S1 _ H1 := ⟨G, F1, G1⟩
      have gw : Gw S1 H1 (fun b => S1 b ∨ b ∈ ts) H' := ⟨k1, fun _ h => .inl h, fun b hb => hb.imp_right (k3 b), fun b hb => by
        rcases hb with hb | hb
        · intro z
          cases e : H1 b with
          | none => exact G1.al b hb e
          | some o => rw [k1 b o e] at z; cases z
        · obtain ⟨y, hy⟩ := paired_mem k6 b hb
          rw [hy]; simp⟩
      have n2 := n1.grow gw
      exact q _ _ H' n2.f n2.g ⟨t, rfl, n1.none0 k2, fun z => z.elim (fun z => G1.al t z k2) k4, _, k5, items_rp k6 (KvR.up gw.up kv) fun x hx => .inr hx⟩
    · cases b1
end
/-! ### l.index(x), of texts -/
def idxS : List Str → Str → Option Nat
  | [], _ => none
  | x :: r, y => if x = y then some 0 else (idxS r y).map (· + 1)
def idxD : PyData → PyData → Option Nat
  | .list ds, .str y => (strsD ds).bind fun xs => idxS xs y
  | _, _ => none
theorem idxS_get : ∀ {xs : List Str} {y : Str} {j : Nat}, idxS xs y = some j → xs[j]? = some y ∧ ∀ (m : Nat) (z : Str), m < j → xs[m]? = some z → z ≠ y
  | [], _, _, e => by cases e
  | x :: r, y, j, e => by
    unfold idxS at e
    split at e
    · rename_i h; cases e; exact ⟨by rw [h]; rfl, fun m z h => absurd h (Nat.not_lt_zero _)⟩
    · rename_i h
      obtain ⟨k, hk, rfl⟩ := Option.map_eq_some_iff.mp e
      obtain ⟨h1, h2⟩ := idxS_get hk
      refine ⟨by simpa using h1, fun m z hm hz => ?_⟩
      cases m with
      | zero => simp at hz; rw [← hz]; exact h
      | succ m => exact h2 m z (by omega) (by simpa using hz)
def isLstD : PyData → Bool
  | .list _ => true | _ => false
def xIdx (f g : Mo Rs) : Mo Rs := bindM f fun r => bindM (rdR r) fun d0 => if isLstD d0 = true then bindM g fun r2 => bindM (rdR r2) fun y => bindM (rdR r) fun d => bindM (optM (idxD d y)) fun j => retM (.kept (.int (j : Nat))) else fun _ => none
section
variable {X : Cx} {o e : Expr} {fo fe : Mo Rs} {apos cpos : Pos}
theorem RpL.strsV {K : PySem.W.Frag} {S : Addr → Prop} {H : Hp} : ∀ {xs : List Str} {vs : List V}, RpL K S H vs (xs.map PyData.str) → vs = xs.map V.str
  | [], _, .nil => rfl
  | x :: xs, _, .cons h t => by
    cases h
    rw [List.map_cons, RpL.strsV t]
theorem pd_idx (ho : PD X o fo) (he : PD X e fe) (hbase : attributeBase o "index" X.env (eval o X.env) = eval o X.env := by rfl)
    (hfew : ((backTo cpos (starEach [e] X.env)).all (fun x => !x.1) && (backToKw cpos (keywordEach [] X.env)).all (fun x => x.1.isSome)
      && decide ([e].length + ([] : List Keyword).length + (if ([] : List Keyword).isEmpty then 0 else 1) < 30)) = true := by rfl)
    (hline : (apos.endLine == cpos.line) = true := by rfl) (hs : starEach [e] X.env = (false, eval e X.env) :: starEach [] X.env := by rfl) (hplain : (backTo cpos (starEach [] X.env)).any (·.1) = false := by rfl) :
    PD X (.Call (.Attribute o "index" apos) [e] [] cpos) (xIdx fo fe) := PE.to (pe_bm PySem.F.plainAttrs_list PySem.F.slot_list_index PySem.F.type_list_index mt_index ho (pa_cons he pa_nil hs) hbase hfew hline hs hplain) fun σ H Q h => by
  obtain ⟨S, ρ, r, ρ', G, e, q⟩ := h
  obtain ⟨r0, ρ1, e1, a1⟩ := bindM_some e
  obtain ⟨d0, ρ2, e2, a2⟩ := bindM_some a1
  obtain rfl := rdR_same e2
  split at a2
  · rename_i hd
    obtain ⟨r2, ρ3, e3, a3⟩ := bindM_some a2
    obtain ⟨y, ρ4, e4, a4⟩ := bindM_some a3
    obtain ⟨d, ρ5, e5, a5⟩ := bindM_some a4
    obtain ⟨j, ρ6, e6, a6⟩ := bindM_some a5
    cases retM_some a6
    obtain rfl := rdR_same e4
    obtain rfl := rdR_same e5
    obtain ⟨b1, b2⟩ := optM_some e6
    simp only at b1 b2
    subst b2
    refine ⟨S, ρ, r0, _, G, e1, fun v S1 H1 F1 G1 R1 => ?_⟩
    have n1 : Now X.K σ S ρ H S1 _ H1 := ⟨G, F1, G1⟩
    obtain ⟨rd0, _⟩ := R1.rd G1 e2
    have ty : tyV X.K "list" v H1 := by
      cases d0 with
      | list ds => obtain ⟨a, vs, rfl, h1, _⟩ := rd0.lst; exact .inl ⟨rfl, vs, SqL.of h1⟩
      | _ => cases hd
    refine ⟨ty, S1, _, r2, _, G1, e3, fun w S2 H2 F2 G2 R2 => ?_⟩
    have n2 := n1.step F2 G2
    obtain ⟨rdy, _⟩ := (R2.pre n1).rd G2 e4
    obtain ⟨rdo, _⟩ := (R1.fm n1 F2).rd G2 e5
    unfold idxD at b1
    split at b1
    · obtain ⟨xs, hx, hj⟩ := Option.bind_eq_some_iff.mp b1
      obtain ⟨g1, g2⟩ := idxS_get hj
      obtain ⟨a, vs, rfl, h1, p1⟩ := rdo.lst
      obtain rfl := strsD_eq hx
      obtain rfl := p1.strsV
      obtain rfl := rdy.str
      refine ⟨a, xs.map V.str, .str _, j, .str _, rfl, rfl, SqL.of h1, rfl, ?_, by rw [List.getElem?_map, g1]; rfl, by simp [eqV], fun m z' hm hz => ?_, q _ S2 H2 n2.f n2.g (.int _)⟩
      · rw [List.all_map]; exact List.all_eq_true.mpr fun x _ => rfl
      · rw [List.getElem?_map] at hz
        obtain ⟨x, hx, rfl⟩ := Option.map_eq_some_iff.mp hz
        have := g2 m x hm hx
        simpa [eqV] using this
    · cases b1
  · cases a2
end
end PyI

/-! PyI, part X: blocks over a walked dict; the evaluator's equations of the new parts. -/
namespace PyI
open PySem PySem.Spec L2
section
variable {X : Cx} {kx vx elt tg iter tg1 iter1 : Expr} {ifs ifs1 : List Expr} {scope : Scope} {pos : Pos} {fi1 : Mo (List PyData)} {g g1 : G1} {t t1 : Mo Bool} {fe fk fv : Mo Rs} {vs1 : List Nat} {m : Wm} {i : Nat}
theorem pd_lc2D (own : List (Str × Nat)) (hc : X.calm = true) (hN : X.N.Nodup) (hi : PI X tg iter (wiD m i)) (ok : BlkOk X.N X.env.scope scope own) (hv : ∀ i ∈ g.vs, i ∈ own.map (·.2)) (hv1 : g1.vs = vs1) (hs1 : ∀ i ∈ vs1, i ∈ own.map (·.2))
    (hg : ∀ (s : Shared) (H : Hp) (C : Addr) (cl : List (Str × Addr)) (fp : List Addr), GD (X.blk s H scope (compEnvC scope cl C X.env) fp) tg g) (ht : ∀ (s : Shared) (H : Hp) (C : Addr) (cl : List (Str × Addr)) (fp : List Addr), TsD (X.blk s H scope (compEnvC scope cl C X.env) fp) ifs t)
    (hi1 : ∀ (s : Shared) (H : Hp) (C : Addr) (cl : List (Str × Addr)) (fp : List Addr), ID0 (X.blk s H scope (compEnvC scope cl C X.env) fp) tg1 iter1 fi1)
    (hg1 : ∀ (s : Shared) (H : Hp) (C : Addr) (cl : List (Str × Addr)) (fp : List Addr), GD (X.blk s H scope (compEnvC scope cl C X.env) fp) tg1 g1) (ht1 : ∀ (s : Shared) (H : Hp) (C : Addr) (cl : List (Str × Addr)) (fp : List Addr), TsD (X.blk s H scope (compEnvC scope cl C X.env) fp) ifs1 t1)
    (he : ∀ (s : Shared) (H : Hp) (C : Addr) (cl : List (Str × Addr)) (fp : List Addr), PD (X.blk s H scope (compEnvC scope cl C X.env) fp) elt fe) (hs : ∀ x, foldedSetIterable iter X.env x = pure x := by intro _; rfl) (hs1' : ∀ env x, foldedSetIterable iter1 env x = pure x := by intro _ _; rfl) :
    PD X (.ListComp elt [⟨tg, iter, ifs, 0⟩, ⟨tg1, iter1, ifs1, 0⟩] scope pos) (xLc2 (own.map (·.2)) vs1 (iDict m i) g t fi1 g1 t1 fe) :=
  pd_lockD (C := fun wi => tLc2 wi (tG X.K g) (tT X.K t) (tI0 X.K fi1) (tG X.K g1) (tT X.K t1) (tD X.K fe) (own.map fun p : Str × Nat => p.2) vs1) (pe_lc2 hc hN hi ok hs1 hg ht hi1 hg1 ht1 he hs hs1') (fun wi' σ H Q hm h => hm _ h) (fun σ H Q h => lc2_ok hv hv1 h) fun ρ r ρ' h => by
    unfold xLc2 at h
    cases e1 : iDict m i ρ with
    | none => rw [e1] at h; cases h
    | some p =>
      obtain ⟨ds, ρ1⟩ := p
      refine ⟨ds, ρ1, rfl, fun e3 => ?_⟩
      rw [e1] at h
      unfold xLc2
      rw [e3]
      exact h
theorem pd_dcD (own : List (Str × Nat)) (hc : X.calm = true) (hN : X.N.Nodup) (hi : PI X tg iter (wiD m i)) (ok : BlkOk X.N X.env.scope scope own) (hv : g.vs = own.map (·.2))
    (hg : ∀ (s : Shared) (H : Hp) (C : Addr) (cl : List (Str × Addr)) (fp : List Addr), GD (X.blk s H scope (compEnvC scope cl C X.env) fp) tg g) (ht : ∀ (s : Shared) (H : Hp) (C : Addr) (cl : List (Str × Addr)) (fp : List Addr), TsD (X.blk s H scope (compEnvC scope cl C X.env) fp) ifs t)
    (hk : ∀ (s : Shared) (H : Hp) (C : Addr) (cl : List (Str × Addr)) (fp : List Addr), PD (X.blk s H scope (compEnvC scope cl C X.env) fp) kx fk)
    (he : ∀ (s : Shared) (H : Hp) (C : Addr) (cl : List (Str × Addr)) (fp : List Addr), PD (X.blk s H scope (compEnvC scope cl C X.env) fp) vx fv) (hs : ∀ x, foldedSetIterable iter X.env x = pure x := by intro _; rfl) :
    PD X (.DictComp kx vx [⟨tg, iter, ifs, 0⟩] scope pos) (xDc (own.map (·.2)) (iDict m i) g t fk fv) :=
  pd_lockD (C := fun wi => tDc wi (tG X.K g) (tT X.K t) (tD X.K fk) (tD X.K fv) (own.map fun p : Str × Nat => p.2)) (pe_dc hc hN hi ok hg ht hk he hs) (fun wi' σ H Q hm h => hm _ h) (fun σ H Q h => dc_ok hv h) fun ρ r ρ' h => by
    unfold xDc at h
    cases e1 : iDict m i ρ with
    | none => rw [e1] at h; cases h
    | some p =>
      obtain ⟨ds, ρ1⟩ := p
      refine ⟨ds, ρ1, rfl, fun e3 => ?_⟩
      rw [e1] at h
      unfold xDc
      rw [e3]
      exact h
end
/-! ### equations -/
@[simp] theorem e_ps0 (ρ : Rho) : xPs [] ρ = some ([], ρ) := (rfl)
@[simp] theorem e_psS (fk fv : Mo Rs) (r : List (Mo Rs × Mo Rs)) (ρ : Rho) : xPs ((fk, fv) :: r) ρ = aC fk (aC fv (xPs r)) ρ := by
  show bindM fk (fun a => bindM fv fun b => bindM (xPs r) fun l => retM (a :: b :: l)) ρ = bindM fk (fun a => bindM (bindM fv fun b => bindM (xPs r) fun l => retM (b :: l)) fun l => retM (a :: l)) ρ
  unfold bindM
  cases fk ρ with
  | none => rfl
  | some p =>
    dsimp only
    cases fv p.2 with
    | none => rfl
    | some q =>
      dsimp only
      cases xPs r q.2 with
      | none => rfl
      | some l => rfl
def dpa (x : Option (List Rs × Rho)) (h : List (PyData × PyData)) : Option (Rs × Rho) := match x with
  | some (rs, ρ) => match keepL rs ρ with
    | some (ds, ρ1) => match dispD ds with
      | some l => if l.length ≤ 15 then some (.fresh (.dict (mergeD h (mergeD [] l))), ρ1) else none
      | none => none
    | none => none
  | none => none
def dpb (x : Option (List PyData × Rho)) (h : List (PyData × PyData)) : Option (Rs × Rho) := match x with
  | some (ds, ρ1) => match dispD ds with
      | some l => if l.length ≤ 15 then some (.fresh (.dict (mergeD h (mergeD [] l))), ρ1) else none
      | none => none
  | none => none
def dpc (x : Option (List (PyData × PyData))) (h : List (PyData × PyData)) (ρ : Rho) : Option (Rs × Rho) := match x with
  | some l => if l.length ≤ 15 then some (.fresh (.dict (mergeD h (mergeD [] l))), ρ) else none
  | none => none
@[simp] theorem e_dpa (rs : List Rs) (ρ : Rho) (h : List (PyData × PyData)) : dpa (some (rs, ρ)) h = dpb (keepL rs ρ) h := (rfl)
@[simp] theorem e_dpb (ds : List PyData) (ρ : Rho) (h : List (PyData × PyData)) : dpb (some (ds, ρ)) h = dpc (dispD ds) h ρ := (rfl)
theorem e_dpc (l : List (PyData × PyData)) (ρ : Rho) (h : List (PyData × PyData)) (hl : l.length ≤ 15) : dpc (some l) h ρ = some (.fresh (.dict (mergeD h (mergeD [] l))), ρ) := if_pos hl
@[simp] theorem e_dp1 (a : PyData × PyData) (ρ : Rho) (h : List (PyData × PyData)) : dpc (some [a]) h ρ = some (.fresh (.dict (mergeD h (mergeD [] [a]))), ρ) := e_dpc _ _ _ (by simp)
@[simp] theorem e_dp2 (a b : PyData × PyData) (ρ : Rho) (h : List (PyData × PyData)) : dpc (some [a, b]) h ρ = some (.fresh (.dict (mergeD h (mergeD [] [a, b]))), ρ) := e_dpc _ _ _ (by simp)
@[simp] theorem dispD0 : dispD [] = some [] := (rfl)
@[simp] theorem dispDS (k : Str) (v : PyData) (r : List PyData) : dispD (.str k :: v :: r) = (dispD r).map ((PyData.str k, v) :: ·) := by
  have h : dispD (.str k :: v :: r) = match keyOf? (.str k), dispD r with
    | some _, some l => some ((PyData.str k, v) :: l)
    | _, _ => none := (rfl)
  rw [h]
  cases dispD r <;> rfl
def sta (x : Option (Rs × Rho)) (fs : List (Mo Rs × Mo Rs)) : Option (Rs × Rho) := match x with
  | some (r, ρ) => match rdD r ρ with
    | some (.dict kvs) => if kvs.length ≤ LIM ∧ isM kvs = false then dpa (xPs fs ρ) (mergeD [] kvs) else none
    | _ => none
  | none => none
def stb (x : Option PyData) (fs : List (Mo Rs × Mo Rs)) (ρ : Rho) : Option (Rs × Rho) := match x with
    | some (.dict kvs) => if kvs.length ≤ LIM ∧ isM kvs = false then dpa (xPs fs ρ) (mergeD [] kvs) else none
    | _ => none
@[simp] theorem e_sta (r : Rs) (ρ : Rho) (fs : List (Mo Rs × Mo Rs)) : sta (some (r, ρ)) fs = stb (rdD r ρ) fs ρ := (rfl)
theorem e_stb (kvs : List (PyData × PyData)) (ρ : Rho) (fs : List (Mo Rs × Mo Rs)) (h : kvs.length ≤ LIM) (hM : isM kvs = false) : stb (some (.dict kvs)) fs ρ = dpa (xPs fs ρ) (mergeD [] kvs) := if_pos ⟨h, hM⟩
@[simp] theorem e_star (fm : Mo Rs) (fs : List (Mo Rs × Mo Rs)) (ρ : Rho) : xStar fm fs ρ = sta (fm ρ) fs := by
  unfold xStar bindM sta
  cases fm ρ with
  | none => rfl
  | some p =>
    obtain ⟨r, ρ1⟩ := p
    dsimp only
    rw [rdR_rd]
    cases rdD r ρ1 with
    | none => rfl
    | some d =>
      cases d with
      | dict kvs =>
        dsimp only [Option.map_some]
        unfold optM
        by_cases h : kvs.length ≤ LIM ∧ isM kvs = false
        · rw [if_pos h, if_pos h]
          dsimp only
          unfold dpa
          cases xPs fs ρ1 with
          | none => rfl
          | some q =>
            dsimp only
            cases keepL q.1 q.2 with
            | none => rfl
            | some z =>
              dsimp only
              cases dispD z.1 with
              | none => rfl
              | some l =>
                dsimp only
                split <;> rfl
        · rw [if_neg h, if_neg h]
      | _ => rfl
def dea (x : Option (List Rs × Rho)) : Option (Rs × Rho) := match x with
  | some (rs, ρ) => match keepL rs ρ with
    | some (ds, ρ1) => match dispD ds with
      | some l => if l.length ≤ 15 then some (.fresh (.dict (mergeD [] l)), ρ1) else none
      | none => none
    | none => none
  | none => none
def deb (x : Option (List PyData × Rho)) : Option (Rs × Rho) := match x with
  | some (ds, ρ1) => match dispD ds with
      | some l => if l.length ≤ 15 then some (.fresh (.dict (mergeD [] l)), ρ1) else none
      | none => none
  | none => none
def dec (x : Option (List (PyData × PyData))) (ρ : Rho) : Option (Rs × Rho) := match x with
  | some l => if l.length ≤ 15 then some (.fresh (.dict (mergeD [] l)), ρ) else none
  | none => none
@[simp] theorem e_dea (rs : List Rs) (ρ : Rho) : dea (some (rs, ρ)) = deb (keepL rs ρ) := (rfl)
@[simp] theorem e_deb (ds : List PyData) (ρ : Rho) : deb (some (ds, ρ)) = dec (dispD ds) ρ := (rfl)
@[simp] theorem e_de1 (a : PyData × PyData) (ρ : Rho) : dec (some [a]) ρ = some (.fresh (.dict (mergeD [] [a])), ρ) := (rfl)
@[simp] theorem e_disp (fs : List (Mo Rs × Mo Rs)) (ρ : Rho) : xDisp fs ρ = dea (xPs fs ρ) := by
  unfold xDisp bindM dea
  cases xPs fs ρ with
  | none => rfl
  | some q =>
    dsimp only
    cases keepL q.1 q.2 with
    | none => rfl
    | some z =>
      dsimp only
      unfold optM
      cases dispD z.1 with
      | none => rfl
      | some l =>
        dsimp only
        split <;> rfl
def ima (x : Option (Rs × Rho)) : Option (Rs × Rho) := match x with
  | some (r, ρ) => match rdD r ρ with
    | some (.dict kvs) => gateM kvs (some (.fresh (.list (itemsD kvs)), ρ))
    | _ => none
  | none => none
def imb (x : Option PyData) (ρ : Rho) : Option (Rs × Rho) := match x with
    | some (.dict kvs) => gateM kvs (some (.fresh (.list (itemsD kvs)), ρ))
    | _ => none
@[simp] theorem e_ima (r : Rs) (ρ : Rho) : ima (some (r, ρ)) = imb (rdD r ρ) ρ := (rfl)
theorem e_imb (kvs : List (PyData × PyData)) (ρ : Rho) : imb (some (.dict kvs)) ρ = gateM kvs (some (.fresh (.list (itemsD kvs)), ρ)) := (rfl)
@[simp] theorem e_imb1 (kvs : List (PyData × PyData)) (ρ : Rho) (h : isM kvs = false) : imb (some (.dict kvs)) ρ = some (.fresh (.list (itemsD kvs)), ρ) := gateM_no h _
@[simp] theorem e_items (f : Mo Rs) (ρ : Rho) : xItems f ρ = ima (f ρ) := by
  unfold xItems bindM ima
  cases f ρ with
  | none => rfl
  | some p =>
    obtain ⟨r, ρ1⟩ := p
    dsimp only
    rw [rdR_rd]
    cases rdD r ρ1 with
    | none => rfl
    | some d =>
      cases d with
      | dict kvs =>
        dsimp only [Option.map_some]
        unfold optM gateM
        cases isM kvs <;> rfl
      | _ => rfl
def ixa (x : Option (Rs × Rho)) (g : Mo Rs) : Option (Rs × Rho) := match x with
  | some (r, ρ) => match rdD r ρ with
    | some (.list _) => match g ρ with
      | some (r2, ρ2) => match rdD r2 ρ2, rdD r ρ2 with
        | some y, some d => (idxD d y).map fun j => (.kept (.int (j : Nat)), ρ2)
        | _, _ => none
      | none => none
    | _ => none
  | none => none
def ixb (r : Rs) (x : Option PyData) (g : Mo Rs) (ρ : Rho) : Option (Rs × Rho) := match x with
    | some (.list _) => match g ρ with
      | some (r2, ρ2) => match rdD r2 ρ2, rdD r ρ2 with
        | some y, some d => (idxD d y).map fun j => (.kept (.int (j : Nat)), ρ2)
        | _, _ => none
      | none => none
    | _ => none
def ixc (r : Rs) (x : Option (Rs × Rho)) : Option (Rs × Rho) := match x with
      | some (r2, ρ2) => match rdD r2 ρ2, rdD r ρ2 with
        | some y, some d => (idxD d y).map fun j => (.kept (.int (j : Nat)), ρ2)
        | _, _ => none
      | none => none
def ixd (y d : Option PyData) (ρ : Rho) : Option (Rs × Rho) := match y, d with
        | some y, some d => (idxD d y).map fun j => (.kept (.int (j : Nat)), ρ)
        | _, _ => none
@[simp] theorem e_ixa (r : Rs) (ρ : Rho) (g : Mo Rs) : ixa (some (r, ρ)) g = ixb r (rdD r ρ) g ρ := (rfl)
@[simp] theorem e_ixb (r : Rs) (l : List PyData) (g : Mo Rs) (ρ : Rho) : ixb r (some (.list l)) g ρ = ixc r (g ρ) := (rfl)
@[simp] theorem e_ixc (r r2 : Rs) (ρ : Rho) : ixc r (some (r2, ρ)) = ixd (rdD r2 ρ) (rdD r ρ) ρ := (rfl)
@[simp] theorem e_ixd (y d : PyData) (ρ : Rho) : ixd (some y) (some d) ρ = (idxD d y).map fun j => (.kept (.int (j : Nat)), ρ) := (rfl)
@[simp] theorem e_idx (f g : Mo Rs) (ρ : Rho) : xIdx f g ρ = ixa (f ρ) g := by
  unfold xIdx bindM ixa
  cases f ρ with
  | none => rfl
  | some p =>
    obtain ⟨r, ρ1⟩ := p
    dsimp only
    rw [rdR_rd]
    cases rdD r ρ1 with
    | none => rfl
    | some d =>
      cases d with
      | list l =>
        dsimp only [Option.map_some]
        rw [if_pos (by rfl)]
        cases g ρ1 with
        | none => rfl
        | some q =>
          obtain ⟨r2, ρ2⟩ := q
          dsimp only
          rw [rdR_rd]
          cases rdD r2 ρ2 with
          | none => rfl
          | some y =>
            dsimp only [Option.map_some]
            rw [rdR_rd]
            cases rdD r ρ2 with
            | none => rfl
            | some d2 =>
              dsimp only [Option.map_some]
              unfold optM
              cases idxD d2 y <;> rfl
      | _ => rfl
def ika (x : Option (Rs × Rho)) : Option (List PyData × Rho) := match x with
  | some (r, ρ) => match keepR r ρ with
    | some (d, ρ1) => (seqOf d).map fun l => (l, ρ1)
    | none => none
  | none => none
def ikb (x : Option (PyData × Rho)) : Option (List PyData × Rho) := match x with
    | some (d, ρ1) => (seqOf d).map fun l => (l, ρ1)
    | none => none
@[simp] theorem e_ika (r : Rs) (ρ : Rho) : ika (some (r, ρ)) = ikb (keepR r ρ) := (rfl)
@[simp] theorem e_ikbL (l : List PyData) (ρ : Rho) : ikb (some (.list l, ρ)) = some (l, ρ) := (rfl)
@[simp] theorem e_ikbT (l : List PyData) (ρ : Rho) : ikb (some (.tuple l, ρ)) = some (l, ρ) := (rfl)
@[simp] theorem e_iK (f : Mo Rs) (ρ : Rho) : iK f ρ = ika (f ρ) := by
  unfold iK bindM ika
  cases f ρ with
  | none => rfl
  | some p =>
    obtain ⟨r, ρ1⟩ := p
    dsimp only
    cases keepR r ρ1 with
    | none => rfl
    | some q =>
      dsimp only
      unfold optM
      cases seqOf q.1 <;> rfl
/-! ### blocks -/
theorem lc2_mapT {α : Type} {vs vs1 : List Nat} {g : G1} {t : Mo Bool} {fi1 : Mo (List PyData)} {g1 : G1} {t1 : Mo Bool} {fe : Mo Rs} {ρ0 : Rho} {e : α → PyData} {f : α → List PyData} : ∀ (l : List α) (acc : List PyData), acc.length + (l.flatMap f).length ≤ LIM →
    (∀ a ∈ l, ∃ ρ1 ρ2 ds1 ρ3 ρ4, g.run (e a) ρ0 = some ((), ρ1) ∧ t ρ1 = some (true, ρ2) ∧ fi1 ρ2 = some (ds1, ρ3) ∧ (∀ acc, acc.length + (f a).length ≤ LIM → lcM vs1 g1 t1 fe ds1 acc (wipeE ρ3 vs1) = some (acc ++ f a, ρ4)) ∧ wipeE (restE ρ3 ρ4 vs1) vs = ρ0) →
    lc2M vs vs1 g t fi1 g1 t1 fe (l.map e) acc ρ0 = some (acc ++ l.flatMap f, ρ0)
  | [], acc, _, _ => by simp [lc2M, retM]
  | a :: l, acc, hl, h => by
    obtain ⟨ρ1, ρ2, ds1, ρ3, ρ4, e1, e2, e3, e4, e5⟩ := h a List.mem_cons_self
    rw [List.flatMap_cons, List.length_append] at hl
    rw [List.map_cons]
    unfold lc2M
    rw [e1]
    dsimp only
    rw [e2]
    dsimp only
    rw [e3]
    dsimp only
    rw [e4 acc (by omega)]
    dsimp only
    rw [e5, lc2_mapT l (acc ++ f a) (by rw [List.length_append]; omega) fun x hx => h x (List.mem_cons_of_mem _ hx), List.flatMap_cons, List.append_assoc]
theorem lc2_evalT {α : Type} {vs vs1 : List Nat} {fi : Mo (List PyData)} {g : G1} {t : Mo Bool} {fi1 : Mo (List PyData)} {g1 : G1} {t1 : Mo Bool} {fe : Mo Rs} {ρ ρ1 : Rho} {l : List α} {e : α → PyData} (f : α → List PyData) (hi : fi ρ = some (l.map e, ρ1)) (hl : (l.flatMap f).length ≤ LIM)
    (h : ∀ a ∈ l, ∃ ρ2 ρ3 ds1 ρ4 ρ5, g.run (e a) (wipeE ρ1 vs) = some ((), ρ2) ∧ t ρ2 = some (true, ρ3) ∧ fi1 ρ3 = some (ds1, ρ4) ∧ (∀ acc, acc.length + (f a).length ≤ LIM → lcM vs1 g1 t1 fe ds1 acc (wipeE ρ4 vs1) = some (acc ++ f a, ρ5)) ∧ wipeE (restE ρ4 ρ5 vs1) vs = wipeE ρ1 vs) :
    xLc2 vs vs1 fi g t fi1 g1 t1 fe ρ = some (.fresh (.list (l.flatMap f)), restE ρ1 (wipeE ρ1 vs) vs) := by
  unfold xLc2
  rw [hi]
  dsimp only
  rw [lc2_mapT l [] (by simpa using hl) h]
  rfl
theorem dc_mapT {α : Type} {vs : List Nat} {g : G1} {t : Mo Bool} {fk fv : Mo Rs} {ρ0 : Rho} {e : α → PyData} {k : α → Str} {v : α → PyData} : ∀ (l : List α) (acc : List (PyData × PyData)), acc.length + l.length ≤ LIM →
    (∀ a ∈ l, ∃ ρ1 ρ2 ρ3, g.run (e a) ρ0 = some ((), ρ1) ∧ t ρ1 = some (true, ρ2) ∧ kvM fk fv ρ2 = some ((.str (k a), v a), ρ3) ∧ wipeE ρ3 vs = ρ0) →
    dcM vs g t fk fv (l.map e) acc ρ0 = some (l.foldl (fun d a => putD d (.str (k a)) (v a)) acc, ρ0)
  | [], acc, _, _ => by simp [dcM, retM]
  | a :: l, acc, hl, h => by
    obtain ⟨ρ1, ρ2, ρ3, e1, e2, e3, e4⟩ := h a List.mem_cons_self
    rw [List.length_cons] at hl
    rw [List.map_cons]
    unfold dcM
    rw [e1]
    dsimp only
    rw [e2]
    dsimp only
    rw [e3]
    dsimp only
    have hp := putD_len acc (.str (k a)) (v a)
    show (if _ then _ else _) = _
    rw [if_pos (by omega), e4, dc_mapT l _ (by omega) fun x hx => h x (List.mem_cons_of_mem _ hx)]
    rfl
theorem dc_evalT {α : Type} {vs : List Nat} {fi : Mo (List PyData)} {g : G1} {t : Mo Bool} {fk fv : Mo Rs} {ρ ρ1 : Rho} {l : List α} {e : α → PyData} (k : α → Str) (v : α → PyData) (hi : fi ρ = some (l.map e, ρ1)) (hl : l.length ≤ LIM)
    (h : ∀ a ∈ l, ∃ ρ2 ρ3 ρ4, g.run (e a) (wipeE ρ1 vs) = some ((), ρ2) ∧ t ρ2 = some (true, ρ3) ∧ kvM fk fv ρ3 = some ((.str (k a), v a), ρ4) ∧ wipeE ρ4 vs = wipeE ρ1 vs) :
    xDc vs fi g t fk fv ρ = some (.fresh (.dict (l.foldl (fun d a => putD d (.str (k a)) (v a)) [])), restE ρ1 (wipeE ρ1 vs) vs) := by
  unfold xDc
  rw [hi]
  dsimp only
  rw [dc_mapT l [] (by simpa using hl) h]
end PyI

/-! PyI, part Y: names from a list. -/
namespace PyI
open PySem PySem.Spec L2
section
variable {X : Cx} {es : List Expr} {gs : G2} {pos : Pos}
theorem gd_lst {k : Nat} (n : Nat) (hc : X.calm = true) (h : GsD X es gs) (hl : ∀ ds ρ x, gs.run ds ρ = some x → ds.length = n) (hn : (assignEach es X.env).length = n := by rfl) (hst : (assignEach es X.env).findIdx? (·.1) = none := by rfl) : GD X (.Tuple es k pos) (gL gs) := PG.to (pg_lst hc h hn hst) fun v σ H Q h => by
  obtain ⟨S, ρ, d, ρ', G, r, e, q⟩ := h
  cases d with
  | list ds =>
    cases r with
    | lst hs h1 rl => exact ⟨_, _, rfl, SqL.of h1, by rw [rl.len]; exact hl ds ρ _ e, S, ρ, ds, ρ', G, rl, e, q⟩
  | _ => cases e
end
@[simp] theorem e_gL (g : G2) (l : List PyData) (ρ : Rho) : (gL g).run (.list l) ρ = g.run l ρ := (rfl)
end PyI

/-! PyI, part Z: comprehensions over a row of anything. -/
namespace PyI
open PySem PySem.Spec L2
theorem lc_mapT {α : Type} {vs : List Nat} {g : G1} {t : Mo Bool} {fe : Mo Rs} {ρ0 : Rho} {e : α → PyData} {p : α → Bool} {f : α → PyData} : ∀ (l : List α) (acc : List PyData), acc.length + l.length ≤ LIM →
    (∀ a ∈ l, ∃ ρ1, g.run (e a) ρ0 = some ((), ρ1) ∧ ∃ ρ2, t ρ1 = some (p a, ρ2) ∧ (p a = false → wipeE ρ2 vs = ρ0) ∧ (p a = true → ∃ r ρ3 ρ4, fe ρ2 = some (r, ρ3) ∧ keepR r ρ3 = some (f a, ρ4) ∧ wipeE ρ4 vs = ρ0)) →
    lcM vs g t fe (l.map e) acc ρ0 = some (acc ++ (l.filter p).map f, ρ0)
  | [], acc, _, _ => by simp [lcM, retM]
  | a :: l, acc, hl, h => by
    obtain ⟨ρ1, e1, ρ2, e2, h1, h2⟩ := h a List.mem_cons_self
    have hl' : acc.length + l.length + 1 ≤ LIM := by rw [List.length_cons] at hl; omega
    rw [List.map_cons]
    unfold lcM
    rw [e1]
    dsimp only
    rw [e2]
    cases hp : p a with
    | false =>
      dsimp only
      rw [h1 hp, lc_mapT l acc (by omega) fun x hx => h x (List.mem_cons_of_mem _ hx), List.filter_cons_of_neg (by simp [hp])]
    | true =>
      obtain ⟨r, ρ3, ρ4, e3, e4, e5⟩ := h2 hp
      dsimp only
      have eb : bindM fe keepR ρ2 = some (f a, ρ4) := by unfold bindM; rw [e3]; exact e4
      rw [eb]
      dsimp only
      rw [if_pos (by omega), e5, lc_mapT l (acc ++ [f a]) (by rw [List.length_append, List.length_singleton]; omega) fun x hx => h x (List.mem_cons_of_mem _ hx), List.filter_cons_of_pos hp]
      simp
theorem lc_evalT {α : Type} {vs : List Nat} {fi : Mo (List PyData)} {g : G1} {t : Mo Bool} {fe : Mo Rs} {ρ ρ1 : Rho} {l : List α} {e : α → PyData} (p : α → Bool) (f : α → PyData) (hi : fi ρ = some (l.map e, ρ1)) (hl : l.length ≤ LIM)
    (h : ∀ a ∈ l, ∃ ρ2, g.run (e a) (wipeE ρ1 vs) = some ((), ρ2) ∧ ∃ ρ3, t ρ2 = some (p a, ρ3) ∧ (p a = false → wipeE ρ3 vs = wipeE ρ1 vs) ∧ (p a = true → ∃ r ρ4 ρ5, fe ρ3 = some (r, ρ4) ∧ keepR r ρ4 = some (f a, ρ5) ∧ wipeE ρ5 vs = wipeE ρ1 vs)) :
    xLc vs fi g t fe ρ = some (.fresh (.list ((l.filter p).map f)), restE ρ1 (wipeE ρ1 vs) vs) := by
  unfold xLc
  rw [hi]
  dsimp only
  rw [lc_mapT l [] (by simpa using hl) h]
  rfl
/-! ### each text once -/
theorem add1_mem {l : List Str} {k x : Str} : x ∈ SetT.add1 l k ↔ x ∈ l ∨ x = k := by
  unfold SetT.add1
  split
  · rename_i h
    exact ⟨.inl, fun z => z.elim id fun y => y ▸ h⟩
  · simp
theorem dedup_mem_from (x : Str) : ∀ (xs l : List Str), x ∈ xs.foldl SetT.add1 l ↔ x ∈ l ∨ x ∈ xs
  | [], l => by simp
  | k :: xs, l => by
    rw [List.foldl_cons, dedup_mem_from x xs, add1_mem, List.mem_cons]
    exact ⟨fun h => h.elim (fun h => h.elim .inl fun h => .inr (.inl h)) fun h => .inr (.inr h), fun h => h.elim (fun h => .inl (.inl h)) fun h => h.elim (fun h => .inl (.inr h)) .inr⟩
theorem dedup_mem {x : Str} {xs : List Str} : x ∈ dedupS xs ↔ x ∈ xs := by
  unfold dedupS
  rw [dedup_mem_from]
  simp
theorem sod_mem {x : Str} {xs : List Str} : x ∈ sortS (dedupS xs) ↔ x ∈ xs := by
  rw [(sortS_perm _).mem_iff, dedup_mem]
theorem add1_nodup {l : List Str} {k : Str} (h : l.Nodup) : (SetT.add1 l k).Nodup := by
  unfold SetT.add1
  split
  · exact h
  · rename_i hk
    exact List.nodup_append.mpr ⟨h, by simp, fun x hx y hy z => by rw [List.mem_singleton] at hy; subst hy; subst z; exact hk hx⟩
theorem dedup_nodup_from : ∀ (xs l : List Str), l.Nodup → (xs.foldl SetT.add1 l).Nodup
  | [], _, h => h
  | _ :: xs, _, h => dedup_nodup_from xs _ (add1_nodup h)
theorem dedup_nodup (xs : List Str) : (dedupS xs).Nodup := dedup_nodup_from xs [] List.nodup_nil
theorem add1_len (l : List Str) (k : Str) : (SetT.add1 l k).length ≤ l.length + 1 := by
  unfold SetT.add1
  split <;> simp
theorem dedup_len_from : ∀ (xs l : List Str), (xs.foldl SetT.add1 l).length ≤ l.length + xs.length
  | [], l => Nat.le_refl _
  | x :: xs, l => by
    have h1 := dedup_len_from xs (SetT.add1 l x)
    have h2 := add1_len l x
    rw [List.length_cons]
    show (xs.foldl SetT.add1 (SetT.add1 l x)).length ≤ _
    omega
theorem dedup_len (xs : List Str) : (dedupS xs).length ≤ xs.length := by
  have := dedup_len_from xs []
  rw [List.length_nil, Nat.zero_add] at this
  exact this
theorem selD_vals (kvs : List (PyData × PyData)) : selD .vals kvs = kvs.map (·.2) := rfl
theorem selD_keys (kvs : List (PyData × PyData)) : selD .keys kvs = kvs.map (·.1) := rfl
end PyI

/-! PyI: d.pop(k) of a dict; dict(l) of a list of pairs whose keys are pairs; equations for dicts with pairs as keys -/
namespace PyI
open PySem PySem.Spec L2
/-! ### d.pop(k) -/
def rPopK : V → List V → Hp → VK → Prop := fun x vs H Q => ∃ a kvs k v, x = .ref a ∧ vs = [kV k] ∧ H a = some (.dK kvs) ∧ valV kvs k = some v ∧ Q v (upd H a (.dK (dropK kvs k)))
theorem mt_popK {X : Cx} : MtR X "dict.pop" rPopK := by
  intro pins s σ H x vs v us Q I rx rv h
  obtain ⟨a, kvs, k, y, rfl, rfl, ha, hv, q⟩ := h
  cases rx
  obtain ⟨w, rfl, rw'⟩ := rv.one
  exact d_pop I ha rw' hv (.inl rfl) fun w' s' I' r' => ⟨y, _, I', r', q⟩
def dropD (kvs : List (PyData × PyData)) (k : PyData) : List (PyData × PyData) := kvs.filter fun p => !keyEq p.1 k
def mPopK : PyData → List PyData → Option (PyData × PyData)
  | .dict kvs, [k] => match keyOf? k with
    | some kk => if isM kvs = true then none else (lookD (keyD kk) kvs).map fun y => (.dict (dropD kvs (keyD kk)), y)
    | none => none
  | _, _ => none
theorem KvR.drop {K : PySem.W.Frag} {S : Addr → Prop} {H : Hp} (k : Key) : ∀ {ts : List (Key × V)} {kvs : List (PyData × PyData)}, KvR K S H ts kvs → KvR K S H (dropK ts k) (dropD kvs (keyD k))
  | [], [], h => h
  | [], _ :: _, h => by have := h.len; simp at this
  | _ :: _, [], h => by have := h.len; simp at this
  | p :: ts, q :: kvs, h => by
    obtain ⟨a, b, c⟩ := h.cons_inv
    have ih := KvR.drop k c
    unfold dropK dropD at *
    by_cases z : p.1 = k
    · rw [List.filter_cons_of_neg (by simpa using z), List.filter_cons_of_neg (by rw [a, keyEq_keyD]; simpa using z)]
      exact ih
    · rw [List.filter_cons_of_pos (by simpa using z), List.filter_cons_of_pos (by rw [a, keyEq_keyD]; simpa using z)]
      exact .cons a b ih
theorem md_popK {K : PySem.W.Frag} : MetD K mPopK rPopK := by
  intro S H a d d' rt ds vs Q al ns t r e q
  unfold mPopK at e
  split at e
  · split at e
    · rename_i k hk
      rename List (PyData × PyData) => kvs
      split at e
      · cases e
      · rename_i hM
        obtain ⟨y, hy, e2⟩ := Option.map_eq_some_iff.mp e
        cases e2
        rcases t with ⟨ts, h1, p1, p2⟩ | ⟨ts, kvs', rfl, _⟩
        · obtain ⟨w, rfl, rw'⟩ := r.one
          obtain rfl := Rdb.key (.inl rw') hk
          have kv : KvR K S H ts kvs := ⟨p1, p2⟩
          rcases look_of k p1 p2 with ⟨n1, n2⟩ | ⟨v, d2, n1, n2, n3⟩
          · rw [n2] at hy; cases hy
          · rw [n2] at hy
            cases hy
            have u := uph_at (H := H) ns (.dK (dropK ts k))
            have m := KvR.drop k kv
            exact ⟨a, ts, k, v, rfl, rfl, h1, n1, q _ _ (.inl ⟨_, upd_same, m.1, m.2.up u⟩) (n3.up u)⟩
        · exact absurd rfl hM
    · cases e
  · cases e
/-! ### dict(l), keys that are pairs -/
def mergeT (kvs more : List (List Key × V)) : List (List Key × V) := more.foldl (fun acc kv => putK acc kv.1 kv.2) kvs
theorem length_mergeT : ∀ (more kvs : List (List Key × V)), (mergeT kvs more).length ≤ kvs.length + more.length
  | [], kvs => Nat.le_refl _
  | p :: more, kvs => by
    have h1 := length_mergeT more (putK kvs p.1 p.2)
    have h2 := length_putK kvs p.1 p.2
    show (mergeT (putK kvs p.1 p.2) more).length ≤ _
    rw [List.length_cons]; omega
theorem KT.merge {H : Hp} : ∀ {more : List (List Key × V)} {ms : List (List Key × Addr × Value)} {kvs : List (List Key × V)} {xs : List (List Key × Addr × Value)}, KT H more ms → KT H kvs xs → KT H (mergeT kvs more) (PySem.storedAllH xs ms)
  | _, _, _, _, .nil, h => h
  | p :: more, q :: ms, kvs, xs, .cons h t, g => by
    obtain ⟨h1, h2, h3⟩ := h
    have := g.put p.1 h2 h3
    show KT H (mergeT (putK kvs p.1 p.2) more) (PySem.storedAllH (PySem.storedH xs q.1 q.2.1 q.2.2) ms)
    rw [← h1]
    exact KT.merge t this
theorem KtR.merge {K : PySem.W.Frag} {S : Addr → Prop} {H : Hp} : ∀ {us : List (List Key × V)} {more : List (List Key × PyData)} {ts : List (List Key × V)} {kvs : List (PyData × PyData)}, Paired (fun (u : List Key × V) (m : List Key × PyData) => u.1 = m.1 ∧ u.1.length = 2 ∧ Rp K S H u.2 m.2) us more → KtR K S H ts kvs → KtR K S H (mergeT ts us) (mergeP kvs more)
  | _, _, _, _, .nil, g => g
  | u :: us, m :: more, ts, kvs, .cons h t, g => by
    obtain ⟨h1, h2, h3⟩ := h
    have := g.put h2 h3
    show KtR K S H (mergeT (putK ts u.1 u.2) us) (mergeP (putP kvs m.1 (.tuple (m.1.map keyD)) m.2) more)
    rw [← h1]
    exact KtR.merge t this
/-- the pairs of the list -/
theorem pairsP_run {K : PySem.W.Frag} {S : Addr → Prop} {H : Hp} : ∀ {ds : List PyData} {l : List (List Key × PyData)} {vs : List V}, RpL K S H vs ds → pairsP ds = some l →
    ∃ (ps : List Addr) (kvs : List (List Key × V)), vs = ps.map V.ref ∧ Paired (fun p (kv : List Key × V) => ∃ b, SqT K H p [.ref b, kv.2] ∧ H b = some (.tup (kv.1.map kV))) ps kvs ∧ Paired (fun (u : List Key × V) (m : List Key × PyData) => u.1 = m.1 ∧ u.1.length = 2 ∧ Rp K S H u.2 m.2) kvs l
  | [], l, _, .nil, e => by cases e; exact ⟨[], [], rfl, .nil, .nil⟩
  | d :: r, l, _, .cons h t, e => by
    unfold pairsP at e
    split at e
    · rename_i e0; cases e0
    · rename_i k v r' e0
      cases e0
      split at e
      · rename_i ks l' hk hl
        cases e
        obtain ⟨ps, kvs, rfl, hp, hr⟩ := pairsP_run t hl
        cases h with
        | tup hs hh _ =>
          cases hh with
          | cons a b =>
            cases b with
            | cons b c =>
              cases c
              obtain ⟨bb, rfl, hb⟩ := Rdb.keyT (.inl a) hk
              exact ⟨_ :: ps, (ks, _) :: kvs, rfl, .cons ⟨bb, hs.sq, hb⟩ hp, .cons ⟨rfl, (keysOf_key hk).2, b⟩ hr⟩
      · cases e
    · cases e
theorem pairsT_of {X : Cx} {pins : List (Addr × Obj)} {σ : L2.St} {H : Hp} {s : Shared} (I : Inv X pins σ H s) : ∀ {ps : List Addr} {kvs : List (List Key × V)}, Paired (fun p (kv : List Key × V) => ∃ b, SqT X.K H p [.ref b, kv.2] ∧ H b = some (.tup (kv.1.map kV))) ps kvs →
    ∃ prs : List (List Key × Addr × Value), KT H kvs prs ∧ prs.length = ps.length ∧ ∀ (j : Nat) (q : List Key × Addr × Value), prs[j]? = some q → ∃ (p : Addr), ps[j]? = some p ∧ PyProof.Rows.IsTup s.heap p #[.ref q.2.1, q.2.2] ∧ H q.2.1 = some (.tup (q.1.map kV))
  | _, _, .nil => ⟨[], .nil, rfl, fun j q e => by simp at e⟩
  | p :: ps, kv :: kvs, .cons h t => by
    obtain ⟨prs, r, hl, hp⟩ := pairsT_of I t
    obtain ⟨b, h, hb⟩ := h
    obtain ⟨its, rv, ht, _⟩ := I.tuple h
    obtain ⟨u, y, ei, ru, ry⟩ := vals2 rv
    subst ei
    obtain rfl : u = Value.ref b := ru
    refine ⟨(kv.1, b, y) :: prs, .cons ⟨rfl, hb, ry⟩ r, by rw [List.length_cons, List.length_cons, hl], fun j q e => ?_⟩
    cases j with
    | zero =>
      cases e
      exact ⟨p, rfl, ht, hb⟩
    | succ j =>
      obtain ⟨b', e1, e2, e3⟩ := hp j q (by simpa using e)
      exact ⟨b', by simpa using e1, e2, e3⟩
theorem dict_ofP {X : Cx} (hcalm : X.calm = true) (hu : X.A.units + 64 < cLine) : CallR X (.type "dict") (fun xs H Q => ∃ (a : Addr) (ps : List Addr) (kvs : List (List Key × V)), xs = [.ref a] ∧ SqL X.K H a (ps.map V.ref) ∧ Paired (fun p (kv : List Key × V) => ∃ b, SqT X.K H p [.ref b, kv.2] ∧ H b = some (.tup (kv.1.map kV))) ps kvs ∧
    ∀ p, H p = none → Q (.ref p) (upd H p (.dT (mergeT [] kvs)))) := by
  rintro pins s σ H xs us Q I r ⟨a, ps, kvs, rfl, hq, hp, q⟩
  obtain ⟨u, rfl, ru⟩ := vals1 r
  cases ru
  obtain ⟨its, rv, pl, hz⟩ := I.list hq
  obtain rfl := refs_at rv
  rw [List.length_map] at hz
  obtain ⟨prs, rel, hl, hpr⟩ := pairsT_of I hp
  obtain ⟨o, n, ho, hc, hd, hdat⟩ := pl
  have hlen : (mergeT [] kvs).length ≤ sizeLine := by
    have h1 := length_mergeT kvs []
    have h2 : kvs.length = prs.length := rel.length
    rw [List.length_nil] at h1
    omega
  have hu2 : (prs.map fun q => (Value.ref q.2.1, q.2.2)).length = prs.length := by rw [List.length_map]
  have ok : PlainSeq "list" s.heap a (ps.map Value.ref).toArray ∧ PairItems s.heap (ps.map Value.ref).toArray (fun j => ps.getD j 0) (prs.map fun q => (Value.ref q.2.1, q.2.2)) := by
    refine ⟨⟨o, n, ho, hc, hd, hdat⟩, by rw [List.size_toArray, List.length_map, hu2, hl], fun j k v e => ?_⟩
    rw [List.getElem?_map] at e
    obtain ⟨q', e1, e2⟩ := Option.map_eq_some_iff.mp e
    cases e2
    obtain ⟨b, g1, g2, g3⟩ := hpr j q' e1
    have x1 : ps.getD j 0 = b := by rw [List.getD_eq_getElem?_getD, g1]; rfl
    refine ⟨?_, ?_⟩
    · show (ps.map Value.ref).toArray[j]? = some (Value.ref (ps.getD j 0))
      rw [x1]; simp [g1]
    · show PairAt s.heap (ps.getD j 0) _ _
      rw [x1]; exact .inl g2
  have his : ∀ x ∈ prs, ∀ h' : Heap, (∀ b o, b ≠ s.heap.objs.size → s.heap.get? b = some o → h'.get? b = some o) → (tupleKind (mixKind X.prog X.w)).is h' x.1 x.2.1 := by
    intro x hx h' hk
    obtain ⟨j, hj⟩ := List.getElem?_of_mem hx
    obtain ⟨b, g1, g2, g3⟩ := hpr j x hj
    obtain ⟨o2, its2, n2, z1, z2, z3, z4⟩ := key_of I.hok g3
    exact ⟨o2, its2, n2, hk _ _ (Nat.ne_of_lt (Heap.lt_size z1)) z1, z2, z3, z4⟩
  refine PySem.call_dict_pairsH (knd := tupleKind (mixKind X.prog X.w)) (ps := prs) (PairArg.list a (ps.map Value.ref).toArray (fun j => ps.getD j 0) (prs.map fun q => (Value.ref q.2.1, q.2.2))) (I.ok.hd hcalm) ?_ ok ?_ ?_ (by rw [hu2, hl]; exact hz) fun h' tk hd' k => ?_
  · show X.A.in1.in1.units < cLine
    have : X.A.in1.in1.units = X.A.units + 2 := rfl
    omega
  · refine ⟨hu2.symm, fun i key v e => ?_⟩
    have e : (prs.map fun q => (Value.ref q.2.1, q.2.2))[i]? = some (key, v) := e
    rw [List.getElem?_map] at e
    obtain ⟨q', e1, e2⟩ := Option.map_eq_some_iff.mp e
    cases e2
    exact ⟨_, _, e1, rfl⟩
  · intro h' hk x hx
    exact his x hx h' fun b o h1 h2 => hk b o h1 (by simp) h2
  · have hm : (s.heap.objs.size == sysModules) = false := beq_eq_false_iff_ne.mpr (Nat.ne_of_gt I.big)
    have hn : H s.heap.objs.size = none := I.hok.fresh (Nat.le_refl _)
    obtain ⟨oD, es, ep, w1, w2, w3, w4, w5, w6⟩ := hd'
    refine ⟨.ref _, _, I.laid (t' := tk) (a := s.heap.objs.size) (o := .dT (mergeT [] kvs)) (fun b o e => k b o (by simp) e) (Nat.le_refl _) ⟨hlen, hm, PySem.storedAllH [] prs, (KT.merge rel .nil).keeps fun b ys e => ?_, oD, es, ep, w1, w2, w3, w4, w6⟩, rfl, q _ hn⟩
    rw [upd_ne (ne_of_none e hn)]
    exact e
theorem b_dictT {X : Cx} (hc : X.calm = true) (hu : X.A.units + 64 < cLine) : CallR X (.type "dict") (rB X.K oDictT) := by
  intro pins s σ H xs us Q I r h
  obtain ⟨S, ds, d, al, rs, e, q⟩ := h
  unfold oDictT at e
  split at e
  · obtain ⟨l, e1, rfl⟩ := Option.map_eq_some_iff.mp e
    obtain ⟨v, rfl, r1⟩ := rs.one
    obtain ⟨a, vs, rfl, h1, p1⟩ := r1.lst
    obtain ⟨ps, kvs, rfl, hp, hr⟩ := pairsP_run p1 e1
    refine dict_ofP hc hu pins s σ H _ us Q I r ⟨a, ps, kvs, rfl, SqL.of h1, hp, fun p hn => ?_⟩
    have m := KtR.merge hr (⟨rfl, .nil⟩ : KtR X.K S H [] [])
    exact q _ S _ (Gw.lay al hn) ⟨p, rfl, hn, fun z => al p z hn, .inr ⟨_, _, rfl, upd_same, m.1, m.2.up (Gw.lay al hn).up⟩⟩
  · cases e
end PyI

/-! PyI, part JB: list(..) of a dict, too. -/
namespace PyI
open PySem PySem.Spec L2
def oListA : List PyData → Option PyData
  | [.dict kvs] => if isM kvs = true then none else some (.list (kvs.map (·.1)))
  | l => oList l
@[simp] theorem o_lstA1 (l : List PyData) : oListA [.list l] = some (.list l) := (rfl)
@[simp] theorem o_lstA2 (l : List PyData) : oListA [.tuple l] = some (.list l) := (rfl)
@[simp] theorem o_lstA3 (l : List (PyData × PyData)) (h : isM l = false) : oListA [.dict l] = some (.list (l.map (·.1))) := by
  show (if isM l = true then none else some (PyData.list (l.map (·.1)))) = _
  rw [h]; rfl
theorem rp_keys {K : PySem.W.Frag} {S : Addr → Prop} {H : Hp} : ∀ (ts : List (Key × V)), RpL K S H (ts.map fun kv => kV kv.1) (ts.map fun p => keyD p.1)
  | [] => .nil
  | t :: ts => by
    refine .cons ?_ (rp_keys ts)
    obtain ⟨k, v⟩ := t
    cases k with
    | inl i => exact .int i
    | inr x => exact .str x
theorem b_listA {X : Cx} (hc : X.calm = true) : CallR X (.type "list") (rB X.K oListA) := by
  intro pins s σ H xs us Q I r h
  obtain ⟨S, ds, d, al, rs, e, q⟩ := h
  unfold oListA at e
  split at e
  · rename_i kvs
    split at e
    · cases e
    · rename_i hM
      have hM : isM kvs = false := by simpa using hM
      cases e
      obtain ⟨v, rfl, r1⟩ := rs.one
      obtain ⟨a, ts, rfl, h1, p1, p2⟩ := r1.dct hM
      refine call_listD hc pins s σ H _ us Q I r ⟨a, ts, rfl, h1, fun p hn => ?_⟩
      rw [p1] at q
      exact q _ S _ (Gw.lay al hn) (lay_lst al (rp_keys ts) hn hn)
  · exact b_list pins s σ H xs us Q I r ⟨S, ds, d, al, rs, e, q⟩
end PyI

set_option maxHeartbeats 1000000
/-! PyI, part JC: zip of a list and a tuple. A kind of source: what its iterator is, what it walks. -/
namespace PyI
open PySem PySem.Spec L2
structure Src (prog : Program) (w : World) where
  I : Heap → Addr → Addr → Nat → Prop
  L : Heap → Addr → Array Value → Prop
  ext : ∀ {h h' : Heap} {b it l : Addr} {k : Nat}, I h it l k → Heap.ExtBut b h h' → it ≠ b → I h' it l k
  extL : ∀ {h h' : Heap} {b l : Addr} {xs : Array Value}, L h l xs → Heap.ExtBut b h h' → l ≠ b → L h' l xs
  there : ∀ {h : Heap} {it l : Addr} {k : Nat}, I h it l k → ∃ o, h.get? it = some o ∧ ∀ vs n, o.data ≠ .seq vs n
  same : ∀ {h h' : Heap} {it l : Addr} {k : Nat}, I h it l k → (∀ o, h.get? it = some o → h'.get? it = some o) → I h' it l k
  item : ∀ {A : Around} {E : Value → Shared → Prop} {s : Shared} {it l : Addr} {k : Nat} {xs : Array Value} {x : Value} {Q : Value → Shared → Prop}, I s.heap it l k → L s.heap l xs → xs[k]? = some x →
    (∀ h', I h' it l (k + 1) → Heap.SameBut it s.heap h' → Q x { s with heap := h' }) → wpAny (model prog w) A (Builtin.SmallTypes.nextOf (.ref it)) Q E s
  fin : ∀ {A : Around} {E : Value → Shared → Prop} {s : Shared} {it l : Addr} {k : Nat} {xs : Array Value} {Q : Value → Shared → Prop}, A.handled = none → I s.heap it l k → L s.heap l xs → xs[k]? = none →
    (∀ h' e, Heap.ExtBut it s.heap h' → (∃ o, h'.get? e = some o ∧ o.cls = .type "StopIteration") → E (.ref e) { s with heap := h' }) → wpAny (model prog w) A (Builtin.SmallTypes.nextOf (.ref it)) Q E s
def srcL (prog : Program) (w : World) : Src prog w where
  I := fun h it l k => h.IsListIter it l k
  L := fun h l xs => h.IsList l xs
  ext := fun a b c => a.extBut b c
  extL := fun a b c => a.extBut b c
  there := fun ⟨o, e, _, d⟩ => ⟨o, e, fun vs n q => by rw [d] at q; cases q⟩
  same := fun a k => a.at fun o q => k o q
  item := fun a b c d => wpAny_nextOf_list_item a b c d
  fin := fun hh a b c d => wpAny_nextOf_list_end hh a b c d
def srcT (prog : Program) (w : World) : Src prog w where
  I := fun h it l k => h.IsTupleIter it l k
  L := fun h l xs => h.IsTuple l xs
  ext := fun a b c => a.extBut b c
  extL := fun a b c => a.extBut b c
  there := fun ⟨o, e, _, d⟩ => ⟨o, e, fun vs n q => by rw [d] at q; cases q⟩
  same := fun a k => a.at fun o q => k o q
  item := fun a b c d => RZ.nextOf_tuple_item a b c d
  fin := fun hh a b c d => RZ.nextOf_tuple_end hh a b c d
section
variable {prog : Program} {w : World} {A : Around} {E : Value → Shared → Prop} {s : Shared} {zp tI tO j1 j2 m1 m2 : Addr} {p q : Nat} {us ws : Array Value} {u v c0 c1 : Value}
/-- one turn of zip, whatever the sources are -/
theorem zipG_item (S1 S2 : Src prog w) {Q : Value → Shared → Prop} (ap : ZipApart zp tI tO j1 j2 m1 m2) (gz : IsZip s.heap zp tI tO .none) (gI : IsPair s.heap tI (.ref j1) (.ref j2)) (gO : IsPair s.heap tO c0 c1)
    (g1 : S1.I s.heap j1 m1 p) (g2 : S2.I s.heap j2 m2 q) (k1 : S1.L s.heap m1 us) (k2 : S2.L s.heap m2 ws) (eu : us[p]? = some u) (ev : ws[q]? = some v)
    (fin : ∀ h', IsZip h' zp tI tO (rawInt s.heap.objs.size) → IsPair h' tO u v → S1.I h' j1 m1 (p + 1) → S2.I h' j2 m2 (q + 1) → IsPair h' s.heap.objs.size u v → h'.objs.size = s.heap.objs.size + 1 →
      (∀ a o, a ≠ zp → a ≠ tO → a ≠ j1 → a ≠ j2 → s.heap.get? a = some o → h'.get? a = some o) → Q (.ref s.heap.objs.size) { s with heap := h' }) :
    wpAny (model prog w) A (Builtin.«zip.__next__» ⟨[.ref zp], []⟩) (fun fi s' => ∃ r, fi = .done (.ret r) ∧ Q r s') E s := by
  show wpAny _ _ (field (.ref zp) 2 >>= _) _ _ _
  refine wpAny_bind (wpAny_field gz rfl (x := .bool false) rfl ?_); show wpAny _ _ (field (.ref zp) 3 >>= _) _ _ _
  refine wpAny_bind (wpAny_field gz rfl (x := .ref tI) rfl ?_); refine wpAny_bind (wpAny_seqItems gI rfl ?_)
  show wpAny _ _ (Builtin.SmallTypes.ownedTupleIsFree (.ref zp) >>= _) _ _ _
  refine wpAny_bind ?_; unfold Builtin.SmallTypes.ownedTupleIsFree
  refine wpAny_bind (wpAny_field gz rfl (x := .none) rfl (wpAny_pure ?_)); simp only [if_true]
  refine wpAny_bind (wpAny_rule ?_); refine wpAny_bind (wpAny_field gz rfl (x := .ref tO) rfl ?_)
  refine wpAny_bind (wpAny_setField_rec gz (by simp) fun ha gza sa => ?_)
  replace gza : IsZip ha zp tI tO .ellipsis := gza
  refine wpAny_bind ?_; simp only [List.zipIdx_cons, List.zipIdx_nil, List.forIn_cons, List.forIn_nil]
  refine wpAny_bind (wpAny_bind (wpAny_onRaise ?_)); show wpAny _ _ (Builtin.SmallTypes.nextOf (.ref j1) >>= _) _ _ _
  refine wpAny_bind (S1.item (S1.ext g1 sa.extBut ap.i1z) (S1.extL k1 sa.extBut ap.l1z) eu fun hb g1b sb => wpAny_pure ?_)
  have gOb : IsPair hb tO c0 c1 := sb.extBut _ _ ap.TOi1 (sa.extBut _ _ ap.TOz gO)
  refine wpAny_bind (wpAny_seqItems gOb rfl ?_); refine wpAny_bind (wpAny_updateSeq_pair gOb fun hc gOc sc => ?_)
  replace gOc : IsPair hc tO u c1 := gOc
  refine wpAny_bind (wpAny_letGo (wpAny_pure ?_)); refine wpAny_bind (wpAny_bind (wpAny_onRaise ?_))
  show wpAny _ _ (Builtin.SmallTypes.nextOf (.ref j2) >>= _) _ _ _
  refine wpAny_bind (S2.item (S2.ext (S2.ext (S2.ext g2 sa.extBut ap.i2z) sb.extBut ap.i12.symm) sc.extBut ap.TOi2.symm)
    (S2.extL (S2.extL (S2.extL k2 sa.extBut ap.l2z) sb.extBut ap.l2i1) sc.extBut ap.l2TO) ev fun hd g2d sd => wpAny_pure ?_)
  have gOd : IsPair hd tO u c1 := sd.extBut _ _ ap.TOi2 gOc
  refine wpAny_bind (wpAny_seqItems gOd rfl ?_); refine wpAny_bind (wpAny_updateSeq_pair gOd fun he gOe se => ?_)
  replace gOe : IsPair he tO u v := gOe
  refine wpAny_bind (wpAny_letGo (wpAny_pure (wpAny_pure ?_))); refine wpAny_bind (wpAny_seqItems gOe rfl ?_)
  refine wpAny_bind (wpAny_newTuple ?_); have siz : he.objs.size = s.heap.objs.size := by rw [se.1, sd.1, sc.1, sb.1, sa.1]
  have gze : IsZip he zp tI tO .ellipsis := se.extBut _ _ ap.TOz.symm (sd.extBut _ _ ap.i2z.symm (sc.extBut _ _ ap.TOz.symm (sb.extBut _ _ ap.i1z.symm gza)))
  have kp : ∀ a o, a ≠ zp → a ≠ tO → a ≠ j1 → a ≠ j2 → s.heap.get? a = some o → he.get? a = some o := fun a o n1 n2 n3 n4 e =>
    se.extBut _ _ n2 (sd.extBut _ _ n4 (sc.extBut _ _ n2 (sb.extBut _ _ n3 (sa.extBut _ _ n1 e))))
  have g1e : S1.I he j1 m1 (p + 1) := S1.ext (S1.ext (S1.ext g1b sc.extBut ap.TOi1.symm) sd.extBut ap.i12) se.extBut ap.TOi1.symm
  have g2e : S2.I he j2 m2 (q + 1) := S2.ext g2d se.extBut ap.TOi2.symm
  have zlt : zp < he.objs.size := Heap.lt_size gze
  show wpAny _ _ (Builtin.SmallTypes.ownedTupleHandOut (.ref zp) (.ref he.objs.size) >>= _) _ _ _
  refine wpAny_bind ?_; unfold Builtin.SmallTypes.ownedTupleHandOut
  have gzf : IsZip (he.push { cls := .type "tuple", data := .seq #[u, v] }) zp tI tO .ellipsis := Heap.get?_push_of_some _ gze
  refine wpAny_bind (wpAny_setField_rec gzf (by simp) fun hg gzg sg => ?_)
  replace gzg : IsZip hg zp tI tO (rawInt he.objs.size) := gzg
  refine wpAny_setField_rec gzg (by simp) fun hk gzk sk => ?_
  replace gzk : IsZip hk zp tI tO (rawInt he.objs.size) := gzk
  have up : ∀ a o, a ≠ zp → he.get? a = some o → hk.get? a = some o := fun a o n1 e => sk.extBut _ _ n1 (sg.extBut _ _ n1 (Heap.get?_push_of_some _ e))
  have gN : IsPair hk he.objs.size u v := sk.extBut _ _ (Nat.ne_of_gt zlt) (sg.extBut _ _ (Nat.ne_of_gt zlt) (Heap.get?_push_size _ rfl))
  have sz : hk.objs.size = he.objs.size + 1 := by rw [sk.1, sg.1, Heap.size_push]
  rw [siz] at gzk gN sz
  refine wpAny_pure ⟨_, rfl, ?_⟩; show Q (.ref he.objs.size) _
  rw [siz]
  exact fin hk gzk (up _ _ ap.TOz gOe) (S1.same g1e fun o e => up _ o ap.i1z e) (S2.same g2e fun o e => up _ o ap.i2z e) gN sz fun a o n1 n2 n3 n4 e => up a o n1 (kp a o n1 n2 n3 n4 e)
/-- the end of zip -/
theorem zipG_end (S1 S2 : Src prog w) {Q : Fin → Shared → Prop} (hh : A.handled = none) (ap : ZipApart zp tI tO j1 j2 m1 m2) (gz : IsZip s.heap zp tI tO .none) (gI : IsPair s.heap tI (.ref j1) (.ref j2)) (gO : IsPair s.heap tO c0 c1)
    (g1 : S1.I s.heap j1 m1 p) (g2 : S2.I s.heap j2 m2 q) (k1 : S1.L s.heap m1 us) (k2 : S2.L s.heap m2 ws) (out : us[p]? = none ∨ ws[q]? = none)
    (fin : ∀ h' e, (∀ a o, a ≠ zp → a ≠ tO → a ≠ j1 → a ≠ j2 → s.heap.get? a = some o → h'.get? a = some o) → (∃ o, h'.get? e = some o ∧ o.cls = .type "StopIteration") → E (.ref e) { s with heap := h' }) :
    wpAny (model prog w) A (Builtin.«zip.__next__» ⟨[.ref zp], []⟩) Q E s := by
  show wpAny _ _ (field (.ref zp) 2 >>= _) _ _ _
  refine wpAny_bind (wpAny_field gz rfl (x := .bool false) rfl ?_); show wpAny _ _ (field (.ref zp) 3 >>= _) _ _ _
  refine wpAny_bind (wpAny_field gz rfl (x := .ref tI) rfl ?_); refine wpAny_bind (wpAny_seqItems gI rfl ?_)
  show wpAny _ _ (Builtin.SmallTypes.ownedTupleIsFree (.ref zp) >>= _) _ _ _
  refine wpAny_bind ?_; unfold Builtin.SmallTypes.ownedTupleIsFree
  refine wpAny_bind (wpAny_field gz rfl (x := .none) rfl (wpAny_pure ?_)); simp only [if_true]
  refine wpAny_bind (wpAny_rule ?_); refine wpAny_bind (wpAny_field gz rfl (x := .ref tO) rfl ?_)
  refine wpAny_bind (wpAny_setField_rec gz (by simp) fun ha gza sa => ?_)
  replace gza : IsZip ha zp tI tO .ellipsis := gza
  refine wpAny_bind ?_; simp only [List.zipIdx_cons, List.zipIdx_nil, List.forIn_cons, List.forIn_nil]
  refine wpAny_bind (wpAny_bind (wpAny_onRaise ?_)); show wpAny _ _ (Builtin.SmallTypes.nextOf (.ref j1) >>= _) _ _ _
  cases eu : us[p]? with
  | none =>
    refine wpAny_bind (S1.fin hh (S1.ext g1 sa.extBut ap.i1z) (S1.extL k1 sa.extBut ap.l1z) eu fun hb e sb eo => ?_)
    obtain ⟨oe, ho, hc⟩ := eo
    have gzb : IsZip hb zp tI tO .ellipsis := sb _ _ ap.i1z.symm gza
    have ne : e ≠ zp := fun x => by subst x; rw [gzb] at ho; cases ho; simp at hc
    exact wpAny_setField_rec gzb (by simp) fun hc' _ sc => fin hc' e (fun a o n1 _ n3 _ x => sc.extBut _ _ n1 (sb _ _ n3 (sa.extBut _ _ n1 x))) ⟨oe, sc.extBut _ _ ne ho, hc⟩
  | some u =>
    have ev : ws[q]? = none := by rcases out with h | h; rw [eu] at h; cases h; exact h
    refine wpAny_bind (S1.item (S1.ext g1 sa.extBut ap.i1z) (S1.extL k1 sa.extBut ap.l1z) eu fun hb g1b sb => wpAny_pure ?_)
    have gOb : IsPair hb tO c0 c1 := sb.extBut _ _ ap.TOi1 (sa.extBut _ _ ap.TOz gO)
    refine wpAny_bind (wpAny_seqItems gOb rfl ?_); refine wpAny_bind (wpAny_updateSeq_pair gOb fun hc gOc sc => ?_)
    refine wpAny_bind (wpAny_letGo (wpAny_pure ?_)); refine wpAny_bind (wpAny_bind (wpAny_onRaise ?_))
    show wpAny _ _ (Builtin.SmallTypes.nextOf (.ref j2) >>= _) _ _ _
    refine wpAny_bind (S2.fin hh (S2.ext (S2.ext (S2.ext g2 sa.extBut ap.i2z) sb.extBut ap.i12.symm) sc.extBut ap.TOi2.symm)
      (S2.extL (S2.extL (S2.extL k2 sa.extBut ap.l2z) sb.extBut ap.l2i1) sc.extBut ap.l2TO) ev fun hd e sd eo => ?_)
    obtain ⟨oe, ho, hcl⟩ := eo
    have gzd : IsZip hd zp tI tO .ellipsis := sd _ _ ap.i2z.symm (sc.extBut _ _ ap.TOz.symm (sb.extBut _ _ ap.i1z.symm gza))
    have ne : e ≠ zp := fun x => by subst x; rw [gzd] at ho; cases ho; simp at hcl
    exact wpAny_setField_rec gzd (by simp) fun he _ se => fin he e (fun a o n1 n2 n3 n4 x => se.extBut _ _ n1 (sd _ _ n4 (sc.extBut _ _ n2 (sb.extBut _ _ n3 (sa.extBut _ _ n1 x))))) ⟨oe, se.extBut _ _ ne ho, hcl⟩
theorem pyNext_zipG (S1 S2 : Src prog w) {Q : Option Value → Shared → Prop} (ap : ZipApart zp tI tO j1 j2 m1 m2) (gz : IsZip s.heap zp tI tO .none) (gI : IsPair s.heap tI (.ref j1) (.ref j2)) (gO : IsPair s.heap tO c0 c1)
    (g1 : S1.I s.heap j1 m1 p) (g2 : S2.I s.heap j2 m2 q) (k1 : S1.L s.heap m1 us) (k2 : S2.L s.heap m2 ws) (eu : us[p]? = some u) (ev : ws[q]? = some v)
    (fin : ∀ h', IsZip h' zp tI tO (rawInt s.heap.objs.size) → IsPair h' tO u v → S1.I h' j1 m1 (p + 1) → S2.I h' j2 m2 (q + 1) → IsPair h' s.heap.objs.size u v → h'.objs.size = s.heap.objs.size + 1 →
      (∀ a o, a ≠ zp → a ≠ tO → a ≠ j1 → a ≠ j2 → s.heap.get? a = some o → h'.get? a = some o) → Q (some (.ref s.heap.objs.size)) { s with heap := h' }) : wpAny (model prog w) A (pyNext (.ref zp)) Q E s := by
  have ty : s.TypeIs (.ref zp) "zip" := ⟨_, gz, rfl⟩
  unfold pyNext
  exact wpAny_bind (wpAny_attempt (wpAny_callSpecial?_slot (name := Str.ofString "__next__") ty F.slot_zip_next (wpAny_call_entry F.slot_zip_next ty F.entry_zip_next
    (zipG_item S1 S2 ap gz gI gO g1 g2 k1 k2 eu ev fun h' a1 a2 a3 a4 a5 a6 a7 => wpAny_pure (fin h' a1 a2 a3 a4 a5 a6 a7)) (F.args_zip_next_1 _))))
theorem pyNext_zipG_end (S1 S2 : Src prog w) {Q : Option Value → Shared → Prop} (hh : A.handled = none) (ap : ZipApart zp tI tO j1 j2 m1 m2) (gz : IsZip s.heap zp tI tO .none) (gI : IsPair s.heap tI (.ref j1) (.ref j2)) (gO : IsPair s.heap tO c0 c1)
    (g1 : S1.I s.heap j1 m1 p) (g2 : S2.I s.heap j2 m2 q) (k1 : S1.L s.heap m1 us) (k2 : S2.L s.heap m2 ws) (out : us[p]? = none ∨ ws[q]? = none)
    (fin : ∀ h', (∀ a o, a ≠ zp → a ≠ tO → a ≠ j1 → a ≠ j2 → s.heap.get? a = some o → h'.get? a = some o) → Q none { s with heap := h' }) : wpAny (model prog w) A (pyNext (.ref zp)) Q E s := by
  have ty : s.TypeIs (.ref zp) "zip" := ⟨_, gz, rfl⟩
  unfold pyNext
  refine wpAny_bind (wpAny_attempt (wpAny_callSpecial?_slot (name := Str.ofString "__next__") ty F.slot_zip_next (wpAny_call_entry F.slot_zip_next ty F.entry_zip_next
    (zipG_end S1 S2 hh ap gz gI gO g1 g2 k1 k2 out fun h' e kp he => ?_) (F.args_zip_next_1 _))))
  obtain ⟨o, ho, hc⟩ := he
  exact wpAny_bind (wpAny_isInstance (T := "StopIteration") (b := true) ⟨o, ho, hc⟩ isSubtype_stop (wpAny_pure (fin _ kp)))
end
end PyI

set_option maxHeartbeats 1000000
/-! PyI, part JD: zip of a list and a tuple, walked. -/
namespace PyI
open PySem PySem.Spec L2
abbrev zlA (h : Heap) (m1 : Addr) : Heap := h.push { cls := .type "list_iterator", data := .fields #[.ref m1, .int 0 0] }
abbrev zlB (h : Heap) (m1 m2 : Addr) : Heap := (zlA h m1).push { cls := .type "tuple_iterator", data := .fields #[.ref m2, .int 0 0] }
abbrev zlC (h : Heap) (m1 m2 : Addr) : Heap := (zlB h m1 m2).push { cls := .type "tuple", data := .seq #[.ref h.objs.size, .ref (zlA h m1).objs.size] }
abbrev zlD (h : Heap) (m1 m2 : Addr) : Heap := (zlC h m1 m2).push { cls := .type "tuple", data := .seq #[.none, .none] }
abbrev zlE (h : Heap) (m1 m2 : Addr) : Heap := (zlD h m1 m2).push { cls := .type "zip", data := .fields #[.none, .bool false, .bool false, .ref (zlB h m1 m2).objs.size, .ref (zlC h m1 m2).objs.size] }
theorem meets_zipLT (m1 m2 : Addr) (us ws : Array Value) :
    Meets (Builtin.«zip.__new__» ⟨[.type "zip", .ref m1, .ref m2], []⟩) (fun _ R s => s.heap.IsList m1 us ∧ s.heap.IsTuple m2 ws ∧
      R (.ok (.ret (.ref (zlD s.heap m1 m2).objs.size))) { s with heap := zlE s.heap m1 m2 }) :=
  .of_wp fun prog w A R s h => by
    obtain ⟨hp, g, d, tk, os⟩ := s; obtain ⟨k1, k2, h⟩ := h
    have hsub := sub_zip
    have kL : Heap.IsList (Shared.heap ⟨hp, g, d, tk, os⟩) m1 us := k1
    have kT : Heap.IsTuple (Shared.heap ⟨hp.push { cls := .type "list_iterator", data := .fields #[.ref m1, .int 0 0] }, g, d, tk, os⟩) m2 ws := Heap.IsTuple.push k2 _
    wp_walk using wpAny_pyIter_list kL, wpAny_pyIter_tuple kT
    exact ⟨_, rfl, h⟩
theorem call_zipLT {prog : Program} {w : World} {A : Around} {E : Value → Shared → Prop} {s : Shared} {m1 m2 : Addr} {us ws : Array Value} {Q : Value → Shared → Prop} (k1 : s.heap.IsList m1 us) (k2 : s.heap.IsTuple m2 ws)
    (fin : ∀ h', IsZip h' (s.heap.objs.size + 4) (s.heap.objs.size + 2) (s.heap.objs.size + 3) .none → IsPair h' (s.heap.objs.size + 2) (.ref s.heap.objs.size) (.ref (s.heap.objs.size + 1)) →
      IsPair h' (s.heap.objs.size + 3) .none .none → h'.IsListIter s.heap.objs.size m1 0 → h'.IsTupleIter (s.heap.objs.size + 1) m2 0 → h'.objs.size = s.heap.objs.size + 5 →
      (∀ a o, s.heap.get? a = some o → h'.get? a = some o) → Q (.ref (s.heap.objs.size + 4)) { s with heap := h' }) :
    wpAny (model prog w) A (call (.type "zip") [.ref m1, .ref m2]) Q E s := by
  refine callType_new F.called_zip (by decide) (F.typeCall_zip_2 _ _) (F.newCall_zip_2 _ _) (fun ob => F.args_object_init_3 ob _ _) F.entry_zip_new (meets_zipLT m1 m2 us ws) ⟨k1, k2, ?_⟩
  have y1 : (zlA s.heap m1).objs.size = s.heap.objs.size + 1 := Heap.size_push ..
  have y2 : (zlB s.heap m1 m2).objs.size = s.heap.objs.size + 2 := by rw [Heap.size_push, y1]
  have y3 : (zlC s.heap m1 m2).objs.size = s.heap.objs.size + 3 := by rw [Heap.size_push, y2]
  have y4 : (zlD s.heap m1 m2).objs.size = s.heap.objs.size + 4 := by rw [Heap.size_push, y3]
  have y5 : (zlE s.heap m1 m2).objs.size = s.heap.objs.size + 5 := by rw [Heap.size_push, y4]
  have e5 : (zlE s.heap m1 m2).get? (zlD s.heap m1 m2).objs.size = some _ := Heap.get?_push_size _ rfl
  have e4 : (zlE s.heap m1 m2).get? (zlC s.heap m1 m2).objs.size = some _ := Heap.get?_push_of_some _ (Heap.get?_push_size _ rfl)
  have e3 : (zlE s.heap m1 m2).get? (zlB s.heap m1 m2).objs.size = some _ := Heap.get?_push_of_some _ (Heap.get?_push_of_some _ (Heap.get?_push_size _ rfl))
  have e2 : (zlE s.heap m1 m2).get? (zlA s.heap m1).objs.size = some _ := Heap.get?_push_of_some _ (Heap.get?_push_of_some _ (Heap.get?_push_of_some _ (Heap.get?_push_size _ rfl)))
  have e1 : (zlE s.heap m1 m2).get? s.heap.objs.size = some _ := Heap.get?_push_of_some _ (Heap.get?_push_of_some _ (Heap.get?_push_of_some _ (Heap.get?_push_of_some _ (Heap.get?_push_size _ rfl))))
  show _ ∧ _; rw [y2, y3, y4] at e5; rw [y1, y2] at e3; rw [y3] at e4; rw [y1] at e2; rw [y4]
  exact ⟨⟨_, e5, rfl⟩, fin _ e5 e3 e4 ⟨_, e1, rfl, rfl⟩ ⟨_, e2, rfl, rfl⟩ y5 fun a o x =>
    Heap.get?_push_of_some _ (Heap.get?_push_of_some _ (Heap.get?_push_of_some _ (Heap.get?_push_of_some _ (Heap.get?_push_of_some _ x))))⟩
/-- the list at a and the tuple at b, in new pairs -/
def ItM (K : PySem.W.Frag) (a b : Addr) : It :=
  ⟨fun i H => ∃ (xs ys : List V) (x y : V), SqL K H a xs ∧ SqT K H b ys ∧ xs[i]? = some x ∧ ys[i]? = some y,
    fun i H v H' => ∃ T x y, v = .ref T ∧ H T = none ∧ H' = upd H T (.tup [x, y]) ∧ (∀ xs, SqL K H a xs → xs[i]? = some x) ∧ ∀ ys, SqT K H b ys → ys[i]? = some y,
    fun i H => ∃ xs ys : List V, SqL K H a xs ∧ SqT K H b ys ∧ (xs.length ≤ i ∨ ys.length ≤ i)⟩
theorem turn_zipM {P : Program} {w : World} {K : PySem.W.Frag} {elts : List Expr} {kk : Nat} {tpos : Pos} {a b zp tI tO j1 j2 : Addr} (ap : ZipApart zp tI tO j1 j2 a b) :
    Turn P w K (.Tuple elts kk tpos) (ItM K a b) [zp, tI, tO, j1, j2] zp (fun i h => IsZip h zp tI tO .none ∧ IsPair h tI (.ref j1) (.ref j2) ∧ (∃ x y, IsPair h tO x y) ∧ h.IsListIter j1 a i ∧ h.IsTupleIter j2 b i) where
  mem := by simp
  obj := fun i h st c hc => by
    obtain ⟨gz, gI, ⟨x, y, gO⟩, ⟨o1, e1, _, d1⟩, ⟨o2, e2, _, d2⟩⟩ := st
    have q : c = zp ∨ c = tI ∨ c = tO ∨ c = j1 ∨ c = j2 := by simpa using hc
    rcases q with rfl | rfl | rfl | rfl | rfl
    · exact ⟨_, gz, fun v q => nomatch q⟩
    · exact ⟨_, gI, fun v q => nomatch q⟩
    · exact ⟨_, gO, fun v q => nomatch q⟩
    · exact ⟨o1, e1, fun v q => by rw [d1] at q; cases q⟩
    · exact ⟨o2, e2, fun v q => by rw [d2] at q; cases q⟩
  keep := fun i h h' st k => by
    obtain ⟨gz, gI, ⟨x, y, gO⟩, g1, g2⟩ := st
    exact ⟨k zp (by simp) _ gz, k tI (by simp) _ gI, ⟨x, y, k tO (by simp) _ gO⟩, g1.at fun o q => k j1 (by simp) o q, g2.at fun o q => k j2 (by simp) o q⟩
  item := by
    intro X hP hw hK hc i pins s σ H E I hf st hg
    subst hP hw hK
    obtain ⟨gz, gI, ⟨x0, y0, gO⟩, g1, g2⟩ := st
    obtain ⟨xs, ys, x, y, qx, qy, ex, ey⟩ := hg
    obtain ⟨its, rv, p, _⟩ := I.list qx
    obtain ⟨its2, rv2, p2, _⟩ := I.tuple qy
    obtain ⟨u, hu, ru⟩ := rv.get ex
    obtain ⟨u2, hu2, ru2⟩ := rv2.get ey
    have zlt : zp < s.heap.objs.size := Heap.lt_size gz
    refine pyNext_zipG (srcL X.prog X.w) (srcT X.prog X.w) ap gz gI gO g1 g2 p.isList p2 (u := u) (v := u2) (by simpa using hu) (by simpa using hu2) fun h' z' O' a1 a2 hT hsz hk => ?_
    refine ⟨_, rfl, wpAny_letOwnedTupleGo_zip (s := { s with heap := h' }) z' fun h2' z2 sb => ?_⟩
    have hT2 : h2'.get? s.heap.objs.size = some { cls := .type "tuple", data := .seq #[u, u2] } := (sb.2 _ (Nat.ne_of_gt zlt)).trans hT
    have new : ObjOk X.prog X.w (upd H s.heap.objs.size (.tup [x, y])) h2' s.heap.objs.size (.tup [x, y]) :=
      ⟨by show 2 ≤ sizeLine; decide, [u, u2], .cons ru (.cons ru2 .nil), ⟨_, hT2, rfl, _, rfl⟩⟩
    have J : Inv X pins σ (upd H s.heap.objs.size (.tup [x, y])) { s with heap := h2' } :=
      I.turnedNew (t' := s.toks) (ch := [zp, tI, tO, j1, j2]) (fun c o hb q => (sb.2 c (fun q' => hb (by simp [q']))).trans (hk c o (fun q' => hb (by simp [q'])) (fun q' => hb (by simp [q'])) (fun q' => hb (by simp [q'])) (fun q' => hb (by simp [q'])) q)) hf (Nat.le_refl _) new
    refine ⟨.ref s.heap.objs.size, _, J, rfl, ⟨_, x, y, rfl, I.hok.fresh (Nat.le_refl _), rfl, fun l hl => by rw [I.list_inj hl qx]; exact ex, fun l hl => by rw [I.tuple_inj hl qy]; exact ey⟩, ⟨z2, ?_, ⟨u, u2, ?_⟩, ?_, ?_⟩, fun c hcm => ?_⟩
    · exact (sb.2 _ ap.TIz).trans (hk _ _ ap.TIz ap.TITO ap.TIi1 ap.TIi2 gI)
    · exact (sb.2 _ ap.TOz).trans O'
    · exact Heap.IsListIter.at (show h'.IsListIter j1 a (i + 1) from a1) fun o q => (sb.2 _ ap.i1z).trans q
    · exact Heap.IsTupleIter.at (show h'.IsTupleIter j2 b (i + 1) from a2) fun o q => (sb.2 _ ap.i2z).trans q
    · have lt : c < s.heap.objs.size := by
        have q : c = zp ∨ c = tI ∨ c = tO ∨ c = j1 ∨ c = j2 := by simpa using hcm
        rcases q with rfl | rfl | rfl | rfl | rfl
        · exact zlt
        · exact Heap.lt_size gI
        · exact Heap.lt_size gO
        · obtain ⟨_, e1, _⟩ := g1; exact Heap.lt_size e1
        · obtain ⟨_, e2, _⟩ := g2; exact Heap.lt_size e2
      rw [upd_ne (Nat.ne_of_lt lt)]
      exact (hf c hcm).1
  done := by
    intro X hP hw hK hc i pins s σ H E I hf st hg
    subst hP hw hK
    obtain ⟨gz, gI, ⟨x0, y0, gO⟩, g1, g2⟩ := st
    obtain ⟨xs, ys, qx, qy, hend⟩ := hg
    obtain ⟨its, rv, p, _⟩ := I.list qx
    obtain ⟨its2, rv2, p2, _⟩ := I.tuple qy
    have l1 := rv.length
    have l2 := rv2.length
    have out : its.toArray[i]? = none ∨ its2.toArray[i]? = none := by
      rcases hend with q | q
      · left; simp; omega
      · right; simp; omega
    exact pyNext_zipG_end (srcL X.prog X.w) (srcT X.prog X.w) (I.ok.hd hc) ap gz gI gO g1 g2 p.isList p2 out fun h' hk => ⟨rfl, I.turnedL (t' := s.toks) (ch := [zp, tI, tO, j1, j2]) (fun c o hb q =>
      hk c o (fun q' => hb (by simp [q'])) (fun q' => hb (by simp [q'])) (fun q' => hb (by simp [q'])) (fun q' => hb (by simp [q'])) q) hf⟩
  self := fun A i s Q E st h => wpAny_pyIter_zip st.1 h
def iZipM (K : PySem.W.Frag) (ta : TA) : TI := fun σ H R => ta σ H fun vs H1 => ∃ a b xs ys, vs = [.ref a, .ref b] ∧ SqL K H1 a xs ∧ SqT K H1 b ys ∧ R (ItM K a b) H1
theorem pi_zipM {X : Cx} {e e2 : Expr} {ta : TA} {p pos tpos : Pos} {elts : List Expr} {kk : Nat} (hg : Gl X "zip") (hm : X.mg "zip" = none) (ha : PA X [e, e2] ta)
    (hs : starEach [e, e2] X.env = (false, eval e X.env) :: starEach [e2] X.env := by rfl) (hpl : (backTo pos (starEach [e2] X.env)).any (·.1) = false := by rfl) :
    PI X (.Tuple elts kk tpos) (.Call (.Name "zip" p) [e, e2] [] pos) (iZipM X.K ta) := by
  refine ⟨fun pins s σ H R I h => PyProof.Rows.Call_ (ld_blt I hg hm PyProof.Rows.boot_zip (PyProof.Rows.callWith_type1 (thn (ha.run pos pins s σ H _ I h) fun us t ⟨vs, H1, I1, r1, q1⟩ => ?_) hs hpl))⟩
  obtain ⟨a, b, xs, ys, rfl, qx, qy, q⟩ := q1
  cases r1 with
  | cons r rr =>
    cases rr with
    | cons r' rr =>
      cases rr; cases r; cases r'
      have fresh : ∀ c, c ∈ [t.heap.objs.size + 4, t.heap.objs.size + 2, t.heap.objs.size + 3, t.heap.objs.size, t.heap.objs.size + 1] → FpOk X pins H1 c := fun c hcm => by
        have le : t.heap.objs.size ≤ c := by simp at hcm; omega
        exact I1.fpOk le (I1.hok.fresh le)
      obtain ⟨its, rv, p1, _⟩ := I1.list qx
      obtain ⟨its2, rv2, p2, _⟩ := I1.tuple qy
      obtain ⟨o2, ho2, _⟩ := id p2
      refine call_zipLT p1.isList (show t.heap.IsTuple b its2.toArray from p2) fun h' gz gI gO g1 g2 hsz hk => wpAny_pyIter_zip gz ?_
      have I2 : Inv X pins σ H1 { t with heap := h' } := I1.kept (t' := t.toks) hk
      exact ⟨t.heap.objs.size + 4, [t.heap.objs.size + 4, t.heap.objs.size + 2, t.heap.objs.size + 3, t.heap.objs.size, t.heap.objs.size + 1], _, _, H1, rfl, I2, turn_zipM (PySem.W.ktu_apart t.heap.objs.size a b p1.lt (Heap.lt_size ho2)), ⟨gz, gI, ⟨_, _, gO⟩, g1, g2⟩, fresh, q⟩
/-! ### by value -/
def zipB : List PyData → List PyData → Bool
  | x :: xs, y :: ys => !pairsB [x, y] && zipB xs ys
  | _, _ => true
def zipD : List PyData → List PyData → List PyData
  | x :: xs, y :: ys => .tuple [x, y] :: zipD xs ys
  | _, _ => []
def zipO : List PyData → Option (List PyData)
  | [.list xs, .tuple ys] => if zipB xs ys = true then some (zipD xs ys) else none
  | _ => none
/-- zip of a list and a tuple -/
def iZ (g : Mo (List Rs)) : Mo (List PyData) := bindM g fun rs => bindM (keepL rs) fun ds => optM (zipO ds)
theorem zipD_get : ∀ {xs ys : List PyData} {i : Nat}, i < (zipD xs ys).length → ∃ x y, xs[i]? = some x ∧ ys[i]? = some y ∧ (zipD xs ys)[i]? = some (.tuple [x, y])
  | [], _, i, h => absurd h (by simp [zipD])
  | _ :: _, [], i, h => absurd h (by simp [zipD])
  | x :: xs, y :: ys, 0, _ => ⟨x, y, rfl, rfl, rfl⟩
  | x :: xs, y :: ys, i + 1, h => by
    obtain ⟨a, b, h1, h2, h3⟩ := zipD_get (xs := xs) (ys := ys) (i := i) (by simpa [zipD] using h)
    exact ⟨a, b, by simpa using h1, by simpa using h2, by simpa [zipD] using h3⟩
theorem zipD_len : ∀ xs ys : List PyData, (zipD xs ys).length = min xs.length ys.length
  | [], _ => by simp [zipD]
  | _ :: _, [] => by simp [zipD]
  | x :: xs, y :: ys => by simp [zipD, zipD_len xs ys]
theorem zipB_get : ∀ {xs ys : List PyData} {i : Nat} {x y : PyData}, zipB xs ys = true → xs[i]? = some x → ys[i]? = some y → pairsB [x, y] = false
  | [], _, i, x, y, _, h, _ => by simp at h
  | _ :: _, [], i, x, y, _, _, h => by simp at h
  | a :: xs, b :: ys, 0, x, y, hb, h1, h2 => by
    simp at h1 h2
    subst h1; subst h2
    unfold zipB at hb
    rw [Bool.and_eq_true] at hb
    simpa using hb.1
  | a :: xs, b :: ys, i + 1, x, y, hb, h1, h2 => by
    unfold zipB at hb
    rw [Bool.and_eq_true] at hb
    exact zipB_get hb.2 (by simpa using h1) (by simpa using h2)
theorem walk_zipM {K : PySem.W.Frag} {T S0 : Addr → Prop} {H0 : Hp} {a b : Addr} {xs ys : List V} {ds es : List PyData} (hs : S0 a) (h1 : H0 a = some (.lst xs)) (r1 : RpL K S0 H0 xs ds) (h2 : STup K S0 H0 b ys) (r2 : RpL K S0 H0 ys es) (hb : zipB ds es = true) : Walk K (ItM K a b) (zipD ds es) T S0 H0 := by
  intro S H i u t al
  have hL : SqL K H a xs := SqL.of (u.at' a _ hs h1)
  have hT : SqT K H b ys := (u.stup h2).sqT
  have q1 := RpL.up u r1
  have q2 := RpL.up u r2
  refine ⟨fun hi => ⟨?_, fun v H' y => ?_⟩, fun hi => ⟨xs, ys, hL, hT, ?_⟩⟩
  · obtain ⟨x, y, e1, e2, _⟩ := zipD_get hi
    obtain ⟨v1, g1, _⟩ := q1.get e1
    obtain ⟨v2, g2, _⟩ := q2.get e2
    exact ⟨xs, ys, v1, v2, hL, hT, g1, g2⟩
  · obtain ⟨p, x, z, rfl, hp, rfl, f1, f2⟩ := y
    obtain ⟨dx, g1, p1⟩ := q1.get' (f1 xs hL)
    obtain ⟨dz, g2, p2⟩ := q2.get' (f2 ys hT)
    obtain ⟨dx', dz', k1, k2, k3⟩ := zipD_get hi
    rw [g1] at k1; cases k1
    rw [g2] at k2; cases k2
    have gw := Gw.layS (o := .tup [x, z]) al hp
    refine ⟨_, _, gw, k3, .tup (.inl ⟨.inr rfl, .inl upd_same⟩) (.cons (p1.up gw.up) (.cons (p2.up gw.up) .nil)) ⟨fun e => ?_, fun _ => ⟨.inr rfl, upd_same⟩⟩⟩
    rw [zipB_get hb g1 g2] at e; cases e
  · rw [zipD_len] at hi
    have l1 := q1.len
    have l2 := q2.len
    omega
theorem id_zipM {X : Cx} {e e2 : Expr} {g : Mo (List Rs)} {p pos tpos : Pos} {elts : List Expr} {kk : Nat} (hg : Gl X "zip") (hm : X.mg "zip" = none) (ha : AD X [e, e2] g)
    (hs : starEach [e, e2] X.env = (false, eval e X.env) :: starEach [e2] X.env := by rfl) (hpl : (backTo pos (starEach [e2] X.env)).any (·.1) = false := by rfl) : ID X (.Tuple elts kk tpos) (.Call (.Name "zip" p) [e, e2] [] pos) (iZ g) :=
  PI.to (pi_zipM hg hm ha hs hpl) fun σ H R h => by
    obtain ⟨S, ρ, ds, ρ', G, e, q⟩ := h
    obtain ⟨rs, ρ1, e1, e2⟩ := bindM_some e
    obtain ⟨l, ρ2, e3, e4⟩ := bindM_some e2
    obtain ⟨e5, e6⟩ := optM_some e4
    simp only at e5 e6
    subst e6
    refine ⟨S, ρ, rs, ρ1, G, e1, fun vs S1 H1 F1 G1 R1 => ?_⟩
    obtain ⟨S2, n2, p2, sh2⟩ := RRLw.keep rs ⟨G, F1, G1⟩ R1.w e3
    unfold zipO at e5
    split at e5
    · split at e5
      · rename_i hb
        cases e5
        obtain ⟨v1, v2, rfl, r1, r2⟩ : ∃ v1 v2, vs = [v1, v2] ∧ Rp X.K S2 H1 v1 (.list _) ∧ Rp X.K S2 H1 v2 (.tuple _) := by
          cases p2 with
          | cons a b => cases b with
            | cons c d => cases d; exact ⟨_, _, rfl, a, c⟩
        cases r1 with
        | lst hsS h1 q1 =>
          cases r2 with
          | tup h2 q2 _ => exact ⟨_, _, _, _, rfl, SqL.of h1, h2.sqT, q _ S2 H1 (fun _ => False) n2.f n2.g (fun _ z => z.elim) (walk_zipM hsS h1 q1 h2 q2 hb)⟩
      · cases e5
    · cases e5
/-! ### sum -/
def oSum : List PyData → Option PyData
  | [.list ds] => (intsD ds).map fun xs => .int xs.sum
  | _ => none
theorem b_sum {X : Cx} (hc : X.calm = true) : CallR X (.builtin "sum") (rB X.K oSum) := by
  intro pins s σ H xs us Q I r h
  obtain ⟨S, ds, d, al, rs, e, q⟩ := h
  unfold oSum at e
  split at e
  · obtain ⟨ns, e1, rfl⟩ := Option.map_eq_some_iff.mp e
    obtain ⟨v, rfl, r1⟩ := rs.one
    obtain ⟨a, vs, rfl, h1, p1⟩ := r1.lst
    obtain rfl := intsD_eq e1
    obtain rfl := p1.ints_eq
    exact cr_sum hc pins s σ H _ us Q I r ⟨a, ns, rfl, SqL.of h1, q _ S H (Gw.refl al) (.int _)⟩
  · cases e
/-! ### a whole number of the module -/
def ConstI (mg : Str → Option Value) (x : Str) (n : Int) : Prop := ∃ t, mg x = some (.int n t)
theorem pd_gci {X : Cx} {x : Str} {n : Int} {pos : Pos} (c : ConstI X.mg x n) (hg : Gl X x) (hd : (x == ("__debug__" : Str)) = false := by decide) : PD X (.Name x pos) (xC (.int n)) := by
  obtain ⟨t, hm⟩ := c
  exact pd_of_tC (pe_glob hg hm (v := .int n) ⟨_, rfl⟩ hd) fun S H => .int n
/-! ### raise: a way that is not gone -/
def sFail : Mo Fl := fun _ => none
theorem sd_fail {X : Cx} {st : Stmt} : SD X st sFail := ⟨fun pins s σ H D I q => by obtain ⟨_, _, _, _, _, e, _⟩ := q; cases e⟩
end PyI

/-! PyI, part JE: defs with defaults. -/
namespace PyI
open PySem PySem.Spec L2
section
variable {P : Program} {w : World} {K : PySem.W.Frag} {mg : Str → Option Value} {base : Heap}
theorem fnI_gen {qual : Str} {sc : Scope} {bd : List Stmt} {f : Addr} {fd : FuncData} {N ps : List Str} {k : Nat} {body : Mo Fl}
    (Fok : ∀ {sp : Sp}, (∀ vs H Q E, sp vs H Q E → vs.length = ps.length) → (∀ (cdv : Value) (A : Around) (outer : List Env) (s : Shared) (H : Hp) (vs : List V) (Q : VK) (E : XK), Room k (A.deeper (PyProof.Rows.envOfC qual sc s.heap.objs.size f cdv)) → sp vs H Q E →
      ∃ t, PSs (cxOf CX0 P w K mg base N qual sc f cdv A outer s H E).nox bd t ∧ t { nx := fun _ H' => Q .non H', rt := Q } (start N vs) H) → FnOk P w K mg base CX0 (k + 1) f fd ps sp)
    (hbody : ∀ (cdv : Value) (A : Around) (outer : List Env) (s : Shared) (H : Hp) (E : XK), Room k (A.deeper (PyProof.Rows.envOfC qual sc s.heap.objs.size f cdv)) → BD (cxOf CX0 P w K mg base N qual sc f cdv A outer s H E).nox bd body) :
    FnOk P w K mg base CX0 (k + 1) f fd ps (spI K (runF ps.length N.length body)) := by
  refine Fok (fun vs H Q E h => ?_) (fun cdv A outer s H vs Q E hr h => ?_)
  · obtain ⟨S, args, r, l, g, e, _⟩ := h
    have hf := runF_fit e
    have := g.len
    simp only [List.length_map] at this
    rw [← this, argsFit_len hf]
  · obtain ⟨S0, args, r, l, g, e, q⟩ := h
    have hf := runF_fit e
    have hl : args.length = vs.length := by have := g.len; simpa using this
    refine ⟨_, hbody cdv A outer s H E hr, ?_⟩
    unfold runF at e
    rw [if_pos hf] at e
    cases eb : body (args.map some ++ List.replicate (N.length - args.length) none) with
    | none => rw [eb] at e; cases e
    | some p =>
      obtain ⟨fl, ρ'⟩ := p
      rw [eb] at e
      dsimp only at e
      cases er : retOf ρ' fl with
      | none => rw [er] at e; cases e
      | some r' =>
        rw [er] at e
        dsimp only at e
        cases el : lentOf ρ' args with
        | none => rw [el] at e; cases e
        | some l' =>
          rw [el] at e
          cases e
          refine ⟨S0, _, fl, ρ', g.entry N.length, eb, fun σ' S' H' f' g' => ?_⟩
          have fc : Fc S0 (args.map some) (vs.map some) H S' H' := ⟨f'.dom, fun a o e nm => f'.keep a o e fun m => nm m.entry, f'.sh, fun a h => by
            rcases f'.new a h with z | z | z
            · exact .inl z
            · exact .inr (.inl z.entry)
            · exact .inr (.inr z), g'.al⟩
          have lt : ∀ d', l = some d' → ∃ a, vs[0]? = some (.ref a) ∧ ¬ S' a ∧ TopX K S' H' a d' := by
            intro d' hd
            subst hd
            cases args with
            | nil => cases el
            | cons p rest =>
              obtain ⟨st0, d0⟩ := p
              cases st0 with
              | lent =>
                unfold lentOf at el
                dsimp only at el
                split at el
                · rename_i d2 h2
                  cases el
                  obtain ⟨v, h3, a, h4, h5, h6⟩ := g'.sl 0 .lent d' h2
                  obtain ⟨_, _, h8⟩ := f'.lent 0 _ h2
                  subst h4
                  rw [h3] at h8
                  have h9 := get_start h8.symm
                  rw [List.getElem?_map] at h9
                  cases hv : vs[0]? with
                  | none => rw [hv] at h9; cases h9
                  | some v0 => rw [hv] at h9; cases h9; exact ⟨a, rfl, h5, h6⟩
                · cases el
              | _ => cases el
          cases fl with
          | nx => cases er; exact q .non S' H' fc .non lt
          | bk => cases er
          | ct => cases er
          | ret r0 =>
            intro v hr0
            cases r0 with
            | kept d => cases er; exact q v S' H' fc hr0 lt
            | fresh d => cases er; exact q v S' H' fc hr0 lt
            | slot i =>
              unfold retOf at er
              dsimp only at er
              obtain ⟨hv, _⟩ := hr0
              split at er
              · rename_i d hd
                cases er
                obtain ⟨v', h1, h2⟩ := g'.sl i .shr d hd
                rw [hv] at h1; cases h1
                exact q v S' H' fc h2 lt
              · rename_i d hd
                cases er
                obtain ⟨v', h1, a, h2, h3, h4⟩ := g'.sl i .own d hd
                rw [hv] at h1; cases h1
                subst h2
                refine q _ S' H' fc ⟨a, rfl, ?_, h3, h4⟩ lt
                rcases f'.own i d a hd hv with z | ⟨j, d', z1, z2⟩
                · exact z
                · obtain ⟨y, hy1, hy2⟩ := get_map_some (get_start z1)
                  cases hy1
                  exact absurd hy2 (argsFit_own hf)
              · cases er

/-- a def with defaults -/
abbrev FunE (K : PySem.W.Frag) (x qual : Str) (st : Stmt) (dvs : List V) (f : Addr) (fd : FuncData) : Prop := FunD K x qual (defArgs st) (defBody st) (defScope st) dvs [] f fd
theorem fnI_okD {x qual : Str} {st : Stmt} {dvs : List V} {f : Addr} {fd : FuncData} {N ps : List Str} {k : Nat} {body : Mo Fl} (F : FunE K x qual st dvs f fd) (S : FnScope N ps (defScope st))
    (hbody : ∀ (cdv : Value) (A : Around) (outer : List Env) (s : Shared) (H : Hp) (E : XK), Room k (A.deeper (PyProof.Rows.envOfC qual (defScope st) s.heap.objs.size f cdv)) → BD (cxOf CX0 P w K mg base N qual (defScope st) f cdv A outer s H E).nox (defBody st) body) :
    FnOk P w K mg base CX0 (k + 1) f fd ps (spI K (runF ps.length N.length body)) :=
  fnI_gen (fun {sp} len hb => F.ok S len fun cdv A outer s H vs Q E hr hs => by
    obtain ⟨t, h, q⟩ := hb cdv A outer s H vs Q E hr hs
    exact ⟨t, h.nox, q⟩) hbody
/-- the last arguments lack: they are dd -/
def withD (fn : Fn) (dd : List PyData) : Fn := fun args => fn (args ++ dd.map fun d => (Stt.shr, d))
def ClD (P : Program) (w : World) (K : PySem.W.Frag) (mg : Str → Option Value) (base : Heap) (k : Nat) (x : Str) (dd : List PyData) (fn : Fn) : Prop :=
  ∃ f fd ps dvs ds, FnOk P w K mg base CX0 k f fd ps (spI K fn) ∧ mg x = some (.ref f) ∧ PySem.W.keepIn K (.ref f) = true ∧ Binds K fd ps ds ∧ Vals dvs ds ∧ ∀ S H, RpL K S H dvs dd
theorem Gd.more {S : Addr → Prop} {args : List (Stt × PyData)} {vs dvs : List V} {dd : List PyData} {H : Hp} (g : Gd K S (args.map some) (vs.map some) H) (r : RpL K S H dvs dd) : Gd K S ((args ++ dd.map fun d => (Stt.shr, d)).map some) ((vs ++ dvs).map some) H := by
  have gl : args.length = vs.length := by have := g.len; simpa using this
  have at1 : ∀ {i : Nat} {st : Stt} {d : PyData}, ((args ++ dd.map fun d => (Stt.shr, d)).map some)[i]? = some (some (st, d)) → (i < args.length ∧ (args.map some)[i]? = some (some (st, d))) ∨ (args.length ≤ i ∧ st = .shr ∧ dd[i - args.length]? = some d) := fun {i st d} h => by
    rw [List.map_append] at h
    by_cases hi : i < args.length
    · rw [List.getElem?_append_left (by simpa using hi)] at h
      exact .inl ⟨hi, h⟩
    · rw [List.getElem?_append_right (by simpa using Nat.le_of_not_lt hi)] at h
      simp only [List.length_map, List.map_map, List.getElem?_map] at h
      cases e : dd[i - args.length]? with
      | none => rw [e] at h; cases h
      | some d' => rw [e] at h; cases h; exact .inr ⟨Nat.le_of_not_lt hi, rfl, rfl⟩
  have at2 : ∀ {i : Nat} {v : Option V}, i < args.length → ((vs ++ dvs).map some)[i]? = some v → (vs.map some)[i]? = some v := fun {i v} hi h => by
    rw [List.map_append, List.getElem?_append_left (by simp; omega)] at h
    exact h
  refine ⟨by have := r.len; simp [gl, this], fun i st d h => ?_, fun i j b st d st' d' h1 h2 h3 h4 h5 h6 => ?_, g.al⟩
  · rcases at1 h with ⟨hi, h0⟩ | ⟨hi, hs, h0⟩
    · obtain ⟨v, h1, h2⟩ := g.sl i st d h0
      refine ⟨v, ?_, h2⟩
      rw [List.map_append, List.getElem?_append_left (by simp; omega)]
      exact h1
    · subst hs
      obtain ⟨v, h1, h2⟩ := r.get h0
      refine ⟨v, ?_, h2⟩
      rw [List.map_append, List.getElem?_append_right (by simp; omega)]
      simp only [List.length_map, List.getElem?_map, ← gl, h1]
      rfl
  · rcases at1 h1 with ⟨hi, k1⟩ | ⟨hi, hs, k1⟩
    · rcases at1 h2 with ⟨hj, k2⟩ | ⟨hj, hs, k2⟩
      · exact g.ne i j b st d st' d' k1 k2 h3 h4 (at2 hi h5) (at2 hj h6)
      · subst hs; cases h4
    · subst hs; cases h3
theorem mu_more {S : Addr → Prop} {args : List (Stt × PyData)} {vs dvs : List V} {dd : List PyData} {H : Hp} {a : Addr} (r : RpL K S H dvs dd) (g : Gd K S (args.map some) (vs.map some) H) (m : Mu ((args ++ dd.map fun d => (Stt.shr, d)).map some) ((vs ++ dvs).map some) a) : Mu (args.map some) (vs.map some) a := by
  have gl : args.length = vs.length := by have := g.len; simpa using this
  obtain ⟨i, st, d, h1, h2, h3⟩ := m
  by_cases hi : i < args.length
  · refine ⟨i, st, d, ?_, h2, ?_⟩
    · rw [List.map_append, List.getElem?_append_left (by simpa using hi)] at h1
      exact h1
    · rw [List.map_append, List.getElem?_append_left (by simp; omega)] at h3
      exact h3
  · rw [List.map_append, List.getElem?_append_right (by simpa using Nat.le_of_not_lt hi)] at h1
    simp only [List.length_map, List.map_map, List.getElem?_map] at h1
    cases e : dd[i - args.length]? with
    | none => rw [e] at h1; cases h1
    | some d' => rw [e] at h1; cases h1; cases h2
theorem spI_more {fn : Fn} {dd : List PyData} {dvs : List V} {v0 : V} {vs : List V} {H : Hp} {Q : VK} {E E' : XK} (r : ∀ S H, RpL K S H dvs dd) (h : spI K (withD fn dd) (v0 :: vs) H Q E) : spI K fn (v0 :: vs ++ dvs) H Q E' := by
  obtain ⟨S, args, r0, l, g, e, q⟩ := h
  refine ⟨S, args ++ dd.map fun d => (Stt.shr, d), r0, l, g.more (r S H), e, fun v S' H' fc rr hl => q v S' H' ⟨fc.dom, fun a o e nm => fc.keep a o e fun m => nm ?_, fc.sh, fun a h => ?_, fc.al⟩ rr fun d' hd => ?_⟩
  · exact (mu_more (r S H) g m)
  · rcases fc.new a h with z | z | z
    · exact .inl z
    · exact .inr (.inl (mu_more (r S H) g z))
    · exact .inr (.inr z)
  · obtain ⟨a, h1, h2⟩ := hl d' hd
    exact ⟨a, by simpa using h1, h2⟩
end
section
variable {X : Cx} {k : Nat} {x : Str} {fn : Fn} {p pos : Pos} {e : Expr} {es : List Expr} {f1 : Mo Rs} {g1 : Mo (List Rs)}
theorem pd_callD {dd : List PyData} (c : ClD X.prog X.w X.K X.mg X.base k x dd fn) (hr : Room k X.A) (hg : Gl X x) (ha : AD X (e :: es) (aC f1 g1)) (hdb : (x == ("__debug__" : Str)) = false := by decide)
    (he : starEach (e :: es) X.env = (false, eval e X.env) :: starEach es X.env := by rfl) (hpl : (backTo pos (starEach es X.env)).any (·.1) = false := by rfl) : PD X (.Call (.Name x p) (e :: es) [] pos) (xCall (withD fn dd) (aC f1 g1)) := by
  obtain ⟨f, fd, ps, dvs, dls, F, hm, hk, hb, hvd, hrd⟩ := c
  refine PE.to (pe_call F hr hg hm hk hb hvd pass0 ha hdb he hpl) fun σ H Q h => ?_
  obtain ⟨S, ρ, r, ρ', G, e, q⟩ := h
  obtain ⟨rs, ρ1, e1, e2⟩ := bindM_some e
  refine ⟨S, ρ, rs, ρ1, G, e1, fun vs S1 H1 F1 G1 R1 => ?_⟩
  have n1 : Now X.K σ S ρ H S1 ρ1 H1 := ⟨G, F1, G1⟩
  obtain ⟨S2, n2, A2, sh2⟩ := RRLw.hand rs n1 R1.w
  split at e2
  · rename_i args ea
    split at e2
    · rename_i nc
      split at e2
      · rename_i r0 l0 ef
        have hns : ∀ i, r0 ≠ .slot i := fun i z => by subst z; cases e2
        have he2 : r = r0 ∧ ρ' = ρ1 := by
          cases r0 with
          | slot i => cases e2
          | kept d => cases e2; exact ⟨rfl, rfl⟩
          | fresh d => cases e2; exact ⟨rfl, rfl⟩
        obtain ⟨rfl, rfl⟩ := he2
        obtain ⟨v0, vs', rfl⟩ : ∃ v0 vs', vs = v0 :: vs' := by
          cases vs with
          | nil =>
            have hl := R1.len
            obtain ⟨r1, ρ3, e3, e4⟩ := bindM_some e1
            obtain ⟨rs1, ρ4, e5, e6⟩ := bindM_some e4
            cases retM_some e6
            simp at hl
          | cons a b => exact ⟨a, b, rfl⟩
        show spI X.K fn (v0 :: vs' ++ dvs) H1 Q E0
        refine spI_more (E := E0) hrd ?_
        refine ⟨S2, args, r, l0, argGd n2.g A2 ea nc, ef, fun v S3 H3 fc rr _ => ?_⟩
        have gw : Gw S2 H1 S3 H3 := fc.gw fun a m => by
          obtain ⟨i, st, d, m1, m2, m3⟩ := m
          obtain ⟨y, hy1, hy2⟩ := get_map_some m1
          cases hy1
          obtain ⟨_, hall⟩ := argAll n2.g A2 ea
          obtain ⟨_, _, _, _, _, _, b5, _⟩ := hall i st d hy2
          rw [b5 (fun z => Bool.noConfusion z.1)] at m2
          cases m2
        exact q v S3 H3 (n2.grow gw).f (n2.grow gw).g ((rr.any hns).pre n2)
      · cases e2
    · cases e2
  · cases e2
end
end PyI

/-! PyI, part JF: a def with defaults, from what the top holds. -/
namespace PyI
open PySem PySem.Spec L2
section
variable {K : PySem.W.Frag} {x qual : Str} {st : Stmt} {dvs : List V} {f : Addr} {fd : FuncData} {ps : List Str}
theorem funE_mk {oc kV doc pm cdv ct : Value} {od ot an : Option Addr} {T : Addr} {n : Nat} {its : List Value} {sl stt : Array (Option Value)}
    (l : K.lookup f = some ⟨oc, od, .func (PySem.W.fnOf x qual (defArgs st) (defBody st) (defScope st) (.ref T) kV doc pm an cdv ct), sl⟩)
    (c : PySem.W.codeIn K cdv qual = true) (k : PySem.W.keepIn K (.ref f) = true)
    (y : K.lookup T = some ⟨.type "tuple", ot, .seq its.toArray n, stt⟩) (hd : dvs ≠ []) (v : Vals dvs its) :
    FunE K x qual st dvs f (PySem.W.fnOf x qual (defArgs st) (defBody st) (defScope st) (.ref T) kV doc pm an cdv ct) :=
  ⟨⟨oc, od, .ref T, kV, doc, pm, an, cdv, ct, sl, rfl, l, c, .inr ⟨hd, T, _, its, n, rfl, y, rfl, v⟩, .inl rfl⟩, k⟩
theorem bindsD0 (F : FunE K x qual st dvs f fd) (np : Nat) (hd : dvs ≠ []) (hn : np = ps.length)
    (h : ∀ (T : Addr) (kV doc pm : Value) (an : Option Addr) (cdv ct : Value) (us its : List Value), us.length = np → its.length = dvs.length →
      ∃ k, bindArgs (PySem.W.fnOf x qual (defArgs st) (defBody st) (defScope st) (.ref T) kV doc pm an cdv ct) ⟨us, []⟩ = seqItems? (.ref T) >>= k ∧ k (some its.toArray) = pure (ps.zip us)) : Binds K fd ps [] := by
  obtain ⟨ds, v, b⟩ := FunD.binds1 (ps := ps) F np dvs.length hd (by omega) fun T kV doc pm an cdv ct us its h1 h2 => by
    obtain ⟨k, e1, e2⟩ := h T kV doc pm an cdv ct us its h1 h2
    refine ⟨k, e1, ?_⟩
    rw [e2, ← h2, List.drop_length, List.append_nil]
  rw [List.drop_length] at v
  cases v
  exact b
end
end PyI

set_option maxHeartbeats 4000000
/-! PyI, part JG: sorted(set(a tuple of texts)). -/
namespace PyI
open PySem PySem.Spec PyProof.Rows L2
namespace SetT
open PyProof.Rows (StrsAre)
section
variable {prog : Program} {w : World} {A : Around} {E : Value → Shared → Prop} {s : Shared}
theorem madeT {l : Addr} {items : Array Value} {xs : List Str} {Q : Value → Shared → Prop} (hh : A.handled = none) (hl : s.heap.IsTuple l items) (hi : StrsAre items.toList xs) (few : xs.length + 1 < scanBound)
    (fin : ∀ (h' : Heap) (tk : Nat), Is w h' s.heap.objs.size (upTo xs xs.length) → (∀ b o, b < s.heap.objs.size → s.heap.get? b = some o → h'.get? b = some o) → Q (.ref s.heap.objs.size) { s with heap := h', toks := tk }) :
    wpAny (model prog w) A (call (.type "set") [.ref l]) Q E s := by
  have hsz : items.size = xs.length := by rw [← StrsAre.len_eq hi, Array.length_toList]
  obtain ⟨c, tl, hmro⟩ := PySem.F.called_set.mro
  have r1 := PySem.F.called_set.made
  have r2 := PySem.F.called_set.sub
  refine wpAny_call (codeAny_of_tree ?_)
  show wpAny _ _ (callAny (.type "set") _) _ _ _
  refine wpAny_pure ⟨Code.quiet_builtin _ (by decide +kernel), codeAny_builtin PySem.F.entry_type_call ?_⟩
  rw [Around.under_plain (weight_type_call_type "set" [.ref l] []) rfl]
  have r3 := PySem.F.called_set.notType
  have r4 := PySem.F.called_set.canCreate
  have r5 := PySem.F.typeCall_set_1 (.ref l)
  repeat (any_goals (first | assumption | wp_step))
  obtain ⟨N, hN⟩ : ∃ N : Obj, N = { cls := .type "set", dict := none, data := .set #[] 0 (.fresh 0 0 (!w.params.followText "set-order")) } := ⟨_, rfl⟩
  have fr : N.isFreed = false := by rw [hN]; rfl
  refine codeAny_mono (code_set_led1 (.ref l) (E := E) (Q₁ := fun ob s₁ => ob = .ref s.heap.objs.size ∧ s₁ = { s with heap := s.heap.push N }) ⟨rfl, by rw [hN]⟩) fun r s₁ hr => ?_
  cases r with
  | error e => exact hr
  | ok fl =>
    cases fl with
    | ret ob =>
      obtain ⟨rfl, rfl⟩ := hr
      have g0 : (s.heap.push N).get? s.heap.objs.size = some N := Heap.get?_push_size _ fr
      have hT : Shared.TypeIs { s with heap := s.heap.push N } (.ref s.heap.objs.size) "set" := ⟨_, g0, by rw [hN]⟩
      have r6 := PySem.F.called_set.init.lookup
      have r7 := PySem.F.called_set.init.bind (.ref s.heap.objs.size)
      repeat (any_goals (first | assumption | wp_step))
      refine codeAny_mono (codeAny_call_builtin (R := wants (fun r s₂ => r = .none ∧ ∃ h' tk, s₂ = { s with heap := h', toks := tk } ∧ Is w h' s.heap.objs.size (upTo xs xs.length) ∧ (∀ b o, b < s.heap.objs.size → s.heap.get? b = some o → h'.get? b = some o)) E)
        PySem.F.called_set.init.plain PySem.F.entry_set_init (check_set_init_1 hT ?_)) fun r₂ s₂ hr₂ => ?_
      · obtain ⟨ol, hol, hcl, nl, hdl⟩ := hl
        obtain ⟨ocls, odict, odata, oslots⟩ := ol
        simp only at hcl hdl
        subst hcl; subst hdl
        have hol' : (s.heap.push N).get? l = some { cls := .type "tuple", dict := odict, data := .seq items nl, slots := oslots } := Heap.get?_push_of_some _ hol
        have r8 := PySem.F.sub_tuple_set
        have r9 := PySem.F.sub_tuple_frozenset
        have hne : (Value.type "tuple" == Value.type "dict") = false := by decide
        have hl1 : (s.heap.push N).IsTuple l items := ⟨_, hol', rfl, nl, rfl⟩
        have lt : l < s.heap.objs.size := Heap.lt_size hol
        have z1 : (s.heap.push N).objs.size = s.heap.objs.size + 1 := Heap.size_push ..
        subst hN
        unfold Builtin.«set.__init__» noKeywords Builtin.Frozenset.updateFrom
        generalize hPI : pyIter = PI
        wp_walk
        subst hPI
        refine wpAny_pyIter_tuple hl1 ?_
        refine wpAny_bind (wpAny_runValue ?_)
        have hh3 : A.in1.in1.in1.handled = none := by simp [hh]
        have ne := z1 ▸ (show l ≠ s.heap.objs.size + 1 from Nat.ne_of_lt (Nat.lt_succ_of_lt lt))
        have off : s.heap.objs.size ∉ [s.heap.objs.size + 1, l] := by
          simp only [List.mem_cons, List.not_mem_nil, or_false, not_or]
          exact ⟨Nat.ne_of_lt (Nat.lt_succ_self _), Nat.ne_of_gt lt⟩
        have val : ∀ (i : Nat) (v : Value), items[i]? = some v → ∃ k t, xs[i]? = some k ∧ v = .str k t := fun i v hv => by
          obtain ⟨t, e⟩ := SS.strs_at hi i v (by rw [Array.getElem?_toList]; exact hv)
          have hi' : i < xs.length := by rw [← hsz]; exact (Array.getElem?_eq_some_iff.mp hv).1
          refine ⟨xs[i], t, List.getElem?_eq_getElem hi', ?_⟩
          rw [e, List.getD_eq_getElem?_getD, List.getElem?_eq_getElem hi']; rfl
        refine turns ((Walks.tuple hh3 _ l ne items).toS) s.heap.objs.size (by rw [z1]; exact off) xs val (by rw [hsz]; exact few) (items.size - 0) 0 _ (by omega) (Nat.zero_le _) ⟨⟨_, Heap.get?_push_size _ rfl, rfl, rfl⟩, (hl1.push _)⟩ ?_ fun s' hm is => ?_
        · rw [upTo_zero]
          exact fresh_is (Heap.get?_push_of_some _ g0)
        · obtain ⟨h', g', d', tk', os'⟩ := s'
          have e1 : g' = s.gens := hm.gens
          have e2 : d' = s.drawn := hm.drawn
          have e3 : os' = s.os := hm.os
          subst e1; subst e2; subst e3
          rw [hsz] at is
          show wpAny _ _ _ _ _ _
          refine wpAny_pure ?_
          show wpAny _ _ (ret Value.none) _ _ _
          refine wpAny_pure ⟨rfl, h', tk', rfl, is, fun b o hb e => hm.heap b o ?_ (Heap.get?_push_of_some _ (Heap.get?_push_of_some _ e))⟩
          simp only [List.mem_cons, List.not_mem_nil, or_false, not_or]
          exact ⟨Nat.ne_of_lt hb, by rw [z1]; exact Nat.ne_of_lt (Nat.lt_succ_of_lt hb)⟩
      · cases r₂ with
        | error e => exact hr₂
        | ok fl₂ =>
          cases fl₂ with
          | ret r =>
            obtain ⟨rfl, h', tk, rfl, is, kp⟩ := hr₂
            repeat (any_goals (first | assumption | wp_step))
            exact fin _ _ is kp
          | _ => exact hr₂.elim
    | _ => exact hr.elim
end
end SetT
def soSetT : PyData → Option PyData
  | .tuple ds => (strsD ds).bind fun xs => if (dedupS xs).length < 64 ∧ xs.length < 1000 then some (.list ((sortS (dedupS xs)).map .str)) else none
  | _ => none
def tSoSetT (K : PySem.W.Frag) (ta : TE) : TE := fun σ H Q => ta σ H fun x H1 => ∃ a, ∃ xs : List Str, x = .ref a ∧ SqT K H1 a (xs.map V.str) ∧ (dedupS xs).length < 64 ∧ xs.length < 1000 ∧ ∀ p, H1 p = none → Q (.ref p) (upd H1 p (.lst ((sortS (dedupS xs)).map V.str)))
section
variable {X : Cx} {a : Expr} {ta : TE} {f : Mo Rs} {p p2 q pos : Pos}
theorem pe_soSetT (hc : X.calm = true) (hg : Gl X "sorted") (hm : X.mg "sorted" = none) (hv : bootBuiltins "sorted" = some (.builtin "sorted")) (hg2 : Gl X "set") (hm2 : X.mg "set" = none) (hv2 : bootBuiltins "set" = some (.type "set")) (ha : PE X a ta)
    (na : starEach [a] X.env = (false, eval a X.env) :: starEach [] X.env := by rfl) : PE X (.Call (.Name "sorted" p) [.Call (.Name "set" p2) [a] [] q] [] pos) (tSoSetT X.K ta) := by
  refine ⟨fun pins s σ H Q I h => ?_⟩
  refine PyProof.Rows.Call_ (ld_blt I hg hm hv ?_)
  refine PyProof.Rows.callWith_builtin1 (PyProof.Rows.args_cons ?_ rfl) rfl rfl
  refine PyProof.Rows.Call_ (ld_blt I hg2 hm2 hv2 ?_)
  refine PyProof.Rows.callWith_type1 (PyProof.Rows.args_cons (thn (ha.run pins s σ H _ I h) fun v s1 ⟨x, H1, I1, r1, b, xs, ex, hx, h64, hk, q1⟩ => PyProof.Rows.args_nil ?_) na) na rfl
  subst ex
  cases r1
  obtain ⟨its, r, pl, hz⟩ := I1.tuple hx
  refine SetT.madeT (I1.ok.hd hc) pl (by simpa using strsAre_of r) (scan1000 hk) fun h' tk is kp => PyProof.Rows.args_nil ?_
  rw [upTo_all] at is
  have I2 : Inv X pins σ H1 { s1 with heap := h', toks := tk } := I1.kept fun b o e => kp b o (Heap.lt_size e) e
  refine SetT.sorted_is (s := { s1 with heap := h', toks := tk }) is (I1.ok.hd hc) h64 fun s3 pp out c ys k3 g3 o3 hp ho hy py sy => ?_
  have hlen : ((sortS (dedupS xs)).map V.str).length ≤ sizeLine := by
    rw [List.length_map, (sortS_perm _).length_eq, sizeLine_eq]; omega
  have hn : H1 pp = none := I2.hok.fresh hp
  rw [sortS_of py sy] at hy
  have ok := I2.hok.laid k3 hp (o := .lst ((sortS (dedupS xs)).map V.str)) ⟨hlen, out.toList, c, vals_strs hy, ho⟩
  have J : Inv X pins σ (upd H1 pp (.lst ((sortS (dedupS xs)).map V.str))) { ({ s1 with heap := h', toks := tk } : Shared) with heap := s3.heap, gens := s3.gens, drawn := s3.drawn, toks := s3.toks } :=
    I2.call (ch := []) (Un.laid k3 hp hn) ok (by rw [g3]; exact I2.bare) (fun _ z => nomatch z)
  have e : s3 = { s1 with heap := s3.heap, gens := s3.gens, drawn := s3.drawn, toks := s3.toks } := by
    cases s3
    cases o3
    rfl
  rw [e]
  exact ⟨.ref pp, _, J, rfl, q1 pp hn⟩
def xSoSetT (f : Mo Rs) : Mo Rs := x1 soSetT f
theorem pd_soSetT (hc : X.calm = true) (hg : Gl X "sorted") (hm : X.mg "sorted" = none) (hv : bootBuiltins "sorted" = some (.builtin "sorted")) (hg2 : Gl X "set") (hm2 : X.mg "set" = none) (hv2 : bootBuiltins "set" = some (.type "set")) (ha : PD X a f)
    (na : starEach [a] X.env = (false, eval a X.env) :: starEach [] X.env := by rfl) : PD X (.Call (.Name "sorted" p) [.Call (.Name "set" p2) [a] [] q] [] pos) (xSoSetT f) := PE.to (pe_soSetT hc hg hm hv hg2 hm2 hv2 ha na) fun σ H Q h => by
  obtain ⟨S, ρ, r, ρ', G, e, q⟩ := h
  obtain ⟨r1, ρ1, e1, e2⟩ := bindM_some e
  obtain ⟨d, ρ2, e3, e4⟩ := bindM_some e2
  obtain ⟨d', ρ3, e5, e6⟩ := bindM_some e4
  obtain ⟨b1, b2⟩ := optM_some e5
  simp only at b1 b2
  cases retM_some e6
  refine ⟨S, ρ, r1, ρ1, G, e1, fun v S1 H1 F1 G1 R1 => ?_⟩
  obtain ⟨rd, rfl⟩ := R1.rd G1 e3
  subst b2
  have n1 : Now X.K σ S ρ H S1 _ H1 := ⟨G, F1, G1⟩
  unfold soSetT at b1
  split at b1
  · obtain ⟨xs, hx, b1⟩ := Option.bind_eq_some_iff.mp b1
    split at b1
    · rename_i hl
      cases b1
      obtain rfl := strsD_eq hx
      obtain ⟨a, vs, rfl, h1, p1⟩ := rd.tup
      obtain rfl := p1.strs_eq
      exact ⟨a, xs, rfl, STup.sq h1, hl.1, hl.2, fun p hp => q _ S1 _ (n1.grow (Gw.lay G1.al hp)).f (n1.grow (Gw.lay G1.al hp)).g (lay_lst G1.al (RpL.strs _) hp (n1.none0 hp))⟩
    · cases b1
  · cases b1
end
@[simp] theorem e_soT (f : Mo Rs) (ρ : Rho) : xSoSetT f ρ = x1a soSetT (f ρ) := e_x1 _ _ _
end PyI

/-! PyI, part JH: x is True, x is False, where x may be None. -/
namespace PyI
open PySem PySem.Spec L2
def opIsF : PyData → PyData → Option PyData
  | .bool a, .bool b => some (.bool (decide (a = b)))
  | .none, .bool _ => some (.bool false)
  | _, _ => none
theorem o_isF {X : Cx} : OpR X (compareOp .Is) (rD X.K opIsF) := by
  intro pins s σ H x y v u Q I rx ry q
  obtain ⟨S, d1, d2, d, al, r1, r2, e, q⟩ := q
  unfold opIsF at e
  split at e
  · cases e
    exact op_isBl pins s σ H x y v u Q I rx ry ⟨_, _, r1.bl, r2.bl, q _ S H (Gw.refl al) (.bl _)⟩
  · cases e
    have hx := r1.non
    have hy := r2.bl
    subst hx
    subst hy
    cases (show v = Value.none from rx)
    cases (show u = Value.bool _ from ry)
    exact wpAny_is_other rfl (fun z => by cases z) ⟨.bl false, H, I, rfl, q _ S H (Gw.refl al) (.bl _)⟩
  · cases e
@[simp] theorem o_isF1 (a b : Bool) : opIsF (.bool a) (.bool b) = some (.bool (decide (a = b))) := (rfl)
@[simp] theorem o_isF2 (b : Bool) : opIsF .none (.bool b) = some (.bool false) := (rfl)
end PyI

namespace PyK77
open PySem PySem.Spec L2 PyI
def FUEL : Nat := 200
structure Fns where
  extent : Fn
  reduced : Fn
  is_view : Fn
  is_so : Fn
  is_left : Fn
  added : Fn
  premises : Fn
  is_shown : Fn
  shown : Fn
  parted : Fn
  known : Fn
  judge_known : Fn
  law_next : Fn
  law_claim : Fn
  law_words_drawn : Fn
  law_opposite : Fn
  law_extent : Fn
  law_so : Fn
  law_mixed : Fn
  law : Fn
def dd_is_view : List PyData := [.int 60]
def dd_is_so : List PyData := [.tuple []]
def dd_is_shown : List PyData := [.int 200]
def c_NONE : PyData := .tuple ((["none"] : List Str).map .str)
def m_extent (R : Fns) : Mo Fl := (sSeq (sIf (tV (x2 (x2i (xV 0) (xC (.int 0)) opIx) (xTup (aC (xC (.str "word")) (aC (xC (.str "none")) aN))) opInA)) (sRet (xC (.int 1))) sPass)
    (sSeq (sIf (tV (x2 (x2i (xV 0) (xC (.int 0)) opIx) (xC (.str "knows")) opEq)) (sRet (x2 (xC (.int 1)) (xCall R.extent (aC (x2i (xV 0) (xC (.int 2)) opIx) aN)) opAdd)) sPass)
    (sRet (x2 (x2 (xC (.int 1)) (xCall R.extent (aC (x2i (xV 0) (xC (.int 1)) opIx) aN)) opAdd) (xCall R.extent (aC (x2i (xV 0) (xC (.int 2)) opIx) aN)) opAdd))))
def m_reduced (R : Fns) : Mo Fl := (sSeq (sUnp (xV 0) (gT (gsC (gN 1) (gsC (gN 2) (gsC (gN 3) gsN)))))
    (sSeq (sIf (tV (x2 (x2i (xV 3) (xC (.int 0)) opIx) (xTup (aC (xC (.str "word")) (aC (xC (.str "none")) aN))) opInA)) (sRet (xTup (aC (xC (.str "if")) (aC (xV 2) (aC (xV 3) aN))))) sPass)
    (sSeq (sIf (tV (x2 (x2i (xV 3) (xC (.int 0)) opIx) (xC (.str "knows")) opEq)) (sRet (xTup (aC (xC (.str "if")) (aC (xV 2) (aC (xTup (aC (xC (.str "knows")) (aC (x2i (xV 3) (xC (.int 1)) opIx) (aC (xTup (aC (xC (.str "told")) (aC (xV 2) (aC (x2i (xV 3) (xC (.int 2)) opIx) aN)))) aN)))) aN))))) sPass)
    (sSeq (sIf (tV (x2 (x2i (xV 3) (xC (.int 0)) opIx) (xC (.str "told")) opEq)) (sRet (xTup (aC (xC (.str "told")) (aC (xTup (aC (xC (.str "and")) (aC (xV 2) (aC (xTup (aC (xC (.str "told")) (aC (xV 2) (aC (x2i (xV 3) (xC (.int 1)) opIx) aN)))) aN)))) (aC (x2i (xV 3) (xC (.int 2)) opIx) aN))))) sPass)
    (sRet (xTup (aC (x2i (xV 3) (xC (.int 0)) opIx) (aC (xTup (aC (xC (.str "told")) (aC (xV 2) (aC (x2i (xV 3) (xC (.int 1)) opIx) aN)))) (aC (xTup (aC (xC (.str "told")) (aC (xV 2) (aC (x2i (xV 3) (xC (.int 2)) opIx) aN)))) aN)))))))))
def m_is_view (R : Fns) : Mo Fl := (sSeq (sIf (tOrM (tNotM (tV (xIsi "tuple" (xV 0)))) (tOrM (tV (x2 (xB oLen (aC (xV 0) aN)) (xC (.int 2)) opNe)) (tV (x2 (xC (.bool false)) (xLc [3] (iS (xV 0)) (gN 3) tYesM (xIsi "tuple" (xV 3))) opInA)))) (sRet (xC (.bool false))) sPass)
    (sSeq (sIf (tOrM (tV (x2 (xV 1) (xC (.int 0)) opEq)) (tOrM (tV (x2 (xC (.bool false)) (xLc [4] (iS (x2i (xV 0) (xC (.int 0)) opIx)) (gN 4) tYesM (xIsi "str" (xV 4))) opInA)) (tV (x2 (xB oListA (aC (x2i (xV 0) (xC (.int 0)) opIx) aN)) (xSoSetT (x2i (xV 0) (xC (.int 0)) opIx)) opNe)))) (sRet (xC (.bool false))) sPass)
    (sSeq (sFor (iS (x2i (xV 0) (xC (.int 1)) opIx)) (gN 2) (sIf (tOrM (tNotM (tV (xIsi "tuple" (xV 2)))) (tOrM (tV (x2 (xB oLen (aC (xV 2) aN)) (xC (.int 2)) opNe)) (tOrM (tNotM (tV (xIsi "str" (x2i (xV 2) (xC (.int 0)) opIx)))) (tNotM (tV (xCall R.is_view (aC (x2i (xV 2) (xC (.int 1)) opIx) (aC (x2 (xV 1) (xC (.int 1)) opSub) aN)))))))) (sRet (xC (.bool false))) sPass))
    (sRet (xC (.bool true))))))
def m_is_so (R : Fns) : Mo Fl := (sSeq (sSet 3 (x2i (xV 1) (xC (.int 0)) opIx))
    (sSeq (sIf (tV (x2 (xV 3) (xC (.str "word")) opEq)) (sRet (x2 (x2i (xV 1) (xC (.int 1)) opIx) (x2i (xV 0) (xC (.int 0)) opIx) opInA)) sPass)
    (sSeq (sIf (tV (x2 (xV 3) (xC (.str "none")) opEq)) (sRet (xC (.bool false))) sPass)
    (sSeq (sIf (tV (x2 (xV 3) (xC (.str "knows")) opEq)) (sSeq (sSet 5 (x2 (xLst (aC (xV 0) aN)) (xLc [6, 7] (iS (x2i (xV 0) (xC (.int 1)) opIx)) (gT (gsC (gN 6) (gsC (gN 7) gsN))) (tV (x2 (xV 6) (x2i (xV 1) (xC (.int 1)) opIx) opEq)) (xV 7)) opAdd))
    (sRet (x2 (xC (.bool false)) (xLc [7] (iS (xV 5)) (gN 7) (tV (xCall R.is_left (aC (xV 7) (aC (xV 2) aN)))) (xCall R.is_so (aC (xV 7) (aC (x2i (xV 1) (xC (.int 2)) opIx) (aC (xV 2) aN))))) opNotInA))) sPass)
    (sSeq (sSet 4 (xCall R.is_so (aC (xV 0) (aC (x2i (xV 1) (xC (.int 1)) opIx) (aC (xV 2) aN)))))
    (sSeq (sIf (tV (x2 (xV 3) (xC (.str "told")) opEq)) (sRet (xOr (xNot (xV 4)) (xCall R.is_so (aC (xV 0) (aC (x2i (xV 1) (xC (.int 2)) opIx) (aC (x2 (xV 2) (xTup (aC (x2i (xV 1) (xC (.int 1)) opIx) aN)) opAdd) aN)))))) sPass)
    (sSeq (sIf (tV (x2 (xV 3) (xC (.str "and")) opEq)) (sRet (xAnd (xV 4) (xCall R.is_so (aC (xV 0) (aC (x2i (xV 1) (xC (.int 2)) opIx) (aC (xV 2) aN)))))) sPass)
    (sSeq (sIf (tV (x2 (xV 3) (xC (.str "or")) opEq)) (sRet (xOr (xV 4) (xCall R.is_so (aC (xV 0) (aC (x2i (xV 1) (xC (.int 2)) opIx) (aC (xV 2) aN)))))) sPass)
    (sRet (xOr (xNot (xV 4)) (xCall R.is_so (aC (xV 0) (aC (x2i (xV 1) (xC (.int 2)) opIx) (aC (xV 2) aN))))))))))))))
def m_is_left (R : Fns) : Mo Fl := (sRet (x2 (xC (.bool false)) (xLc [2] (iR1 (xB oLen (aC (xV 1) aN))) (gN 2) tYesM (xCall R.is_so (aC (xV 0) (aC (x2i (xV 1) (xV 2) opIx) (aC (xSl (xV 1) oN (oS (xV 2))) aN))))) opNotInA))
def m_added (R : Fns) : Mo Fl := (sSeq (sSet 2 (xB oListA (aC (xV 0) aN)))
    (sSeq (sFor (iS (xV 1)) (gN 3) (sIf (tV (x2 (xV 3) (xV 2) opNotInA)) (sDrop (xMut "list" 2 mAppend (aC (xV 3) aN))) sPass))
    (sRet (xB oTuple (aC (xV 2) aN)))))
def m_premises (R : Fns) : Mo Fl := (sSeq (sUnp (xSl (x2 (xV 1) (xTup (aC (xC .none) (aC (xC .none) aN))) opAdd) oN (oS (xC (.int 3)))) (gT (gsC (gN 4) (gsC (gN 5) (gsC (gN 6) gsN)))))
    (sSeq (sIf (tV (x2 (xV 0) (xC (.str "left")) opEq)) (sSeq (sIf (tV (x2 (xV 4) (xC (.str "knows")) opEq)) (sRet (xLst (aC (xTup (aC (xCall R.added (aC (xV 2) (aC (xLst (aC (xV 6) aN)) aN))) (aC (xV 3) aN))) aN))) sPass)
    (sSeq (sIf (tV (x2 (xV 4) (xC (.str "told")) opEq)) (sRet (xLst (aC (xTup (aC (xCall R.added (aC (xV 2) (aC (xLst (aC (xCall R.reduced (aC (xV 1) aN)) aN)) aN))) (aC (xV 3) aN))) aN))) sPass)
    (sSeq (sIf (tV (x2 (xV 4) (xC (.str "and")) opEq)) (sRet (xLst (aC (xTup (aC (xCall R.added (aC (xV 2) (aC (xLst (aC (xV 5) (aC (xV 6) aN))) aN))) (aC (xV 3) aN))) aN))) sPass)
    (sSeq (sIf (tV (x2 (xV 4) (xC (.str "or")) opEq)) (sRet (xLst (aC (xTup (aC (xCall R.added (aC (xV 2) (aC (xLst (aC (xV 5) aN)) aN))) (aC (xV 3) aN))) (aC (xTup (aC (xCall R.added (aC (xV 2) (aC (xLst (aC (xV 6) aN)) aN))) (aC (xV 3) aN))) aN)))) sPass)
    (sRet (xLst (aC (xTup (aC (xV 2) (aC (xCall R.added (aC (xV 3) (aC (xLst (aC (xV 5) aN)) aN))) aN))) (aC (xTup (aC (xCall R.added (aC (xV 2) (aC (xLst (aC (xV 6) aN)) aN))) (aC (xV 3) aN))) aN)))))))) sPass)
    (sSeq (sIf (tV (x2 (xV 4) (xC (.str "knows")) opEq)) (sSeq (sSet 7 (xLc [8] (iS (xV 2)) (gN 8) (tAndM (tV (x2 (x2i (xV 8) (xC (.int 0)) opIx) (xC (.str "knows")) opEq)) (tV (x2 (x2i (xV 8) (xC (.int 1)) opIx) (xV 5) opEq))) (x2i (xV 8) (xC (.int 2)) opIx)))
    (sRet (xLst (aC (xTup (aC (xCall R.added (aC (xTup aN) (aC (xV 7) aN))) (aC (xTup (aC (xV 6) aN)) aN))) aN)))) sPass)
    (sSeq (sIf (tV (x2 (xV 4) (xC (.str "told")) opEq)) (sRet (xLst (aC (xTup (aC (xV 2) (aC (xCall R.added (aC (xV 3) (aC (xLst (aC (xCall R.reduced (aC (xV 1) aN)) aN)) aN))) aN))) aN))) sPass)
    (sSeq (sIf (tV (x2 (xV 4) (xC (.str "and")) opEq)) (sRet (xLst (aC (xTup (aC (xV 2) (aC (xCall R.added (aC (xV 3) (aC (xLst (aC (xV 5) aN)) aN))) aN))) (aC (xTup (aC (xV 2) (aC (xCall R.added (aC (xV 3) (aC (xLst (aC (xV 6) aN)) aN))) aN))) aN)))) sPass)
    (sSeq (sIf (tV (x2 (xV 4) (xC (.str "or")) opEq)) (sRet (xLst (aC (xTup (aC (xV 2) (aC (xCall R.added (aC (xV 3) (aC (xLst (aC (xV 5) (aC (xV 6) aN))) aN))) aN))) aN))) sPass)
    (sRet (xLst (aC (xTup (aC (xCall R.added (aC (xV 2) (aC (xLst (aC (xV 5) aN)) aN))) (aC (xCall R.added (aC (xV 3) (aC (xLst (aC (xV 6) aN)) aN))) aN))) aN)))))))))
def m_is_shown (R : Fns) : Mo Fl := (sSeq (sIf (tOrM (tNotM (tV (xIsi "tuple" (xV 2)))) (tOrM (tV (x2 (xB oLen (aC (xV 2) aN)) (xC (.int 2)) opLt)) (tV (x2 (xV 3) (xC (.int 0)) opEq)))) (sRet (xC (.bool false))) sPass)
    (sSeq (sUnp (xSl (xV 2) oN (oS (xC (.int 2)))) (gT (gsC (gN 4) (gsC (gN 5) gsN))))
    (sSeq (sIf (tV (x2 (xV 4) (xC (.str "same")) opEq)) (sRet (xAnd (x2 (xB oLen (aC (xV 2) aN)) (xC (.int 2)) opEq) (xAnd (x2 (xV 5) (xV 0) opInA) (xOr (x2 (xV 5) (xV 1) opInA) (x2 (xV 5) (xC c_NONE) opEq))))) sPass)
    (sSeq (sIf (tOrM (tV (x2 (xV 4) (xTup (aC (xC (.str "left")) (aC (xC (.str "right")) aN))) opNotInA)) (tV (x2 (xV 5) (xIf (tV (x2 (xV 4) (xC (.str "left")) opEq)) (xV 0) (xV 1)) opNotInA))) (sRet (xC (.bool false))) sPass)
    (sSeq (sIf (tV (x2 (x2i (xV 5) (xC (.int 0)) opIx) (xTup (aC (xC (.str "word")) (aC (xC (.str "none")) aN))) opInA)) (sRet (xC (.bool false))) sPass)
    (sSeq (sSet 6 (xCall R.premises (aC (xV 4) (aC (xV 5) (aC (xV 0) (aC (xV 1) aN))))))
    (sSeq (sIf (tV (x2 (xB oLen (aC (xV 2) aN)) (x2 (xC (.int 2)) (xB oLen (aC (xV 6) aN)) opAdd) opNe)) (sRet (xC (.bool false))) sPass)
    (sRet (x2 (xC (.bool false)) (xLc [7, 8, 9] (iZ (aC (xV 6) (aC (xSl (xV 2) (oS (xC (.int 2))) oN) aN))) (gT (gsC (gT (gsC (gN 7) (gsC (gN 8) gsN))) (gsC (gN 9) gsN))) tYesM (xCall R.is_shown (aC (xV 7) (aC (xV 8) (aC (xV 9) (aC (x2 (xV 3) (xC (.int 1)) opSub) aN)))))) opNotInA)))))))))
def m_shown (R : Fns) : Mo Fl := (sSeq (sFor (iS (xV 0)) (gN 2) (sIf (tOrM (tV (x2 (xV 2) (xV 1) opInA)) (tV (x2 (xV 2) (xC c_NONE) opEq))) (sRet (xTup (aC (xC (.str "shown")) (aC (xTup (aC (xC (.str "same")) (aC (xV 2) aN))) aN)))) sPass))
    (sSeq (sFor (iS (xTup (aC (xTup (aC (xC (.str "left")) (aC (xV 0) aN))) (aC (xTup (aC (xC (.str "right")) (aC (xV 1) aN))) aN)))) (gT (gsC (gN 3) (gsC (gN 4) gsN))) (sFor (iS (xV 4)) (gN 2) (sIf (tAndM (tV (x2 (x2i (xV 2) (xC (.int 0)) opIx) (xTup (aC (xC (.str "word")) (aC (xC (.str "none")) aN))) opNotInA)) (tV (x2 (xTup (aC (xV 3) (aC (x2i (xV 2) (xC (.int 0)) opIx) aN))) (xTup (aC (xC (.str "right")) (aC (xC (.str "knows")) aN))) opNe))) (sSeq (sSet 7 (xCall R.premises (aC (xV 3) (aC (xV 2) (aC (xV 0) (aC (xV 1) aN))))))
    (sIf (tV (x2 (xTup (aC (xV 0) (aC (xV 1) aN))) (xV 7) opNotInA)) (sRet (xCall R.parted (aC (xV 3) (aC (xV 2) (aC (xV 7) aN))))) sPass)) sPass)))
    (sSeq (sSet 5 (xLst aN))
    (sSeq (sFor (iS (xV 1)) (gN 2) (sIf (tV (x2 (x2i (xV 2) (xC (.int 0)) opIx) (xC (.str "knows")) opEq)) (sSeq (sSet 6 (xCall R.parted (aC (xC (.str "right")) (aC (xV 2) (aC (xCall R.premises (aC (xC (.str "right")) (aC (xV 2) (aC (xV 0) (aC (xV 1) aN))))) aN)))))
    (sSeq (sIf (tV (x2 (x2i (xV 6) (xC (.int 0)) opIx) (xC (.str "shown")) opEq)) (sRet (xV 6)) sPass)
    (sDrop (xMut "list" 5 mAppend (aC (xTup (aC (x2i (xV 2) (xC (.int 1)) opIx) (aC (x2i (xV 6) (xC (.int 1)) opIx) aN))) aN))))) sPass))
    (sRet (xTup (aC (xC (.str "view")) (aC (xTup (aC (xB oTuple (aC (xB oSorted (aC (xLc [2] (iS (xV 0)) (gN 2) (tV (x2 (x2i (xV 2) (xC (.int 0)) opIx) (xC (.str "word")) opEq)) (x2i (xV 2) (xC (.int 1)) opIx)) aN)) aN)) (aC (xB oTuple (aC (xV 5) aN)) aN))) aN))))))))
def m_parted (R : Fns) : Mo Fl := (sSeq (sSet 3 (xLst aN))
    (sSeq (sFor (iS (xV 2)) (gT (gsC (gN 4) (gsC (gN 5) gsN))) (sSeq (sSet 6 (xCall R.shown (aC (xV 4) (aC (xV 5) aN))))
    (sSeq (sIf (tV (x2 (x2i (xV 6) (xC (.int 0)) opIx) (xC (.str "view")) opEq)) (sRet (xV 6)) sPass)
    (sDrop (xMut "list" 3 mAppend (aC (x2i (xV 6) (xC (.int 1)) opIx) aN))))))
    (sRet (xTup (aC (xC (.str "shown")) (aC (x2 (xTup (aC (xV 0) (aC (xV 1) aN))) (xB oTuple (aC (xV 3) aN)) opAdd) aN))))))
def m_known (R : Fns) : Mo Fl := (sSeq (sSet 2 (xCall R.added (aC (xTup aN) (aC (xLc [4] (iS (xB oSorted (aC (xV 0) aN))) (gN 4) tYesM (x2i (xV 0) (xV 4) opIx)) aN))))
    (sSeq (sIf (tV (x2 (x2 (xB oSum (aC (xLc [5] (iS (xV 2)) (gN 5) tYesM (xCall R.extent (aC (xV 5) aN))) aN)) (xCall R.extent (aC (xV 1) aN)) opAdd) (xC (.int 24)) opGt)) sFail sPass)
    (sSeq (sSet 3 (xCall R.shown (aC (xV 2) (aC (xTup (aC (xV 1) aN)) aN))))
    (sSeq (sIf (tNotM (tV (xCall R.judge_known (aC (xV 0) (aC (xV 1) (aC (xV 3) aN)))))) sFail sPass)
    (sRet (xV 3))))))
def m_judge_known (R : Fns) : Mo Fl := (sSeq (sIf (tOrM (tNotM (tV (xIsi "tuple" (xV 2)))) (tV (x2 (xB oLen (aC (xV 2) aN)) (xC (.int 2)) opNe))) (sRet (xC (.bool false))) sPass)
    (sSeq (sIf (tV (x2 (x2i (xV 2) (xC (.int 0)) opIx) (xC (.str "shown")) opEq)) (sRet (xCall (withD R.is_shown dd_is_shown) (aC (xCall R.added (aC (xTup aN) (aC (xLc [4] (iS (xB oSorted (aC (xV 0) aN))) (gN 4) tYesM (x2i (xV 0) (xV 4) opIx)) aN))) (aC (xTup (aC (xV 1) aN)) (aC (x2i (xV 2) (xC (.int 1)) opIx) aN))))) sPass)
    (sSeq (sIf (tOrM (tV (x2 (x2i (xV 2) (xC (.int 0)) opIx) (xC (.str "view")) opNe)) (tOrM (tNotM (tV (xCall (withD R.is_view dd_is_view) (aC (x2i (xV 2) (xC (.int 1)) opIx) aN)))) (tV (xCall (withD R.is_so dd_is_so) (aC (x2i (xV 2) (xC (.int 1)) opIx) (aC (xV 1) aN)))))) (sRet (xC (.bool false))) sPass)
    (sRet (x2 (xC (.bool false)) (xLc [3] (iDict .vals 0) (gN 3) tYesM (xCall (withD R.is_so dd_is_so) (aC (x2i (xV 2) (xC (.int 1)) opIx) (aC (xV 3) aN)))) opNotInA)))))
def m_law_next (R : Fns) : Mo Fl := (sSeq (sIf (tAndM (tV (x2 (x2i (xV 0) (xC (.int 2)) opIx) (xC (.int 0)) opEq)) (tV (x2 (x2i (xV 0) (xC (.int 1)) opIx) (xB oLen (aC (x2i (xV 0) (xC (.int 0)) opIx) aN)) opLt))) (sSeq (sSet 2 (x2i (x2i (xV 0) (xC (.int 0)) opIx) (x2i (xV 0) (xC (.int 1)) opIx) opIx))
    (sSeq (sAugS 0 (fun i j => i + j) (xC (.int 1)) (xC (.int 1)))
    (sIf (tV (x2 (xV 2) (x2 (xC (.int 10)) (xC (.int 18)) opPow) opGe)) (sPut 0 (xC (.int 2)) (xV 2)) (sPut 0 (xC (.int 3)) (x2 (xB oInt (aC (x2 (x2 (x2 (x2i (xV 0) (xC (.int 3)) opIx) (xC (.int 48271)) opMul) (x2 (xB oInt (aC (xV 2) aN)) (xC (.int 2147483647)) opMod) opAdd) (xC (.int 7)) opAdd) aN)) (xC (.int 2147483647)) opMod))))) sPass)
    (sSeq (sIf (tV (x2 (x2i (xV 0) (xC (.int 2)) opIx) (xC (.int 0)) opGt)) (sSeq (sSet 3 (x2 (xB oInt (aC (x2i (xV 0) (xC (.int 2)) opIx) aN)) (xV 1) opMod))
    (sSeq (sPut 0 (xC (.int 2)) (x2 (x2i (xV 0) (xC (.int 2)) opIx) (xV 1) opFdiv))
    (sRet (xV 3)))) sPass)
    (sSeq (sPut 0 (xC (.int 3)) (x2 (xB oInt (aC (x2 (x2 (x2i (xV 0) (xC (.int 3)) opIx) (xC (.int 69621)) opMul) (xC (.int 12345)) opAdd) aN)) (xC (.int 2147483647)) opMod))
    (sRet (x2 (xB oInt (aC (x2 (x2i (xV 0) (xC (.int 3)) opIx) (xC (.int 7)) opFdiv) aN)) (xV 1) opMod)))))
def m_law_claim (R : Fns) : Mo Fl := (sSeq (sSet 3 (xCallL R.law_next (aC (xV 0) (aC (xC (.int 9)) aN))))
    (sSeq (sIf (tOrM (tV (x2 (xV 2) (xC (.int 0)) opEq)) (tV (x2 (xV 3) (xC (.int 3)) opLt))) (sRet (xIf (tOrM (tV (x2 (xCallL R.law_next (aC (xV 0) (aC (xC (.int 6)) aN))) (xC (.int 0)) opEq)) (tV (x2 (xV 1) (xLst aN) opEq))) (xTup (aC (xC (.str "none")) aN)) (xTup (aC (xC (.str "word")) (aC (x2i (xV 1) (xCallL R.law_next (aC (xV 0) (aC (xB oLen (aC (xV 1) aN)) aN))) opIx) aN))))) sPass)
    (sSeq (sSet 4 (xCallL R.law_claim (aC (xV 0) (aC (xV 1) (aC (x2 (xV 2) (xC (.int 1)) opSub) aN)))))
    (sSeq (sIf (tV (x2 (xV 3) (xC (.int 8)) opEq)) (sRet (xTup (aC (xC (.str "if")) (aC (xV 4) (aC (xTup (aC (xC (.str "none")) aN)) aN))))) sPass)
    (sRet (xTup (aC (x2i (xLst (aC (xC (.str "and")) (aC (xC (.str "or")) (aC (xC (.str "if")) (aC (xC (.str "if")) (aC (xC (.str "or")) aN)))))) (x2 (xV 3) (xC (.int 3)) opSub) opIx) (aC (xV 4) (aC (xCallL R.law_claim (aC (xV 0) (aC (xV 1) (aC (x2 (xV 2) (xC (.int 1)) opSub) aN)))) aN)))))))))
def m_law_words_drawn (R : Fns) : Mo Fl := (sSeq (sSet 2 (xLst aN))
    (sSeq (sFor (iR1 (xV 1)) (gN 3) (sSeq (sSet 4 (x2 (x2i (xC (.str "abcdefghijklmnopqrstuvwxyz")) (xCallL R.law_next (aC (xV 0) (aC (xC (.int 26)) aN))) opIx) (x2i (xLst (aC (xC (.str "")) (aC (xC (.str "_1")) (aC (xC (.str "x9")) (aC (xC (.str "b")) aN))))) (xCallL R.law_next (aC (xV 0) (aC (xC (.int 4)) aN))) opIx) opAdd))
    (sSeq (whileM FUEL (tV (x2 (xV 4) (xV 2) opInA)) (sSet 4 (x2 (xV 4) (xC (.str "y")) opAdd)))
    (sDrop (xMut "list" 2 mAppend (aC (xV 4) aN))))))
    (sRet (xV 2))))
def m_law_opposite (R : Fns) : Mo Fl := (sRet (xTup (aC (xC (.str "if")) (aC (xV 0) (aC (xTup (aC (xC (.str "none")) aN)) aN)))))
def m_law_extent (R : Fns) : Mo Fl := (sSeq (sIf (tV (x2 (x2i (xV 0) (xC (.int 0)) opIx) (xLst (aC (xC (.str "word")) (aC (xC (.str "none")) aN))) opInA)) (sRet (xC (.int 1))) sPass)
    (sRet (x2 (xC (.int 1)) (xB oSum (aC (xLc [1] (iS (xSl (xV 0) (oS (xC (.int 1))) oN)) (gN 1) (tV (xIsi "tuple" (xV 1))) (xCall R.law_extent (aC (xV 1) aN))) aN)) opAdd)))
def m_law_so (R : Fns) : Mo Fl := (sSeq (sIf (tV (x2 (x2 (xB oSum (aC (xLc [3] (iDict .vals 0) (gN 3) tYesM (xCall R.law_extent (aC (xV 3) aN))) aN)) (xCall R.law_extent (aC (xV 1) aN)) opAdd) (xC (.int 24)) opGt)) (sRet (xC .none)) sPass)
    (sSeq (sSet 2 (xCall R.known (aC (xB oDictP (aC (xV 0) aN)) (aC (xV 1) aN))))
    (sRet (xAnd (x2 (x2i (xV 2) (xC (.int 0)) opIx) (xC (.str "shown")) opEq) (x2 (xCall R.judge_known (aC (xB oDictP (aC (xV 0) aN)) (aC (xV 1) (aC (xV 2) aN)))) (xC (.bool true)) opIsB)))))
def m_law_mixed (R : Fns) : Mo Fl := (sSeq (sSet 3 (xCallL R.law_next (aC (xV 0) (aC (xC (.int 5)) aN))))
    (sSeq (sIf (tOrM (tV (x2 (xV 2) (xC (.int 0)) opEq)) (tV (x2 (xV 3) (xC (.int 0)) opEq))) (sRet (xTup (aC (xC (.str "word")) (aC (x2i (xV 1) (xCallL R.law_next (aC (xV 0) (aC (xB oLen (aC (xV 1) aN)) aN))) opIx) aN)))) sPass)
    (sSeq (sIf (tV (x2 (xV 3) (xC (.int 1)) opEq)) (sRet (xTup (aC (xC (.str "knows")) (aC (x2i (xLst (aC (xC (.str "ann")) (aC (xC (.str "bo")) aN))) (xCallL R.law_next (aC (xV 0) (aC (xC (.int 2)) aN))) opIx) (aC (xCallL R.law_mixed (aC (xV 0) (aC (xV 1) (aC (x2 (xV 2) (xC (.int 1)) opSub) aN)))) aN))))) sPass)
    (sSeq (sIf (tV (x2 (xV 3) (xC (.int 2)) opEq)) (sRet (xCall R.law_opposite (aC (xCallL R.law_mixed (aC (xV 0) (aC (xV 1) (aC (x2 (xV 2) (xC (.int 1)) opSub) aN)))) aN))) sPass)
    (sRet (xTup (aC (x2i (xLst (aC (xC (.str "and")) (aC (xC (.str "or")) (aC (xC (.str "if")) aN)))) (xCallL R.law_next (aC (xV 0) (aC (xC (.int 3)) aN))) opIx) (aC (xCallL R.law_mixed (aC (xV 0) (aC (xV 1) (aC (x2 (xV 2) (xC (.int 1)) opSub) aN)))) (aC (xCallL R.law_mixed (aC (xV 0) (aC (xV 1) (aC (x2 (xV 2) (xC (.int 1)) opSub) aN)))) aN)))))))))
def m_law (R : Fns) : Mo Fl := (sSeq (sSet 1 (xLst (aC (xScr 0) (aC (xC (.int 0)) (aC (xC (.int 0)) (aC (xC (.int 1)) aN))))))
    (sSeq (sSet 2 (xCallL R.law_words_drawn (aC (xV 1) (aC (xC (.int 2)) aN))))
    (sSeq (sSet 3 (xCallL R.law_mixed (aC (xV 1) (aC (xV 2) (aC (xC (.int 2)) aN)))))
    (sSeq (sSet 4 (xCallL R.law_mixed (aC (xV 1) (aC (xV 2) (aC (xC (.int 1)) aN)))))
    (sSeq (sSet 5 (x2i (xLst (aC (xC (.str "ann")) (aC (xC (.str "bo")) aN))) (xCallL R.law_next (aC (xV 1) (aC (xC (.int 2)) aN))) opIx))
    (sSeq (sSet 6 (xTup (aC (xC (.str "knows")) (aC (xV 5) (aC (xV 3) aN)))))
    (sSeq (sSet 7 (xTup (aC (xC (.str "and")) (aC (xV 6) (aC (xTup (aC (xC (.str "knows")) (aC (xV 5) (aC (xV 4) aN)))) aN)))))
    (sSeq (sSet 8 (xCallL R.law_claim (aC (xV 1) (aC (xV 2) (aC (xC (.int 1)) aN)))))
    (sSeq (sSet 9 (xTup (aC (xC (.str "word")) (aC (x2i (xV 2) (xCallL R.law_next (aC (xV 1) (aC (xC (.int 2)) aN))) opIx) aN))))
    (sSeq (sSet 10 (xTup (aC (xC (.str "knows")) (aC (xV 5) (aC (xTup (aC (xC (.str "word")) (aC (x2i (xV 2) (xCallL R.law_next (aC (xV 1) (aC (xC (.int 2)) aN))) opIx) aN))) aN)))))
    (sSeq (sSet 11 (xTup (aC (xC (.str "told")) (aC (xV 8) (aC (xTup (aC (xC (.str "told")) (aC (xV 9) (aC (xV 10) aN)))) aN)))))
    (sSeq (sSet 12 (xTup (aC (xC (.str "told")) (aC (xTup (aC (xC (.str "and")) (aC (xV 8) (aC (xV 9) aN)))) (aC (xV 10) aN)))))
    (sSeq (sSet 13 (xLst (aC (xTup (aC (xDisp [((xC (.str "n")), (xTup (aC (xC (.str "knows")) (aC (xV 5) (aC (xTup (aC (xC (.str "and")) (aC (xV 3) (aC (xV 4) aN)))) aN)))))]) (aC (xV 7) aN))) (aC (xTup (aC (xDisp [((xC (.str "n")), (xV 7))]) (aC (xTup (aC (xC (.str "knows")) (aC (xV 5) (aC (xTup (aC (xC (.str "and")) (aC (xV 3) (aC (xV 4) aN)))) aN)))) aN))) (aC (xTup (aC (xDisp [((xC (.str "n")), (xV 6))]) (aC (xV 3) aN))) aN)))))
    (sSeq (sSet 13 (x2 (xV 13) (xLst (aC (xTup (aC (xDisp [((xC (.str "n")), (xTup (aC (xC (.str "knows")) (aC (xV 5) (aC (xTup (aC (xC (.str "if")) (aC (xV 3) (aC (xV 4) aN)))) aN))))), ((xC (.str "m")), (xV 6))]) (aC (xTup (aC (xC (.str "knows")) (aC (xV 5) (aC (xV 4) aN)))) aN))) (aC (xTup (aC xDict0 (aC (xTup (aC (xC (.str "told")) (aC (xV 8) (aC (xTup (aC (xC (.str "knows")) (aC (xV 5) (aC (xV 8) aN)))) aN)))) aN))) aN))) opAdd))
    (sSeq (sSet 13 (x2 (xV 13) (xLst (aC (xTup (aC (xDisp [((xC (.str "n")), (xV 11))]) (aC (xV 12) aN))) (aC (xTup (aC (xDisp [((xC (.str "n")), (xV 12))]) (aC (xV 11) aN))) aN))) opAdd))
    (sSeq (sIf (tV (x2 (xLc [14] (iS (xV 13)) (gN 14) (tV (x2 (xCall R.law_so (aC (x2i (xV 14) (xC (.int 0)) opIx) (aC (x2i (xV 14) (xC (.int 1)) opIx) aN))) (xC (.bool false)) opIsF)) (xV 14)) (xLst aN) opNe)) (sRet (xC (.bool false))) sPass)
    (sSeq (sIf (tV (x2 (xCall R.law_so (aC xDict0 (aC (xV 3) aN))) (xCall R.law_so (aC xDict0 (aC (xV 6) aN))) opNe)) (sRet (xC (.bool false))) sPass)
    (sRet (xOr (x2 (xCall R.law_so (aC (xDisp [((xC (.str "n")), (xV 3))]) (aC (xV 4) aN))) (xC (.bool true)) opNotB) (x2 (xCall R.law_so (aC (xDisp [((xC (.str "n")), (xV 6))]) (aC (xTup (aC (xC (.str "knows")) (aC (xV 5) (aC (xV 4) aN)))) aN))) (xC (.bool false)) opNotB))))))))))))))))))))
def stepF (R : Fns) : Fns := { extent := runF 1 1 (m_extent R), reduced := runF 1 4 (m_reduced R), is_view := runF 2 5 (m_is_view R), is_so := runF 3 8 (m_is_so R), is_left := runF 2 3 (m_is_left R), added := runF 2 4 (m_added R), premises := runF 4 9 (m_premises R), is_shown := runF 4 10 (m_is_shown R), shown := runF 2 8 (m_shown R), parted := runF 3 7 (m_parted R), known := runF 2 6 (m_known R), judge_known := runF 3 5 (m_judge_known R), law_next := runF 2 4 (m_law_next R), law_claim := runF 3 5 (m_law_claim R), law_words_drawn := runF 2 5 (m_law_words_drawn R), law_opposite := runF 1 1 (m_law_opposite R), law_extent := runF 1 2 (m_law_extent R), law_so := runF 2 4 (m_law_so R), law_mixed := runF 3 4 (m_law_mixed R), law := runF 1 15 (m_law R) }
def lvl : Nat → Fns
  | 0 => { extent := fun _ => none, reduced := fun _ => none, is_view := fun _ => none, is_so := fun _ => none, is_left := fun _ => none, added := fun _ => none, premises := fun _ => none, is_shown := fun _ => none, shown := fun _ => none, parted := fun _ => none, known := fun _ => none, judge_known := fun _ => none, law_next := fun _ => none, law_claim := fun _ => none, law_words_drawn := fun _ => none, law_opposite := fun _ => none, law_extent := fun _ => none, law_so := fun _ => none, law_mixed := fun _ => none, law := fun _ => none }
  | k + 1 => stepF (lvl k)
end PyK77

namespace PyK77
open PySem PySem.Spec L2 PyI
def topS (i : Nat) : Stmt := PySem.Challenge.pw_loregreat_k77_whole_knowing_and_logic.main.body.getD i (.Pass ⟨0, 0, 0, 0⟩)
abbrev t_extent : Stmt := topS 7
abbrev n_extent : List Str := ["claim"]
theorem sc_extent : FnScope n_extent ["claim"] (defScope t_extent) := ⟨rfl, rfl, rfl, by decide +kernel, rfl, by decide +kernel, by decide +kernel⟩
abbrev t_reduced : Stmt := topS 8
abbrev n_reduced : List Str := ["claim", "_", "said", "after"]
theorem sc_reduced : FnScope n_reduced ["claim"] (defScope t_reduced) := ⟨rfl, rfl, rfl, by decide +kernel, rfl, by decide +kernel, by decide +kernel⟩
abbrev t_is_view : Stmt := topS 9
abbrev n_is_view : List Str := ["view", "tall", "way", "part", "word"]
theorem sc_is_view : FnScope n_is_view ["view", "tall"] (defScope t_is_view) := ⟨rfl, rfl, rfl, by decide +kernel, rfl, by decide +kernel, by decide +kernel⟩
abbrev t_is_so : Stmt := topS 10
abbrev n_is_so : List Str := ["view", "claim", "told", "word", "one", "others", "who", "other"]
theorem sc_is_so : FnScope n_is_so ["view", "claim", "told"] (defScope t_is_so) := ⟨rfl, rfl, rfl, by decide +kernel, rfl, by decide +kernel, by decide +kernel⟩
abbrev t_is_left : Stmt := topS 11
abbrev n_is_left : List Str := ["view", "told", "place"]
theorem sc_is_left : FnScope n_is_left ["view", "told"] (defScope t_is_left) := ⟨rfl, rfl, rfl, by decide +kernel, rfl, by decide +kernel, by decide +kernel⟩
abbrev t_added : Stmt := topS 12
abbrev n_added : List Str := ["claims", "more", "found", "claim"]
theorem sc_added : FnScope n_added ["claims", "more"] (defScope t_added) := ⟨rfl, rfl, rfl, by decide +kernel, rfl, by decide +kernel, by decide +kernel⟩
abbrev t_premises : Stmt := topS 13
abbrev n_premises : List Str := ["rule", "claim", "left", "right", "word", "one", "other", "known", "each"]
theorem sc_premises : FnScope n_premises ["rule", "claim", "left", "right"] (defScope t_premises) := ⟨rfl, rfl, rfl, by decide +kernel, rfl, by decide +kernel, by decide +kernel⟩
abbrev t_is_shown : Stmt := topS 14
abbrev n_is_shown : List Str := ["left", "right", "proof", "tall", "rule", "claim", "due", "one", "other", "part"]
theorem sc_is_shown : FnScope n_is_shown ["left", "right", "proof", "tall"] (defScope t_is_shown) := ⟨rfl, rfl, rfl, by decide +kernel, rfl, by decide +kernel, by decide +kernel⟩
abbrev t_shown : Stmt := topS 15
abbrev n_shown : List Str := ["left", "right", "claim", "rule", "claims", "ways", "told", "due"]
theorem sc_shown : FnScope n_shown ["left", "right"] (defScope t_shown) := ⟨rfl, rfl, rfl, by decide +kernel, rfl, by decide +kernel, by decide +kernel⟩
abbrev t_parted : Stmt := topS 16
abbrev n_parted : List Str := ["rule", "claim", "due", "proofs", "left", "right", "told"]
theorem sc_parted : FnScope n_parted ["rule", "claim", "due"] (defScope t_parted) := ⟨rfl, rfl, rfl, by decide +kernel, rfl, by decide +kernel, by decide +kernel⟩
abbrev t_known : Stmt := topS 17
abbrev n_known : List Str := ["notes", "claim", "left", "told", "name", "note"]
theorem sc_known : FnScope n_known ["notes", "claim"] (defScope t_known) := ⟨rfl, rfl, rfl, by decide +kernel, rfl, by decide +kernel, by decide +kernel⟩
abbrev t_judge_known : Stmt := topS 18
abbrev n_judge_known : List Str := ["notes", "claim", "told", "note", "name"]
theorem sc_judge_known : FnScope n_judge_known ["notes", "claim", "told"] (defScope t_judge_known) := ⟨rfl, rfl, rfl, by decide +kernel, rfl, by decide +kernel, by decide +kernel⟩
abbrev t_law_next : Stmt := topS 20
abbrev n_law_next : List Str := ["state", "limit", "cell", "value"]
theorem sc_law_next : FnScope n_law_next ["state", "limit"] (defScope t_law_next) := ⟨rfl, rfl, rfl, by decide +kernel, rfl, by decide +kernel, by decide +kernel⟩
abbrev t_law_claim : Stmt := topS 22
abbrev n_law_claim : List Str := ["state", "words", "depth", "pick", "first"]
theorem sc_law_claim : FnScope n_law_claim ["state", "words", "depth"] (defScope t_law_claim) := ⟨rfl, rfl, rfl, by decide +kernel, rfl, by decide +kernel, by decide +kernel⟩
abbrev t_law_words_drawn : Stmt := topS 23
abbrev n_law_words_drawn : List Str := ["state", "count", "found", "k", "word"]
theorem sc_law_words_drawn : FnScope n_law_words_drawn ["state", "count"] (defScope t_law_words_drawn) := ⟨rfl, rfl, rfl, by decide +kernel, rfl, by decide +kernel, by decide +kernel⟩
abbrev t_law_opposite : Stmt := topS 24
abbrev n_law_opposite : List Str := ["claim"]
theorem sc_law_opposite : FnScope n_law_opposite ["claim"] (defScope t_law_opposite) := ⟨rfl, rfl, rfl, by decide +kernel, rfl, by decide +kernel, by decide +kernel⟩
abbrev t_law_extent : Stmt := topS 25
abbrev n_law_extent : List Str := ["claim", "part"]
theorem sc_law_extent : FnScope n_law_extent ["claim"] (defScope t_law_extent) := ⟨rfl, rfl, rfl, by decide +kernel, rfl, by decide +kernel, by decide +kernel⟩
abbrev t_law_so : Stmt := topS 26
abbrev n_law_so : List Str := ["notes", "claim", "told", "note"]
theorem sc_law_so : FnScope n_law_so ["notes", "claim"] (defScope t_law_so) := ⟨rfl, rfl, rfl, by decide +kernel, rfl, by decide +kernel, by decide +kernel⟩
abbrev t_law_mixed : Stmt := topS 27
abbrev n_law_mixed : List Str := ["state", "words", "depth", "pick"]
theorem sc_law_mixed : FnScope n_law_mixed ["state", "words", "depth"] (defScope t_law_mixed) := ⟨rfl, rfl, rfl, by decide +kernel, rfl, by decide +kernel, by decide +kernel⟩
abbrev t_law : Stmt := topS 28
abbrev n_law : List Str := ["script", "state", "words", "one", "other", "who", "knows", "both", "plain", "more", "end", "twice", "once", "asks", "ask"]
theorem sc_law : FnScope n_law ["script"] (defScope t_law) := ⟨rfl, rfl, rfl, by decide +kernel, rfl, by decide +kernel, by decide +kernel⟩
theorem bt_dict : bootBuiltins "dict" = some (.type "dict") := by decide +kernel
theorem bt_int : bootBuiltins "int" = some (.type "int") := by decide +kernel
theorem bt_isinstance : bootBuiltins "isinstance" = some (.builtin "isinstance") := by decide +kernel
theorem bt_len : bootBuiltins "len" = some (.builtin "len") := by decide +kernel
theorem bt_list : bootBuiltins "list" = some (.type "list") := by decide +kernel
theorem bt_set : bootBuiltins "set" = some (.type "set") := by decide +kernel
theorem bt_sorted : bootBuiltins "sorted" = some (.builtin "sorted") := by decide +kernel
theorem bt_str : bootBuiltins "str" = some (.type "str") := by decide +kernel
theorem bt_sum : bootBuiltins "sum" = some (.builtin "sum") := by decide +kernel
theorem bt_tuple : bootBuiltins "tuple" = some (.type "tuple") := by decide +kernel
/-- what the module holds beside the defs -/
structure Wh (K : PySem.W.Frag) (mg : Str → Option Value) : Prop where
  n_dict : mg "dict" = none
  n_int : mg "int" = none
  n_isinstance : mg "isinstance" = none
  n_len : mg "len" = none
  n_list : mg "list" = none
  n_range : mg "range" = none
  n_set : mg "set" = none
  n_sorted : mg "sorted" = none
  n_str : mg "str" = none
  n_sum : mg "sum" = none
  n_tuple : mg "tuple" = none
  n_zip : mg "zip" = none
  k_str : Kit K "str"
  k_tuple : Kit K "tuple"
  c_MOST_KNOWN : ConstI mg "MOST_KNOWN" 24
  c_NONE : ConstT K mg "NONE" ["none"]
structure OkF (P : Program) (w : World) (K : PySem.W.Frag) (mg : Str → Option Value) (base : Heap) (k : Nat) (R : Fns) : Prop where
  extent : Cl P w K mg base k "extent" R.extent
  reduced : Cl P w K mg base k "reduced" R.reduced
  is_view : Cl P w K mg base k "is_view" R.is_view
  is_view_D : ClD P w K mg base k "is_view" dd_is_view R.is_view
  is_so : Cl P w K mg base k "is_so" R.is_so
  is_so_D : ClD P w K mg base k "is_so" dd_is_so R.is_so
  is_left : Cl P w K mg base k "is_left" R.is_left
  added : Cl P w K mg base k "added" R.added
  premises : Cl P w K mg base k "premises" R.premises
  is_shown : Cl P w K mg base k "is_shown" R.is_shown
  is_shown_D : ClD P w K mg base k "is_shown" dd_is_shown R.is_shown
  shown : Cl P w K mg base k "shown" R.shown
  parted : Cl P w K mg base k "parted" R.parted
  known : Cl P w K mg base k "known" R.known
  judge_known : Cl P w K mg base k "judge_known" R.judge_known
  law_next : Cl P w K mg base k "_law_next" R.law_next
  law_claim : Cl P w K mg base k "_law_claim" R.law_claim
  law_words_drawn : Cl P w K mg base k "_law_words_drawn" R.law_words_drawn
  law_opposite : Cl P w K mg base k "_law_opposite" R.law_opposite
  law_extent : Cl P w K mg base k "_law_extent" R.law_extent
  law_so : Cl P w K mg base k "_law_so" R.law_so
  law_mixed : Cl P w K mg base k "_law_mixed" R.law_mixed
  law : Cl P w K mg base k "law" R.law
section
variable {P : Program} {w : World} {K : PySem.W.Frag} {mg : Str → Option Value} {base : Heap} {k : Nat} {R : Fns} {f : Addr} {fd : FuncData}
theorem ok_extent (W : Wh K mg) (O : OkF P w K mg base k R) (F : Fun K "extent" "extent" t_extent f fd) : FnOk P w K mg base CX0 (k + 1) f fd ["claim"] (spI K (runF 1 1 (m_extent R))) := fnI_ok F sc_extent fun cdv A outer s H E hr => by
  have NN := sc_extent.nd
  exact (bd_cons (sd_if (td_cmp (o_inA hr.units) (pd_ix (ix_data hr.units) (pd_v 0) pd_int) (pd_tup (ad_cons pd_str (ad_cons pd_str ad_nil)))) (bd_one (sd_ret pd_int)) bd_nil)
    (bd_cons (sd_if (td_cmp (o_eq hr.units) (pd_ix (ix_data hr.units) (pd_v 0) pd_int) pd_str) (bd_one (sd_ret (pd_bin o_add pd_int (pd_call O.extent hr (by rfl) (ad_cons (pd_ix (ix_data hr.units) (pd_v 0) pd_int) ad_nil))))) bd_nil)
    (bd_one (sd_ret (pd_bin o_add (pd_bin o_add pd_int (pd_call O.extent hr (by rfl) (ad_cons (pd_ix (ix_data hr.units) (pd_v 0) pd_int) ad_nil))) (pd_call O.extent hr (by rfl) (ad_cons (pd_ix (ix_data hr.units) (pd_v 0) pd_int) ad_nil)))))))
theorem ok_reduced (W : Wh K mg) (O : OkF P w K mg base k R) (F : Fun K "reduced" "reduced" t_reduced f fd) : FnOk P w K mg base CX0 (k + 1) f fd ["claim"] (spI K (runF 1 4 (m_reduced R))) := fnI_ok F sc_reduced fun cdv A outer s H E hr => by
  have NN := sc_reduced.nd
  exact (bd_cons (sd_unp (pd_v 0) (gd_tup 3 rfl (gds_cons (gd_name 1 NN) (gds_cons (gd_name 2 NN) (gds_cons (gd_name 3 NN) gds_nil))) (gsC_len (gsC_len (gsC_len gsN_len)))))
    (bd_cons (sd_if (td_cmp (o_inA hr.units) (pd_ix (ix_data hr.units) (pd_v 3) pd_int) (pd_tup (ad_cons pd_str (ad_cons pd_str ad_nil)))) (bd_one (sd_ret (pd_tup (ad_cons pd_str (ad_cons (pd_v 2) (ad_cons (pd_v 3) ad_nil)))))) bd_nil)
    (bd_cons (sd_if (td_cmp (o_eq hr.units) (pd_ix (ix_data hr.units) (pd_v 3) pd_int) pd_str) (bd_one (sd_ret (pd_tup (ad_cons pd_str (ad_cons (pd_v 2) (ad_cons (pd_tup (ad_cons pd_str (ad_cons (pd_ix (ix_data hr.units) (pd_v 3) pd_int) (ad_cons (pd_tup (ad_cons pd_str (ad_cons (pd_v 2) (ad_cons (pd_ix (ix_data hr.units) (pd_v 3) pd_int) ad_nil)))) ad_nil)))) ad_nil)))))) bd_nil)
    (bd_cons (sd_if (td_cmp (o_eq hr.units) (pd_ix (ix_data hr.units) (pd_v 3) pd_int) pd_str) (bd_one (sd_ret (pd_tup (ad_cons pd_str (ad_cons (pd_tup (ad_cons pd_str (ad_cons (pd_v 2) (ad_cons (pd_tup (ad_cons pd_str (ad_cons (pd_v 2) (ad_cons (pd_ix (ix_data hr.units) (pd_v 3) pd_int) ad_nil)))) ad_nil)))) (ad_cons (pd_ix (ix_data hr.units) (pd_v 3) pd_int) ad_nil)))))) bd_nil)
    (bd_one (sd_ret (pd_tup (ad_cons (pd_ix (ix_data hr.units) (pd_v 3) pd_int) (ad_cons (pd_tup (ad_cons pd_str (ad_cons (pd_v 2) (ad_cons (pd_ix (ix_data hr.units) (pd_v 3) pd_int) ad_nil)))) (ad_cons (pd_tup (ad_cons pd_str (ad_cons (pd_v 2) (ad_cons (pd_ix (ix_data hr.units) (pd_v 3) pd_int) ad_nil)))) ad_nil))))))))))
theorem ok_is_view {dvs : List V} (W : Wh K mg) (O : OkF P w K mg base k R) (F : FunE K "is_view" "is_view" t_is_view dvs f fd) : FnOk P w K mg base CX0 (k + 1) f fd ["view", "tall"] (spI K (runF 2 5 (m_is_view R))) := fnI_okD F sc_is_view fun cdv A outer s H E hr => by
  have NN := sc_is_view.nd
  exact (bd_cons (sd_if (td_w (wd_or (td_not (td_val (pd_isi W.k_tuple (pd_v 0) (by rfl) W.n_isinstance (by rfl) W.n_tuple bt_isinstance bt_tuple))) (wd_or (td_cmp (o_ne hr.units) (pd_callB b_len (by rfl) W.n_len bt_len (ad_cons (pd_v 0) ad_nil)) pd_int) (wd_or1 (td_cmp (o_inA hr.units) pd_bl (pd_lc [("part", 3)] rfl NN (id_seq (pd_v 0)) (blk_ok n_is_view (defScope t_is_view) (by decide +kernel)) rfl (fun _ _ _ _ _ => (gd_name 3 NN)) (fun _ _ _ _ _ => tsd_nil) (fun _ _ _ _ _ => (pd_isi W.k_tuple (pd_v 3) (by rfl) W.n_isinstance (by rfl) W.n_tuple bt_isinstance bt_tuple)))))))) (bd_one (sd_ret pd_bl)) bd_nil)
    (bd_cons (sd_if (td_w (wd_or (td_cmp (o_eq hr.units) (pd_v 1) pd_int) (wd_or (td_cmp (o_inA hr.units) pd_bl (pd_lc [("word", 4)] rfl NN (id_seq (pd_ix (ix_data hr.units) (pd_v 0) pd_int)) (blk_ok n_is_view (defScope t_is_view) (by decide +kernel)) rfl (fun _ _ _ _ _ => (gd_name 4 NN)) (fun _ _ _ _ _ => tsd_nil) (fun _ _ _ _ _ => (pd_isi W.k_str (pd_v 4) (by rfl) W.n_isinstance (by rfl) W.n_str bt_isinstance bt_str)))) (wd_or1 (td_cmp (o_ne hr.units) (pd_callTy (b_listA rfl) (by rfl) W.n_list bt_list (ad_cons (pd_ix (ix_data hr.units) (pd_v 0) pd_int) ad_nil)) (pd_soSetT rfl (by rfl) W.n_sorted bt_sorted (by rfl) W.n_set bt_set (pd_ix (ix_data hr.units) (pd_v 0) pd_int))))))) (bd_one (sd_ret pd_bl)) bd_nil)
    (bd_cons (sd_for rfl (id_seq (pd_ix (ix_data hr.units) (pd_v 0) pd_int)) (gd_name 2 NN) (bd_one (sd_if (td_w (wd_or (td_not (td_val (pd_isi W.k_tuple (pd_v 2) (by rfl) W.n_isinstance (by rfl) W.n_tuple bt_isinstance bt_tuple))) (wd_or (td_cmp (o_ne hr.units) (pd_callB b_len (by rfl) W.n_len bt_len (ad_cons (pd_v 2) ad_nil)) pd_int) (wd_or (td_not (td_val (pd_isi W.k_str (pd_ix (ix_data hr.units) (pd_v 2) pd_int) (by rfl) W.n_isinstance (by rfl) W.n_str bt_isinstance bt_str))) (wd_or1 (td_not (td_val (pd_call O.is_view hr (by rfl) (ad_cons (pd_ix (ix_data hr.units) (pd_v 2) pd_int) (ad_cons (pd_bin o_sub (pd_v 1) pd_int) ad_nil)))))))))) (bd_one (sd_ret pd_bl)) bd_nil)))
    (bd_one (sd_ret pd_bl)))))
theorem ok_is_so {dvs : List V} (W : Wh K mg) (O : OkF P w K mg base k R) (F : FunE K "is_so" "is_so" t_is_so dvs f fd) : FnOk P w K mg base CX0 (k + 1) f fd ["view", "claim", "told"] (spI K (runF 3 8 (m_is_so R))) := fnI_okD F sc_is_so fun cdv A outer s H E hr => by
  have NN := sc_is_so.nd
  exact (bd_cons (sd_set 3 NN (pd_ix (ix_data hr.units) (pd_v 1) pd_int))
    (bd_cons (sd_if (td_cmp (o_eq hr.units) (pd_v 3) pd_str) (bd_one (sd_ret (pd_cmp (o_inA hr.units) (pd_ix (ix_data hr.units) (pd_v 1) pd_int) (pd_ix (ix_data hr.units) (pd_v 0) pd_int)))) bd_nil)
    (bd_cons (sd_if (td_cmp (o_eq hr.units) (pd_v 3) pd_str) (bd_one (sd_ret pd_bl)) bd_nil)
    (bd_cons (sd_if (td_cmp (o_eq hr.units) (pd_v 3) pd_str) (bd_cons (sd_set 5 NN (pd_bin o_add (pd_lst (ad_cons (pd_v 0) ad_nil)) (pd_lc [("who", 6), ("other", 7)] rfl NN (id_seq (pd_ix (ix_data hr.units) (pd_v 0) pd_int)) (blk_ok n_is_so (defScope t_is_so) (by decide +kernel)) rfl (fun _ _ _ _ _ => (gd_tup 2 rfl (gds_cons (gd_name 6 NN) (gds_cons (gd_name 7 NN) gds_nil)) (gsC_len (gsC_len gsN_len)))) (fun _ _ _ _ _ => (tsd_one (td_cmp (o_eq hr.units) (pd_v 6) (pd_ix (ix_data hr.units) (pd_v 1) pd_int)))) (fun _ _ _ _ _ => (pd_v 7)))))
    (bd_one (sd_ret (pd_cmp (o_notInA hr.units) pd_bl (pd_lc [("other", 7)] rfl NN (id_seq (pd_v 5)) (blk_ok n_is_so (defScope t_is_so) (by decide +kernel)) rfl (fun _ _ _ _ _ => (gd_name 7 NN)) (fun _ _ _ _ _ => (tsd_one (td_val (pd_call O.is_left hr (by rfl) (ad_cons (pd_v 7) (ad_cons (pd_v 2) ad_nil)))))) (fun _ _ _ _ _ => (pd_call O.is_so hr (by rfl) (ad_cons (pd_v 7) (ad_cons (pd_ix (ix_data hr.units) (pd_v 1) pd_int) (ad_cons (pd_v 2) ad_nil)))))))))) bd_nil)
    (bd_cons (sd_set 4 NN (pd_call O.is_so hr (by rfl) (ad_cons (pd_v 0) (ad_cons (pd_ix (ix_data hr.units) (pd_v 1) pd_int) (ad_cons (pd_v 2) ad_nil)))))
    (bd_cons (sd_if (td_cmp (o_eq hr.units) (pd_v 3) pd_str) (bd_one (sd_ret (pd_or (pd_not (pd_v 4)) (pd_one (pd_call O.is_so hr (by rfl) (ad_cons (pd_v 0) (ad_cons (pd_ix (ix_data hr.units) (pd_v 1) pd_int) (ad_cons (pd_bin o_add (pd_v 2) (pd_tup (ad_cons (pd_ix (ix_data hr.units) (pd_v 1) pd_int) ad_nil))) ad_nil)))))))) bd_nil)
    (bd_cons (sd_if (td_cmp (o_eq hr.units) (pd_v 3) pd_str) (bd_one (sd_ret (pd_and (pd_v 4) (pd_one (pd_call O.is_so hr (by rfl) (ad_cons (pd_v 0) (ad_cons (pd_ix (ix_data hr.units) (pd_v 1) pd_int) (ad_cons (pd_v 2) ad_nil)))))))) bd_nil)
    (bd_cons (sd_if (td_cmp (o_eq hr.units) (pd_v 3) pd_str) (bd_one (sd_ret (pd_or (pd_v 4) (pd_one (pd_call O.is_so hr (by rfl) (ad_cons (pd_v 0) (ad_cons (pd_ix (ix_data hr.units) (pd_v 1) pd_int) (ad_cons (pd_v 2) ad_nil)))))))) bd_nil)
    (bd_one (sd_ret (pd_or (pd_not (pd_v 4)) (pd_one (pd_call O.is_so hr (by rfl) (ad_cons (pd_v 0) (ad_cons (pd_ix (ix_data hr.units) (pd_v 1) pd_int) (ad_cons (pd_v 2) ad_nil))))))))))))))))
theorem ok_is_left (W : Wh K mg) (O : OkF P w K mg base k R) (F : Fun K "is_left" "is_left" t_is_left f fd) : FnOk P w K mg base CX0 (k + 1) f fd ["view", "told"] (spI K (runF 2 3 (m_is_left R))) := fnI_ok F sc_is_left fun cdv A outer s H E hr => by
  have NN := sc_is_left.nd
  exact (bd_one (sd_ret (pd_cmp (o_notInA hr.units) pd_bl (pd_lc [("place", 2)] rfl NN (id_range1 (by rfl) W.n_range (pd_callB b_len (by rfl) W.n_len bt_len (ad_cons (pd_v 1) ad_nil))) (blk_ok n_is_left (defScope t_is_left) (by decide +kernel)) rfl (fun _ _ _ _ _ => (gd_name 2 NN)) (fun _ _ _ _ _ => tsd_nil) (fun _ _ _ _ _ => (pd_call O.is_so hr (by rfl) (ad_cons (pd_v 0) (ad_cons (pd_ix (ix_data hr.units) (pd_v 1) (pd_v 2)) (ad_cons (pd_sl (pd_v 1) od_none (od_some (pd_v 2))) ad_nil)))))))))
theorem ok_added (W : Wh K mg) (O : OkF P w K mg base k R) (F : Fun K "added" "added" t_added f fd) : FnOk P w K mg base CX0 (k + 1) f fd ["claims", "more"] (spI K (runF 2 4 (m_added R))) := fnI_ok F sc_added fun cdv A outer s H E hr => by
  have NN := sc_added.nd
  exact (bd_cons (sd_set 2 NN (pd_callTy (b_listA rfl) (by rfl) W.n_list bt_list (ad_cons (pd_v 0) ad_nil)))
    (bd_cons (sd_for rfl (id_seq (pd_v 1)) (gd_name 3 NN) (bd_one (sd_if (td_cmp (o_notInA hr.units) (pd_v 3) (pd_v 2)) (bd_one (sd_expr (pd_mut 2 PySem.F.plainAttrs_list PySem.F.slot_list_append PySem.F.type_list_append mt_append md_append (ad_cons (pd_v 3) ad_nil)))) bd_nil)))
    (bd_one (sd_ret (pd_callTy b_tuple (by rfl) W.n_tuple bt_tuple (ad_cons (pd_v 2) ad_nil))))))
theorem ok_premises (W : Wh K mg) (O : OkF P w K mg base k R) (F : Fun K "premises" "premises" t_premises f fd) : FnOk P w K mg base CX0 (k + 1) f fd ["rule", "claim", "left", "right"] (spI K (runF 4 9 (m_premises R))) := fnI_ok F sc_premises fun cdv A outer s H E hr => by
  have NN := sc_premises.nd
  exact (bd_cons (sd_unp (pd_sl (pd_bin o_add (pd_v 1) (pd_tup (ad_cons pd_non (ad_cons pd_non ad_nil)))) od_none (od_some pd_int)) (gd_tup 3 rfl (gds_cons (gd_name 4 NN) (gds_cons (gd_name 5 NN) (gds_cons (gd_name 6 NN) gds_nil))) (gsC_len (gsC_len (gsC_len gsN_len)))))
    (bd_cons (sd_if (td_cmp (o_eq hr.units) (pd_v 0) pd_str) (bd_cons (sd_if (td_cmp (o_eq hr.units) (pd_v 4) pd_str) (bd_one (sd_ret (pd_lst (ad_cons (pd_tup (ad_cons (pd_call O.added hr (by rfl) (ad_cons (pd_v 2) (ad_cons (pd_lst (ad_cons (pd_v 6) ad_nil)) ad_nil))) (ad_cons (pd_v 3) ad_nil))) ad_nil)))) bd_nil)
    (bd_cons (sd_if (td_cmp (o_eq hr.units) (pd_v 4) pd_str) (bd_one (sd_ret (pd_lst (ad_cons (pd_tup (ad_cons (pd_call O.added hr (by rfl) (ad_cons (pd_v 2) (ad_cons (pd_lst (ad_cons (pd_call O.reduced hr (by rfl) (ad_cons (pd_v 1) ad_nil)) ad_nil)) ad_nil))) (ad_cons (pd_v 3) ad_nil))) ad_nil)))) bd_nil)
    (bd_cons (sd_if (td_cmp (o_eq hr.units) (pd_v 4) pd_str) (bd_one (sd_ret (pd_lst (ad_cons (pd_tup (ad_cons (pd_call O.added hr (by rfl) (ad_cons (pd_v 2) (ad_cons (pd_lst (ad_cons (pd_v 5) (ad_cons (pd_v 6) ad_nil))) ad_nil))) (ad_cons (pd_v 3) ad_nil))) ad_nil)))) bd_nil)
    (bd_cons (sd_if (td_cmp (o_eq hr.units) (pd_v 4) pd_str) (bd_one (sd_ret (pd_lst (ad_cons (pd_tup (ad_cons (pd_call O.added hr (by rfl) (ad_cons (pd_v 2) (ad_cons (pd_lst (ad_cons (pd_v 5) ad_nil)) ad_nil))) (ad_cons (pd_v 3) ad_nil))) (ad_cons (pd_tup (ad_cons (pd_call O.added hr (by rfl) (ad_cons (pd_v 2) (ad_cons (pd_lst (ad_cons (pd_v 6) ad_nil)) ad_nil))) (ad_cons (pd_v 3) ad_nil))) ad_nil))))) bd_nil)
    (bd_one (sd_ret (pd_lst (ad_cons (pd_tup (ad_cons (pd_v 2) (ad_cons (pd_call O.added hr (by rfl) (ad_cons (pd_v 3) (ad_cons (pd_lst (ad_cons (pd_v 5) ad_nil)) ad_nil))) ad_nil))) (ad_cons (pd_tup (ad_cons (pd_call O.added hr (by rfl) (ad_cons (pd_v 2) (ad_cons (pd_lst (ad_cons (pd_v 6) ad_nil)) ad_nil))) (ad_cons (pd_v 3) ad_nil))) ad_nil))))))))) bd_nil)
    (bd_cons (sd_if (td_cmp (o_eq hr.units) (pd_v 4) pd_str) (bd_cons (sd_setLc 7 [("each", 8)] rfl NN (id_seq (pd_v 2)) (blk_ok n_premises (defScope t_premises) (by decide +kernel)) rfl (fun _ _ _ _ _ => (gd_name 8 NN)) (fun _ _ _ _ _ => (tsd_one (td_w (wd_and (td_cmp (o_eq hr.units) (pd_ix (ix_data hr.units) (pd_v 8) pd_int) pd_str) (wd_and1 (td_cmp (o_eq hr.units) (pd_ix (ix_data hr.units) (pd_v 8) pd_int) (pd_v 5))))))) (fun _ _ _ _ _ => (pd_ix (ix_data hr.units) (pd_v 8) pd_int)) (by rfl))
    (bd_one (sd_ret (pd_lst (ad_cons (pd_tup (ad_cons (pd_call O.added hr (by rfl) (ad_cons (pd_tup ad_nil) (ad_cons (pd_v 7) ad_nil))) (ad_cons (pd_tup (ad_cons (pd_v 6) ad_nil)) ad_nil))) ad_nil))))) bd_nil)
    (bd_cons (sd_if (td_cmp (o_eq hr.units) (pd_v 4) pd_str) (bd_one (sd_ret (pd_lst (ad_cons (pd_tup (ad_cons (pd_v 2) (ad_cons (pd_call O.added hr (by rfl) (ad_cons (pd_v 3) (ad_cons (pd_lst (ad_cons (pd_call O.reduced hr (by rfl) (ad_cons (pd_v 1) ad_nil)) ad_nil)) ad_nil))) ad_nil))) ad_nil)))) bd_nil)
    (bd_cons (sd_if (td_cmp (o_eq hr.units) (pd_v 4) pd_str) (bd_one (sd_ret (pd_lst (ad_cons (pd_tup (ad_cons (pd_v 2) (ad_cons (pd_call O.added hr (by rfl) (ad_cons (pd_v 3) (ad_cons (pd_lst (ad_cons (pd_v 5) ad_nil)) ad_nil))) ad_nil))) (ad_cons (pd_tup (ad_cons (pd_v 2) (ad_cons (pd_call O.added hr (by rfl) (ad_cons (pd_v 3) (ad_cons (pd_lst (ad_cons (pd_v 6) ad_nil)) ad_nil))) ad_nil))) ad_nil))))) bd_nil)
    (bd_cons (sd_if (td_cmp (o_eq hr.units) (pd_v 4) pd_str) (bd_one (sd_ret (pd_lst (ad_cons (pd_tup (ad_cons (pd_v 2) (ad_cons (pd_call O.added hr (by rfl) (ad_cons (pd_v 3) (ad_cons (pd_lst (ad_cons (pd_v 5) (ad_cons (pd_v 6) ad_nil))) ad_nil))) ad_nil))) ad_nil)))) bd_nil)
    (bd_one (sd_ret (pd_lst (ad_cons (pd_tup (ad_cons (pd_call O.added hr (by rfl) (ad_cons (pd_v 2) (ad_cons (pd_lst (ad_cons (pd_v 5) ad_nil)) ad_nil))) (ad_cons (pd_call O.added hr (by rfl) (ad_cons (pd_v 3) (ad_cons (pd_lst (ad_cons (pd_v 6) ad_nil)) ad_nil))) ad_nil))) ad_nil))))))))))
theorem ok_is_shown {dvs : List V} (W : Wh K mg) (O : OkF P w K mg base k R) (F : FunE K "is_shown" "is_shown" t_is_shown dvs f fd) : FnOk P w K mg base CX0 (k + 1) f fd ["left", "right", "proof", "tall"] (spI K (runF 4 10 (m_is_shown R))) := fnI_okD F sc_is_shown fun cdv A outer s H E hr => by
  have NN := sc_is_shown.nd
  exact (bd_cons (sd_if (td_w (wd_or (td_not (td_val (pd_isi W.k_tuple (pd_v 2) (by rfl) W.n_isinstance (by rfl) W.n_tuple bt_isinstance bt_tuple))) (wd_or (td_cmp o_lt (pd_callB b_len (by rfl) W.n_len bt_len (ad_cons (pd_v 2) ad_nil)) pd_int) (wd_or1 (td_cmp (o_eq hr.units) (pd_v 3) pd_int))))) (bd_one (sd_ret pd_bl)) bd_nil)
    (bd_cons (sd_unp (pd_sl (pd_v 2) od_none (od_some pd_int)) (gd_tup 2 rfl (gds_cons (gd_name 4 NN) (gds_cons (gd_name 5 NN) gds_nil)) (gsC_len (gsC_len gsN_len))))
    (bd_cons (sd_if (td_cmp (o_eq hr.units) (pd_v 4) pd_str) (bd_one (sd_ret (pd_and (pd_cmp (o_eq hr.units) (pd_callB b_len (by rfl) W.n_len bt_len (ad_cons (pd_v 2) ad_nil)) pd_int) (pd_and (pd_cmp (o_inA hr.units) (pd_v 5) (pd_v 0)) (pd_one (pd_or (pd_cmp (o_inA hr.units) (pd_v 5) (pd_v 1)) (pd_one (pd_cmp (o_eq hr.units) (pd_v 5) (pd_gc W.c_NONE (by rfl)))))))))) bd_nil)
    (bd_cons (sd_if (td_w (wd_or (td_cmp (o_notInA hr.units) (pd_v 4) (pd_tup (ad_cons pd_str (ad_cons pd_str ad_nil)))) (wd_or1 (td_cmp (o_notInA hr.units) (pd_v 5) (pd_if (td_cmp (o_eq hr.units) (pd_v 4) pd_str) (pd_v 0) (pd_v 1)))))) (bd_one (sd_ret pd_bl)) bd_nil)
    (bd_cons (sd_if (td_cmp (o_inA hr.units) (pd_ix (ix_data hr.units) (pd_v 5) pd_int) (pd_tup (ad_cons pd_str (ad_cons pd_str ad_nil)))) (bd_one (sd_ret pd_bl)) bd_nil)
    (bd_cons (sd_set 6 NN (pd_call O.premises hr (by rfl) (ad_cons (pd_v 4) (ad_cons (pd_v 5) (ad_cons (pd_v 0) (ad_cons (pd_v 1) ad_nil))))))
    (bd_cons (sd_if (td_cmp (o_ne hr.units) (pd_callB b_len (by rfl) W.n_len bt_len (ad_cons (pd_v 2) ad_nil)) (pd_bin o_add pd_int (pd_callB b_len (by rfl) W.n_len bt_len (ad_cons (pd_v 6) ad_nil)))) (bd_one (sd_ret pd_bl)) bd_nil)
    (bd_one (sd_ret (pd_cmp (o_notInA hr.units) pd_bl (pd_lc [("one", 7), ("other", 8), ("part", 9)] rfl NN (id_zipM (by rfl) W.n_zip (ad_cons (pd_v 6) (ad_cons (pd_sl (pd_v 2) (od_some pd_int) od_none) ad_nil))) (blk_ok n_is_shown (defScope t_is_shown) (by decide +kernel)) rfl (fun _ _ _ _ _ => (gd_tup 2 rfl (gds_cons (gd_tup 2 rfl (gds_cons (gd_name 7 NN) (gds_cons (gd_name 8 NN) gds_nil)) (gsC_len (gsC_len gsN_len))) (gds_cons (gd_name 9 NN) gds_nil)) (gsC_len (gsC_len gsN_len)))) (fun _ _ _ _ _ => tsd_nil) (fun _ _ _ _ _ => (pd_call O.is_shown hr (by rfl) (ad_cons (pd_v 7) (ad_cons (pd_v 8) (ad_cons (pd_v 9) (ad_cons (pd_bin o_sub (pd_v 3) pd_int) ad_nil)))))))))))))))))
theorem ok_shown (W : Wh K mg) (O : OkF P w K mg base k R) (F : Fun K "shown" "shown" t_shown f fd) : FnOk P w K mg base CX0 (k + 1) f fd ["left", "right"] (spI K (runF 2 8 (m_shown R))) := fnI_ok F sc_shown fun cdv A outer s H E hr => by
  have NN := sc_shown.nd
  exact (bd_cons (sd_for rfl (id_seq (pd_v 0)) (gd_name 2 NN) (bd_one (sd_if (td_w (wd_or (td_cmp (o_inA hr.units) (pd_v 2) (pd_v 1)) (wd_or1 (td_cmp (o_eq hr.units) (pd_v 2) (pd_gc W.c_NONE (by rfl)))))) (bd_one (sd_ret (pd_tup (ad_cons pd_str (ad_cons (pd_tup (ad_cons pd_str (ad_cons (pd_v 2) ad_nil))) ad_nil))))) bd_nil)))
    (bd_cons (sd_for rfl (id_seq (pd_tup (ad_cons (pd_tup (ad_cons pd_str (ad_cons (pd_v 0) ad_nil))) (ad_cons (pd_tup (ad_cons pd_str (ad_cons (pd_v 1) ad_nil))) ad_nil)))) (gd_tup 2 rfl (gds_cons (gd_name 3 NN) (gds_cons (gd_name 4 NN) gds_nil)) (gsC_len (gsC_len gsN_len))) (bd_one (sd_for rfl (id_seq (pd_v 4)) (gd_name 2 NN) (bd_one (sd_if (td_w (wd_and (td_cmp (o_notInA hr.units) (pd_ix (ix_data hr.units) (pd_v 2) pd_int) (pd_tup (ad_cons pd_str (ad_cons pd_str ad_nil)))) (wd_and1 (td_cmp (o_ne hr.units) (pd_tup (ad_cons (pd_v 3) (ad_cons (pd_ix (ix_data hr.units) (pd_v 2) pd_int) ad_nil))) (pd_tup (ad_cons pd_str (ad_cons pd_str ad_nil))))))) (bd_cons (sd_set 7 NN (pd_call O.premises hr (by rfl) (ad_cons (pd_v 3) (ad_cons (pd_v 2) (ad_cons (pd_v 0) (ad_cons (pd_v 1) ad_nil))))))
    (bd_one (sd_if (td_cmp (o_notInA hr.units) (pd_tup (ad_cons (pd_v 0) (ad_cons (pd_v 1) ad_nil))) (pd_v 7)) (bd_one (sd_ret (pd_call O.parted hr (by rfl) (ad_cons (pd_v 3) (ad_cons (pd_v 2) (ad_cons (pd_v 7) ad_nil)))))) bd_nil))) bd_nil)))))
    (bd_cons (sd_set 5 NN (pd_lst ad_nil))
    (bd_cons (sd_for rfl (id_seq (pd_v 1)) (gd_name 2 NN) (bd_one (sd_if (td_cmp (o_eq hr.units) (pd_ix (ix_data hr.units) (pd_v 2) pd_int) pd_str) (bd_cons (sd_set 6 NN (pd_call O.parted hr (by rfl) (ad_cons pd_str (ad_cons (pd_v 2) (ad_cons (pd_call O.premises hr (by rfl) (ad_cons pd_str (ad_cons (pd_v 2) (ad_cons (pd_v 0) (ad_cons (pd_v 1) ad_nil))))) ad_nil)))))
    (bd_cons (sd_if (td_cmp (o_eq hr.units) (pd_ix (ix_data hr.units) (pd_v 6) pd_int) pd_str) (bd_one (sd_ret (pd_v 6))) bd_nil)
    (bd_one (sd_expr (pd_mut 5 PySem.F.plainAttrs_list PySem.F.slot_list_append PySem.F.type_list_append mt_append md_append (ad_cons (pd_tup (ad_cons (pd_ix (ix_data hr.units) (pd_v 2) pd_int) (ad_cons (pd_ix (ix_data hr.units) (pd_v 6) pd_int) ad_nil))) ad_nil)))))) bd_nil)))
    (bd_one (sd_ret (pd_tup (ad_cons pd_str (ad_cons (pd_tup (ad_cons (pd_callTy b_tuple (by rfl) W.n_tuple bt_tuple (ad_cons (pd_callB (b_sorted rfl) (by rfl) W.n_sorted bt_sorted (ad_cons (pd_lc [("claim", 2)] rfl NN (id_seq (pd_v 0)) (blk_ok n_shown (defScope t_shown) (by decide +kernel)) rfl (fun _ _ _ _ _ => (gd_name 2 NN)) (fun _ _ _ _ _ => (tsd_one (td_cmp (o_eq hr.units) (pd_ix (ix_data hr.units) (pd_v 2) pd_int) pd_str))) (fun _ _ _ _ _ => (pd_ix (ix_data hr.units) (pd_v 2) pd_int))) ad_nil)) ad_nil)) (ad_cons (pd_callTy b_tuple (by rfl) W.n_tuple bt_tuple (ad_cons (pd_v 5) ad_nil)) ad_nil))) ad_nil)))))))))
theorem ok_parted (W : Wh K mg) (O : OkF P w K mg base k R) (F : Fun K "parted" "parted" t_parted f fd) : FnOk P w K mg base CX0 (k + 1) f fd ["rule", "claim", "due"] (spI K (runF 3 7 (m_parted R))) := fnI_ok F sc_parted fun cdv A outer s H E hr => by
  have NN := sc_parted.nd
  exact (bd_cons (sd_set 3 NN (pd_lst ad_nil))
    (bd_cons (sd_for rfl (id_seq (pd_v 2)) (gd_tup 2 rfl (gds_cons (gd_name 4 NN) (gds_cons (gd_name 5 NN) gds_nil)) (gsC_len (gsC_len gsN_len))) (bd_cons (sd_set 6 NN (pd_call O.shown hr (by rfl) (ad_cons (pd_v 4) (ad_cons (pd_v 5) ad_nil))))
    (bd_cons (sd_if (td_cmp (o_eq hr.units) (pd_ix (ix_data hr.units) (pd_v 6) pd_int) pd_str) (bd_one (sd_ret (pd_v 6))) bd_nil)
    (bd_one (sd_expr (pd_mut 3 PySem.F.plainAttrs_list PySem.F.slot_list_append PySem.F.type_list_append mt_append md_append (ad_cons (pd_ix (ix_data hr.units) (pd_v 6) pd_int) ad_nil)))))))
    (bd_one (sd_ret (pd_tup (ad_cons pd_str (ad_cons (pd_bin o_add (pd_tup (ad_cons (pd_v 0) (ad_cons (pd_v 1) ad_nil))) (pd_callTy b_tuple (by rfl) W.n_tuple bt_tuple (ad_cons (pd_v 3) ad_nil))) ad_nil)))))))
theorem ok_known (W : Wh K mg) (O : OkF P w K mg base k R) (F : Fun K "known" "known" t_known f fd) : FnOk P w K mg base CX0 (k + 1) f fd ["notes", "claim"] (spI K (runF 2 6 (m_known R))) := fnI_ok F sc_known fun cdv A outer s H E hr => by
  have NN := sc_known.nd
  exact (bd_cons (sd_set 2 NN (pd_call O.added hr (by rfl) (ad_cons (pd_tup ad_nil) (ad_cons (pd_lc [("name", 4)] rfl NN (id_seq (pd_callB (b_sorted rfl) (by rfl) W.n_sorted bt_sorted (ad_cons (pd_v 0) ad_nil))) (blk_ok n_known (defScope t_known) (by decide +kernel)) rfl (fun _ _ _ _ _ => (gd_name 4 NN)) (fun _ _ _ _ _ => tsd_nil) (fun _ _ _ _ _ => (pd_ix (ix_data hr.units) (pd_v 0) (pd_v 4)))) ad_nil))))
    (bd_cons (sd_if (td_cmp o_gt (pd_bin o_add (pd_callB (b_sum rfl) (by rfl) W.n_sum bt_sum (ad_cons (pd_lc [("note", 5)] rfl NN (id_seq (pd_v 2)) (blk_ok n_known (defScope t_known) (by decide +kernel)) rfl (fun _ _ _ _ _ => (gd_name 5 NN)) (fun _ _ _ _ _ => tsd_nil) (fun _ _ _ _ _ => (pd_call O.extent hr (by rfl) (ad_cons (pd_v 5) ad_nil)))) ad_nil)) (pd_call O.extent hr (by rfl) (ad_cons (pd_v 1) ad_nil))) (pd_gci W.c_MOST_KNOWN (by rfl))) (bd_one sd_fail) bd_nil)
    (bd_cons (sd_set 3 NN (pd_call O.shown hr (by rfl) (ad_cons (pd_v 2) (ad_cons (pd_tup (ad_cons (pd_v 1) ad_nil)) ad_nil))))
    (bd_cons (sd_if (td_not (td_val (pd_call O.judge_known hr (by rfl) (ad_cons (pd_v 0) (ad_cons (pd_v 1) (ad_cons (pd_v 3) ad_nil)))))) (bd_one sd_fail) bd_nil)
    (bd_one (sd_ret (pd_v 3)))))))
theorem ok_judge_known (W : Wh K mg) (O : OkF P w K mg base k R) (F : Fun K "judge_known" "judge_known" t_judge_known f fd) : FnOk P w K mg base CX0 (k + 1) f fd ["notes", "claim", "told"] (spI K (runF 3 5 (m_judge_known R))) := fnI_ok F sc_judge_known fun cdv A outer s H E hr => by
  have NN := sc_judge_known.nd
  exact (bd_cons (sd_if (td_w (wd_or (td_not (td_val (pd_isi W.k_tuple (pd_v 2) (by rfl) W.n_isinstance (by rfl) W.n_tuple bt_isinstance bt_tuple))) (wd_or1 (td_cmp (o_ne hr.units) (pd_callB b_len (by rfl) W.n_len bt_len (ad_cons (pd_v 2) ad_nil)) pd_int)))) (bd_one (sd_ret pd_bl)) bd_nil)
    (bd_cons (sd_if (td_cmp (o_eq hr.units) (pd_ix (ix_data hr.units) (pd_v 2) pd_int) pd_str) (bd_one (sd_ret (pd_callD O.is_shown_D hr (by rfl) (ad_cons (pd_call O.added hr (by rfl) (ad_cons (pd_tup ad_nil) (ad_cons (pd_lc [("name", 4)] rfl NN (id_seq (pd_callB (b_sorted rfl) (by rfl) W.n_sorted bt_sorted (ad_cons (pd_v 0) ad_nil))) (blk_ok n_judge_known (defScope t_judge_known) (by decide +kernel)) rfl (fun _ _ _ _ _ => (gd_name 4 NN)) (fun _ _ _ _ _ => tsd_nil) (fun _ _ _ _ _ => (pd_ix (ix_data hr.units) (pd_v 0) (pd_v 4)))) ad_nil))) (ad_cons (pd_tup (ad_cons (pd_v 1) ad_nil)) (ad_cons (pd_ix (ix_data hr.units) (pd_v 2) pd_int) ad_nil)))))) bd_nil)
    (bd_cons (sd_if (td_w (wd_or (td_cmp (o_ne hr.units) (pd_ix (ix_data hr.units) (pd_v 2) pd_int) pd_str) (wd_or (td_not (td_val (pd_callD O.is_view_D hr (by rfl) (ad_cons (pd_ix (ix_data hr.units) (pd_v 2) pd_int) ad_nil)))) (wd_or1 (td_val (pd_callD O.is_so_D hr (by rfl) (ad_cons (pd_ix (ix_data hr.units) (pd_v 2) pd_int) (ad_cons (pd_v 1) ad_nil)))))))) (bd_one (sd_ret pd_bl)) bd_nil)
    (bd_one (sd_ret (pd_cmp (o_notInA hr.units) pd_bl (pd_lcD [("note", 3)] rfl NN (PI.valsV 0) (blk_ok n_judge_known (defScope t_judge_known) (by decide +kernel)) rfl (fun _ _ _ _ _ => (gd_name 3 NN)) (fun _ _ _ _ _ => tsd_nil) (fun _ _ _ _ _ => (pd_callD O.is_so_D hr (by rfl) (ad_cons (pd_ix (ix_data hr.units) (pd_v 2) pd_int) (ad_cons (pd_v 3) ad_nil)))))))))))
theorem ok_law_next (W : Wh K mg) (O : OkF P w K mg base k R) (F : Fun K "_law_next" "_law_next" t_law_next f fd) : FnOk P w K mg base CX0 (k + 1) f fd ["state", "limit"] (spI K (runF 2 4 (m_law_next R))) := fnI_ok F sc_law_next fun cdv A outer s H E hr => by
  have NN := sc_law_next.nd
  exact (bd_cons (sd_if (td_w (wd_and (td_cmp (o_eq hr.units) (pd_ix (ix_data hr.units) (pd_v 0) pd_int) pd_int) (wd_and1 (td_cmp o_lt (pd_ix (ix_data hr.units) (pd_v 0) pd_int) (pd_callB b_len (by rfl) W.n_len bt_len (ad_cons (pd_ix (ix_data hr.units) (pd_v 0) pd_int) ad_nil)))))) (bd_cons (sd_set 2 NN (pd_ix (ix_data hr.units) (pd_ix (ix_data hr.units) (pd_v 0) pd_int) (pd_ix (ix_data hr.units) (pd_v 0) pd_int)))
    (bd_cons (sd_augS 0 hr.units ip_add pd_int pd_int)
    (bd_one (sd_if (td_cmp o_ge (pd_v 2) (pd_bin o_pow pd_int pd_int)) (bd_one (sd_put 0 hr.units pd_int (pd_v 2))) (bd_one (sd_put 0 hr.units pd_int (pd_bin o_mod (pd_callTy b_int (by rfl) W.n_int bt_int (ad_cons (pd_bin o_add (pd_bin o_add (pd_bin o_mul (pd_ix (ix_data hr.units) (pd_v 0) pd_int) pd_int) (pd_bin o_mod (pd_callTy b_int (by rfl) W.n_int bt_int (ad_cons (pd_v 2) ad_nil)) pd_int)) pd_int) ad_nil)) pd_int))))))) bd_nil)
    (bd_cons (sd_if (td_cmp o_gt (pd_ix (ix_data hr.units) (pd_v 0) pd_int) pd_int) (bd_cons (sd_set 3 NN (pd_bin o_mod (pd_callTy b_int (by rfl) W.n_int bt_int (ad_cons (pd_ix (ix_data hr.units) (pd_v 0) pd_int) ad_nil)) (pd_v 1)))
    (bd_cons (sd_put 0 hr.units pd_int (pd_bin o_fdiv (pd_ix (ix_data hr.units) (pd_v 0) pd_int) (pd_v 1)))
    (bd_one (sd_ret (pd_v 3))))) bd_nil)
    (bd_cons (sd_put 0 hr.units pd_int (pd_bin o_mod (pd_callTy b_int (by rfl) W.n_int bt_int (ad_cons (pd_bin o_add (pd_bin o_mul (pd_ix (ix_data hr.units) (pd_v 0) pd_int) pd_int) pd_int) ad_nil)) pd_int))
    (bd_one (sd_ret (pd_bin o_mod (pd_callTy b_int (by rfl) W.n_int bt_int (ad_cons (pd_bin o_fdiv (pd_ix (ix_data hr.units) (pd_v 0) pd_int) pd_int) ad_nil)) (pd_v 1)))))))
theorem ok_law_claim (W : Wh K mg) (O : OkF P w K mg base k R) (F : Fun K "_law_claim" "_law_claim" t_law_claim f fd) : FnOk P w K mg base CX0 (k + 1) f fd ["state", "words", "depth"] (spI K (runF 3 5 (m_law_claim R))) := fnI_ok F sc_law_claim fun cdv A outer s H E hr => by
  have NN := sc_law_claim.nd
  exact (bd_cons (sd_set 3 NN (pd_callL O.law_next hr (by rfl) (ad_cons (pd_v 0) (ad_cons pd_int ad_nil))))
    (bd_cons (sd_if (td_w (wd_or (td_cmp (o_eq hr.units) (pd_v 2) pd_int) (wd_or1 (td_cmp o_lt (pd_v 3) pd_int)))) (bd_one (sd_ret (pd_if (td_w (wd_or (td_cmp (o_eq hr.units) (pd_callL O.law_next hr (by rfl) (ad_cons (pd_v 0) (ad_cons pd_int ad_nil))) pd_int) (wd_or1 (td_cmp (o_eq hr.units) (pd_v 1) (pd_lst ad_nil))))) (pd_tup (ad_cons pd_str ad_nil)) (pd_tup (ad_cons pd_str (ad_cons (pd_ix (ix_data hr.units) (pd_v 1) (pd_callL O.law_next hr (by rfl) (ad_cons (pd_v 0) (ad_cons (pd_callB b_len (by rfl) W.n_len bt_len (ad_cons (pd_v 1) ad_nil)) ad_nil)))) ad_nil)))))) bd_nil)
    (bd_cons (sd_set 4 NN (pd_callL O.law_claim hr (by rfl) (ad_cons (pd_v 0) (ad_cons (pd_v 1) (ad_cons (pd_bin o_sub (pd_v 2) pd_int) ad_nil)))))
    (bd_cons (sd_if (td_cmp (o_eq hr.units) (pd_v 3) pd_int) (bd_one (sd_ret (pd_tup (ad_cons pd_str (ad_cons (pd_v 4) (ad_cons (pd_tup (ad_cons pd_str ad_nil)) ad_nil)))))) bd_nil)
    (bd_one (sd_ret (pd_tup (ad_cons (pd_ix (ix_data hr.units) (pd_lst (ad_cons pd_str (ad_cons pd_str (ad_cons pd_str (ad_cons pd_str (ad_cons pd_str ad_nil)))))) (pd_bin o_sub (pd_v 3) pd_int)) (ad_cons (pd_v 4) (ad_cons (pd_callL O.law_claim hr (by rfl) (ad_cons (pd_v 0) (ad_cons (pd_v 1) (ad_cons (pd_bin o_sub (pd_v 2) pd_int) ad_nil)))) ad_nil))))))))))
theorem ok_law_words_drawn (W : Wh K mg) (O : OkF P w K mg base k R) (F : Fun K "_law_words_drawn" "_law_words_drawn" t_law_words_drawn f fd) : FnOk P w K mg base CX0 (k + 1) f fd ["state", "count"] (spI K (runF 2 5 (m_law_words_drawn R))) := fnI_ok F sc_law_words_drawn fun cdv A outer s H E hr => by
  have NN := sc_law_words_drawn.nd
  exact (bd_cons (sd_set 2 NN (pd_lst ad_nil))
    (bd_cons (sd_for rfl (id_range1 (by rfl) W.n_range (pd_v 1)) (gd_name 3 NN) (bd_cons (sd_set 4 NN (pd_bin o_add (pd_ix (ix_data hr.units) pd_str (pd_callL O.law_next hr (by rfl) (ad_cons (pd_v 0) (ad_cons pd_int ad_nil)))) (pd_ix (ix_data hr.units) (pd_lst (ad_cons pd_str (ad_cons pd_str (ad_cons pd_str (ad_cons pd_str ad_nil))))) (pd_callL O.law_next hr (by rfl) (ad_cons (pd_v 0) (ad_cons pd_int ad_nil))))))
    (bd_cons (sd_while FUEL (td_cmp (o_inA hr.units) (pd_v 4) (pd_v 2)) (bd_one (sd_set 4 NN (pd_bin o_add (pd_v 4) pd_str))))
    (bd_one (sd_expr (pd_mut 2 PySem.F.plainAttrs_list PySem.F.slot_list_append PySem.F.type_list_append mt_append md_append (ad_cons (pd_v 4) ad_nil)))))))
    (bd_one (sd_ret (pd_v 2)))))
theorem ok_law_opposite (W : Wh K mg) (O : OkF P w K mg base k R) (F : Fun K "_law_opposite" "_law_opposite" t_law_opposite f fd) : FnOk P w K mg base CX0 (k + 1) f fd ["claim"] (spI K (runF 1 1 (m_law_opposite R))) := fnI_ok F sc_law_opposite fun cdv A outer s H E hr => by
  have NN := sc_law_opposite.nd
  exact (bd_one (sd_ret (pd_tup (ad_cons pd_str (ad_cons (pd_v 0) (ad_cons (pd_tup (ad_cons pd_str ad_nil)) ad_nil))))))
theorem ok_law_extent (W : Wh K mg) (O : OkF P w K mg base k R) (F : Fun K "_law_extent" "_law_extent" t_law_extent f fd) : FnOk P w K mg base CX0 (k + 1) f fd ["claim"] (spI K (runF 1 2 (m_law_extent R))) := fnI_ok F sc_law_extent fun cdv A outer s H E hr => by
  have NN := sc_law_extent.nd
  exact (bd_cons (sd_if (td_cmp (o_inA hr.units) (pd_ix (ix_data hr.units) (pd_v 0) pd_int) (pd_lst (ad_cons pd_str (ad_cons pd_str ad_nil)))) (bd_one (sd_ret pd_int)) bd_nil)
    (bd_one (sd_ret (pd_bin o_add pd_int (pd_callB (b_sum rfl) (by rfl) W.n_sum bt_sum (ad_cons (pd_lc [("part", 1)] rfl NN (id_seq (pd_sl (pd_v 0) (od_some pd_int) od_none)) (blk_ok n_law_extent (defScope t_law_extent) (by decide +kernel)) rfl (fun _ _ _ _ _ => (gd_name 1 NN)) (fun _ _ _ _ _ => (tsd_one (td_val (pd_isi W.k_tuple (pd_v 1) (by rfl) W.n_isinstance (by rfl) W.n_tuple bt_isinstance bt_tuple)))) (fun _ _ _ _ _ => (pd_call O.law_extent hr (by rfl) (ad_cons (pd_v 1) ad_nil)))) ad_nil))))))
theorem ok_law_so (W : Wh K mg) (O : OkF P w K mg base k R) (F : Fun K "_law_so" "_law_so" t_law_so f fd) : FnOk P w K mg base CX0 (k + 1) f fd ["notes", "claim"] (spI K (runF 2 4 (m_law_so R))) := fnI_ok F sc_law_so fun cdv A outer s H E hr => by
  have NN := sc_law_so.nd
  exact (bd_cons (sd_if (td_cmp o_gt (pd_bin o_add (pd_callB (b_sum rfl) (by rfl) W.n_sum bt_sum (ad_cons (pd_lcD [("note", 3)] rfl NN (PI.valsV 0) (blk_ok n_law_so (defScope t_law_so) (by decide +kernel)) rfl (fun _ _ _ _ _ => (gd_name 3 NN)) (fun _ _ _ _ _ => tsd_nil) (fun _ _ _ _ _ => (pd_call O.law_extent hr (by rfl) (ad_cons (pd_v 3) ad_nil)))) ad_nil)) (pd_call O.law_extent hr (by rfl) (ad_cons (pd_v 1) ad_nil))) pd_int) (bd_one (sd_ret pd_non)) bd_nil)
    (bd_cons (sd_set 2 NN (pd_call O.known hr (by rfl) (ad_cons (pd_callTy (b_dictP rfl) (by rfl) W.n_dict bt_dict (ad_cons (pd_v 0) ad_nil)) (ad_cons (pd_v 1) ad_nil))))
    (bd_one (sd_ret (pd_and (pd_cmp (o_eq hr.units) (pd_ix (ix_data hr.units) (pd_v 2) pd_int) pd_str) (pd_one (pd_cmp o_isB (pd_call O.judge_known hr (by rfl) (ad_cons (pd_callTy (b_dictP rfl) (by rfl) W.n_dict bt_dict (ad_cons (pd_v 0) ad_nil)) (ad_cons (pd_v 1) (ad_cons (pd_v 2) ad_nil)))) pd_bl)))))))
theorem ok_law_mixed (W : Wh K mg) (O : OkF P w K mg base k R) (F : Fun K "_law_mixed" "_law_mixed" t_law_mixed f fd) : FnOk P w K mg base CX0 (k + 1) f fd ["state", "words", "depth"] (spI K (runF 3 4 (m_law_mixed R))) := fnI_ok F sc_law_mixed fun cdv A outer s H E hr => by
  have NN := sc_law_mixed.nd
  exact (bd_cons (sd_set 3 NN (pd_callL O.law_next hr (by rfl) (ad_cons (pd_v 0) (ad_cons pd_int ad_nil))))
    (bd_cons (sd_if (td_w (wd_or (td_cmp (o_eq hr.units) (pd_v 2) pd_int) (wd_or1 (td_cmp (o_eq hr.units) (pd_v 3) pd_int)))) (bd_one (sd_ret (pd_tup (ad_cons pd_str (ad_cons (pd_ix (ix_data hr.units) (pd_v 1) (pd_callL O.law_next hr (by rfl) (ad_cons (pd_v 0) (ad_cons (pd_callB b_len (by rfl) W.n_len bt_len (ad_cons (pd_v 1) ad_nil)) ad_nil)))) ad_nil))))) bd_nil)
    (bd_cons (sd_if (td_cmp (o_eq hr.units) (pd_v 3) pd_int) (bd_one (sd_ret (pd_tup (ad_cons pd_str (ad_cons (pd_ix (ix_data hr.units) (pd_lst (ad_cons pd_str (ad_cons pd_str ad_nil))) (pd_callL O.law_next hr (by rfl) (ad_cons (pd_v 0) (ad_cons pd_int ad_nil)))) (ad_cons (pd_callL O.law_mixed hr (by rfl) (ad_cons (pd_v 0) (ad_cons (pd_v 1) (ad_cons (pd_bin o_sub (pd_v 2) pd_int) ad_nil)))) ad_nil)))))) bd_nil)
    (bd_cons (sd_if (td_cmp (o_eq hr.units) (pd_v 3) pd_int) (bd_one (sd_ret (pd_call O.law_opposite hr (by rfl) (ad_cons (pd_callL O.law_mixed hr (by rfl) (ad_cons (pd_v 0) (ad_cons (pd_v 1) (ad_cons (pd_bin o_sub (pd_v 2) pd_int) ad_nil)))) ad_nil)))) bd_nil)
    (bd_one (sd_ret (pd_tup (ad_cons (pd_ix (ix_data hr.units) (pd_lst (ad_cons pd_str (ad_cons pd_str (ad_cons pd_str ad_nil)))) (pd_callL O.law_next hr (by rfl) (ad_cons (pd_v 0) (ad_cons pd_int ad_nil)))) (ad_cons (pd_callL O.law_mixed hr (by rfl) (ad_cons (pd_v 0) (ad_cons (pd_v 1) (ad_cons (pd_bin o_sub (pd_v 2) pd_int) ad_nil)))) (ad_cons (pd_callL O.law_mixed hr (by rfl) (ad_cons (pd_v 0) (ad_cons (pd_v 1) (ad_cons (pd_bin o_sub (pd_v 2) pd_int) ad_nil)))) ad_nil))))))))))
theorem ok_law (W : Wh K mg) (O : OkF P w K mg base k R) (F : Fun K "law" "law" t_law f fd) : FnOk P w K mg base CX0 (k + 1) f fd ["script"] (spI K (runF 1 15 (m_law R))) := fnI_ok F sc_law fun cdv A outer s H E hr => by
  have NN := sc_law.nd
  exact (bd_cons (sd_set 1 NN (pd_lst (ad_cons (pd_scr 0 (by rfl) W.n_list bt_list) (ad_cons pd_int (ad_cons pd_int (ad_cons pd_int ad_nil))))))
    (bd_cons (sd_set 2 NN (pd_callL O.law_words_drawn hr (by rfl) (ad_cons (pd_v 1) (ad_cons pd_int ad_nil))))
    (bd_cons (sd_set 3 NN (pd_callL O.law_mixed hr (by rfl) (ad_cons (pd_v 1) (ad_cons (pd_v 2) (ad_cons pd_int ad_nil)))))
    (bd_cons (sd_set 4 NN (pd_callL O.law_mixed hr (by rfl) (ad_cons (pd_v 1) (ad_cons (pd_v 2) (ad_cons pd_int ad_nil)))))
    (bd_cons (sd_set 5 NN (pd_ix (ix_data hr.units) (pd_lst (ad_cons pd_str (ad_cons pd_str ad_nil))) (pd_callL O.law_next hr (by rfl) (ad_cons (pd_v 1) (ad_cons pd_int ad_nil)))))
    (bd_cons (sd_set 6 NN (pd_tup (ad_cons pd_str (ad_cons (pd_v 5) (ad_cons (pd_v 3) ad_nil)))))
    (bd_cons (sd_set 7 NN (pd_tup (ad_cons pd_str (ad_cons (pd_v 6) (ad_cons (pd_tup (ad_cons pd_str (ad_cons (pd_v 5) (ad_cons (pd_v 4) ad_nil)))) ad_nil)))))
    (bd_cons (sd_set 8 NN (pd_callL O.law_claim hr (by rfl) (ad_cons (pd_v 1) (ad_cons (pd_v 2) (ad_cons pd_int ad_nil)))))
    (bd_cons (sd_set 9 NN (pd_tup (ad_cons pd_str (ad_cons (pd_ix (ix_data hr.units) (pd_v 2) (pd_callL O.law_next hr (by rfl) (ad_cons (pd_v 1) (ad_cons pd_int ad_nil)))) ad_nil))))
    (bd_cons (sd_set 10 NN (pd_tup (ad_cons pd_str (ad_cons (pd_v 5) (ad_cons (pd_tup (ad_cons pd_str (ad_cons (pd_ix (ix_data hr.units) (pd_v 2) (pd_callL O.law_next hr (by rfl) (ad_cons (pd_v 1) (ad_cons pd_int ad_nil)))) ad_nil))) ad_nil)))))
    (bd_cons (sd_set 11 NN (pd_tup (ad_cons pd_str (ad_cons (pd_v 8) (ad_cons (pd_tup (ad_cons pd_str (ad_cons (pd_v 9) (ad_cons (pd_v 10) ad_nil)))) ad_nil)))))
    (bd_cons (sd_set 12 NN (pd_tup (ad_cons pd_str (ad_cons (pd_tup (ad_cons pd_str (ad_cons (pd_v 8) (ad_cons (pd_v 9) ad_nil)))) (ad_cons (pd_v 10) ad_nil)))))
    (bd_cons (sd_set 13 NN (pd_lst (ad_cons (pd_tup (ad_cons (pd_disp (ppd_cons pd_str (pd_tup (ad_cons pd_str (ad_cons (pd_v 5) (ad_cons (pd_tup (ad_cons pd_str (ad_cons (pd_v 3) (ad_cons (pd_v 4) ad_nil)))) ad_nil)))) ppd_nil)) (ad_cons (pd_v 7) ad_nil))) (ad_cons (pd_tup (ad_cons (pd_disp (ppd_cons pd_str (pd_v 7) ppd_nil)) (ad_cons (pd_tup (ad_cons pd_str (ad_cons (pd_v 5) (ad_cons (pd_tup (ad_cons pd_str (ad_cons (pd_v 3) (ad_cons (pd_v 4) ad_nil)))) ad_nil)))) ad_nil))) (ad_cons (pd_tup (ad_cons (pd_disp (ppd_cons pd_str (pd_v 6) ppd_nil)) (ad_cons (pd_v 3) ad_nil))) ad_nil)))))
    (bd_cons (sd_set 13 NN (pd_bin o_add (pd_v 13) (pd_lst (ad_cons (pd_tup (ad_cons (pd_disp (ppd_cons pd_str (pd_tup (ad_cons pd_str (ad_cons (pd_v 5) (ad_cons (pd_tup (ad_cons pd_str (ad_cons (pd_v 3) (ad_cons (pd_v 4) ad_nil)))) ad_nil)))) (ppd_cons pd_str (pd_v 6) ppd_nil))) (ad_cons (pd_tup (ad_cons pd_str (ad_cons (pd_v 5) (ad_cons (pd_v 4) ad_nil)))) ad_nil))) (ad_cons (pd_tup (ad_cons pd_dict0 (ad_cons (pd_tup (ad_cons pd_str (ad_cons (pd_v 8) (ad_cons (pd_tup (ad_cons pd_str (ad_cons (pd_v 5) (ad_cons (pd_v 8) ad_nil)))) ad_nil)))) ad_nil))) ad_nil)))))
    (bd_cons (sd_set 13 NN (pd_bin o_add (pd_v 13) (pd_lst (ad_cons (pd_tup (ad_cons (pd_disp (ppd_cons pd_str (pd_v 11) ppd_nil)) (ad_cons (pd_v 12) ad_nil))) (ad_cons (pd_tup (ad_cons (pd_disp (ppd_cons pd_str (pd_v 12) ppd_nil)) (ad_cons (pd_v 11) ad_nil))) ad_nil)))))
    (bd_cons (sd_if (td_cmp (o_ne hr.units) (pd_lc [("ask", 14)] rfl NN (id_seq (pd_v 13)) (blk_ok n_law (defScope t_law) (by decide +kernel)) rfl (fun _ _ _ _ _ => (gd_name 14 NN)) (fun _ _ _ _ _ => (tsd_one (td_cmp o_isF (pd_call O.law_so hr (by rfl) (ad_cons (pd_ix (ix_data hr.units) (pd_v 14) pd_int) (ad_cons (pd_ix (ix_data hr.units) (pd_v 14) pd_int) ad_nil))) pd_bl))) (fun _ _ _ _ _ => (pd_v 14))) (pd_lst ad_nil)) (bd_one (sd_ret pd_bl)) bd_nil)
    (bd_cons (sd_if (td_cmp (o_ne hr.units) (pd_call O.law_so hr (by rfl) (ad_cons pd_dict0 (ad_cons (pd_v 3) ad_nil))) (pd_call O.law_so hr (by rfl) (ad_cons pd_dict0 (ad_cons (pd_v 6) ad_nil)))) (bd_one (sd_ret pd_bl)) bd_nil)
    (bd_one (sd_ret (pd_or (pd_cmp o_notB (pd_call O.law_so hr (by rfl) (ad_cons (pd_disp (ppd_cons pd_str (pd_v 3) ppd_nil)) (ad_cons (pd_v 4) ad_nil))) pd_bl) (pd_one (pd_cmp o_notB (pd_call O.law_so hr (by rfl) (ad_cons (pd_disp (ppd_cons pd_str (pd_v 6) ppd_nil)) (ad_cons (pd_tup (ad_cons pd_str (ad_cons (pd_v 5) (ad_cons (pd_v 4) ad_nil)))) ad_nil))) pd_bl))))))))))))))))))))))
end
/-- the defs, as objects of the top -/
structure Ob (K : PySem.W.Frag) (mg : Str → Option Value) : Prop where
  extent : ∃ a fd, Fun K "extent" "extent" t_extent a fd ∧ mg "extent" = some (.ref a) ∧ Binds K fd ["claim"] []
  reduced : ∃ a fd, Fun K "reduced" "reduced" t_reduced a fd ∧ mg "reduced" = some (.ref a) ∧ Binds K fd ["claim"] []
  is_view : ∃ a fd dvs, FunE K "is_view" "is_view" t_is_view dvs a fd ∧ mg "is_view" = some (.ref a) ∧ Binds K fd ["view", "tall"] [] ∧ (∃ ds, Vals dvs ds ∧ Binds K fd ["view", "tall"] ds) ∧ ∀ S H, RpL K S H dvs dd_is_view
  is_so : ∃ a fd dvs, FunE K "is_so" "is_so" t_is_so dvs a fd ∧ mg "is_so" = some (.ref a) ∧ Binds K fd ["view", "claim", "told"] [] ∧ (∃ ds, Vals dvs ds ∧ Binds K fd ["view", "claim", "told"] ds) ∧ ∀ S H, RpL K S H dvs dd_is_so
  is_left : ∃ a fd, Fun K "is_left" "is_left" t_is_left a fd ∧ mg "is_left" = some (.ref a) ∧ Binds K fd ["view", "told"] []
  added : ∃ a fd, Fun K "added" "added" t_added a fd ∧ mg "added" = some (.ref a) ∧ Binds K fd ["claims", "more"] []
  premises : ∃ a fd, Fun K "premises" "premises" t_premises a fd ∧ mg "premises" = some (.ref a) ∧ Binds K fd ["rule", "claim", "left", "right"] []
  is_shown : ∃ a fd dvs, FunE K "is_shown" "is_shown" t_is_shown dvs a fd ∧ mg "is_shown" = some (.ref a) ∧ Binds K fd ["left", "right", "proof", "tall"] [] ∧ (∃ ds, Vals dvs ds ∧ Binds K fd ["left", "right", "proof", "tall"] ds) ∧ ∀ S H, RpL K S H dvs dd_is_shown
  shown : ∃ a fd, Fun K "shown" "shown" t_shown a fd ∧ mg "shown" = some (.ref a) ∧ Binds K fd ["left", "right"] []
  parted : ∃ a fd, Fun K "parted" "parted" t_parted a fd ∧ mg "parted" = some (.ref a) ∧ Binds K fd ["rule", "claim", "due"] []
  known : ∃ a fd, Fun K "known" "known" t_known a fd ∧ mg "known" = some (.ref a) ∧ Binds K fd ["notes", "claim"] []
  judge_known : ∃ a fd, Fun K "judge_known" "judge_known" t_judge_known a fd ∧ mg "judge_known" = some (.ref a) ∧ Binds K fd ["notes", "claim", "told"] []
  law_next : ∃ a fd, Fun K "_law_next" "_law_next" t_law_next a fd ∧ mg "_law_next" = some (.ref a) ∧ Binds K fd ["state", "limit"] []
  law_claim : ∃ a fd, Fun K "_law_claim" "_law_claim" t_law_claim a fd ∧ mg "_law_claim" = some (.ref a) ∧ Binds K fd ["state", "words", "depth"] []
  law_words_drawn : ∃ a fd, Fun K "_law_words_drawn" "_law_words_drawn" t_law_words_drawn a fd ∧ mg "_law_words_drawn" = some (.ref a) ∧ Binds K fd ["state", "count"] []
  law_opposite : ∃ a fd, Fun K "_law_opposite" "_law_opposite" t_law_opposite a fd ∧ mg "_law_opposite" = some (.ref a) ∧ Binds K fd ["claim"] []
  law_extent : ∃ a fd, Fun K "_law_extent" "_law_extent" t_law_extent a fd ∧ mg "_law_extent" = some (.ref a) ∧ Binds K fd ["claim"] []
  law_so : ∃ a fd, Fun K "_law_so" "_law_so" t_law_so a fd ∧ mg "_law_so" = some (.ref a) ∧ Binds K fd ["notes", "claim"] []
  law_mixed : ∃ a fd, Fun K "_law_mixed" "_law_mixed" t_law_mixed a fd ∧ mg "_law_mixed" = some (.ref a) ∧ Binds K fd ["state", "words", "depth"] []
  law : ∃ a fd, Fun K "law" "law" t_law a fd ∧ mg "law" = some (.ref a) ∧ Binds K fd ["script"] []
theorem ok_lvl {P : Program} {w : World} {K : PySem.W.Frag} {mg : Str → Option Value} {base : Heap} (W : Wh K mg) (B : Ob K mg) : ∀ k, OkF P w K mg base k (lvl k)
  | 0 => { extent := let ⟨_, _, F, m, b⟩ := B.extent; Cl.of fn_none m F.kp b, reduced := let ⟨_, _, F, m, b⟩ := B.reduced; Cl.of fn_none m F.kp b, is_view := let ⟨_, _, _, F, m, b, _, _⟩ := B.is_view; Cl.of fn_none m F.kp b, is_view_D := let ⟨_, _, _, F, m, _, ⟨_, v, d⟩, r⟩ := B.is_view; ⟨_, _, _, _, _, fn_none, m, F.kp, d, v, r⟩, is_so := let ⟨_, _, _, F, m, b, _, _⟩ := B.is_so; Cl.of fn_none m F.kp b, is_so_D := let ⟨_, _, _, F, m, _, ⟨_, v, d⟩, r⟩ := B.is_so; ⟨_, _, _, _, _, fn_none, m, F.kp, d, v, r⟩, is_left := let ⟨_, _, F, m, b⟩ := B.is_left; Cl.of fn_none m F.kp b, added := let ⟨_, _, F, m, b⟩ := B.added; Cl.of fn_none m F.kp b, premises := let ⟨_, _, F, m, b⟩ := B.premises; Cl.of fn_none m F.kp b, is_shown := let ⟨_, _, _, F, m, b, _, _⟩ := B.is_shown; Cl.of fn_none m F.kp b, is_shown_D := let ⟨_, _, _, F, m, _, ⟨_, v, d⟩, r⟩ := B.is_shown; ⟨_, _, _, _, _, fn_none, m, F.kp, d, v, r⟩, shown := let ⟨_, _, F, m, b⟩ := B.shown; Cl.of fn_none m F.kp b, parted := let ⟨_, _, F, m, b⟩ := B.parted; Cl.of fn_none m F.kp b, known := let ⟨_, _, F, m, b⟩ := B.known; Cl.of fn_none m F.kp b, judge_known := let ⟨_, _, F, m, b⟩ := B.judge_known; Cl.of fn_none m F.kp b, law_next := let ⟨_, _, F, m, b⟩ := B.law_next; Cl.of fn_none m F.kp b, law_claim := let ⟨_, _, F, m, b⟩ := B.law_claim; Cl.of fn_none m F.kp b, law_words_drawn := let ⟨_, _, F, m, b⟩ := B.law_words_drawn; Cl.of fn_none m F.kp b, law_opposite := let ⟨_, _, F, m, b⟩ := B.law_opposite; Cl.of fn_none m F.kp b, law_extent := let ⟨_, _, F, m, b⟩ := B.law_extent; Cl.of fn_none m F.kp b, law_so := let ⟨_, _, F, m, b⟩ := B.law_so; Cl.of fn_none m F.kp b, law_mixed := let ⟨_, _, F, m, b⟩ := B.law_mixed; Cl.of fn_none m F.kp b, law := let ⟨_, _, F, m, b⟩ := B.law; Cl.of fn_none m F.kp b }
  | k + 1 => { extent := let ⟨_, _, F, m, b⟩ := B.extent; Cl.of (ok_extent W (ok_lvl W B k) F) m F.kp b, reduced := let ⟨_, _, F, m, b⟩ := B.reduced; Cl.of (ok_reduced W (ok_lvl W B k) F) m F.kp b, is_view := let ⟨_, _, _, F, m, b, _, _⟩ := B.is_view; Cl.of (ok_is_view W (ok_lvl W B k) F) m F.kp b, is_view_D := let ⟨_, _, _, F, m, _, ⟨_, v, d⟩, r⟩ := B.is_view; ⟨_, _, _, _, _, ok_is_view W (ok_lvl W B k) F, m, F.kp, d, v, r⟩, is_so := let ⟨_, _, _, F, m, b, _, _⟩ := B.is_so; Cl.of (ok_is_so W (ok_lvl W B k) F) m F.kp b, is_so_D := let ⟨_, _, _, F, m, _, ⟨_, v, d⟩, r⟩ := B.is_so; ⟨_, _, _, _, _, ok_is_so W (ok_lvl W B k) F, m, F.kp, d, v, r⟩, is_left := let ⟨_, _, F, m, b⟩ := B.is_left; Cl.of (ok_is_left W (ok_lvl W B k) F) m F.kp b, added := let ⟨_, _, F, m, b⟩ := B.added; Cl.of (ok_added W (ok_lvl W B k) F) m F.kp b, premises := let ⟨_, _, F, m, b⟩ := B.premises; Cl.of (ok_premises W (ok_lvl W B k) F) m F.kp b, is_shown := let ⟨_, _, _, F, m, b, _, _⟩ := B.is_shown; Cl.of (ok_is_shown W (ok_lvl W B k) F) m F.kp b, is_shown_D := let ⟨_, _, _, F, m, _, ⟨_, v, d⟩, r⟩ := B.is_shown; ⟨_, _, _, _, _, ok_is_shown W (ok_lvl W B k) F, m, F.kp, d, v, r⟩, shown := let ⟨_, _, F, m, b⟩ := B.shown; Cl.of (ok_shown W (ok_lvl W B k) F) m F.kp b, parted := let ⟨_, _, F, m, b⟩ := B.parted; Cl.of (ok_parted W (ok_lvl W B k) F) m F.kp b, known := let ⟨_, _, F, m, b⟩ := B.known; Cl.of (ok_known W (ok_lvl W B k) F) m F.kp b, judge_known := let ⟨_, _, F, m, b⟩ := B.judge_known; Cl.of (ok_judge_known W (ok_lvl W B k) F) m F.kp b, law_next := let ⟨_, _, F, m, b⟩ := B.law_next; Cl.of (ok_law_next W (ok_lvl W B k) F) m F.kp b, law_claim := let ⟨_, _, F, m, b⟩ := B.law_claim; Cl.of (ok_law_claim W (ok_lvl W B k) F) m F.kp b, law_words_drawn := let ⟨_, _, F, m, b⟩ := B.law_words_drawn; Cl.of (ok_law_words_drawn W (ok_lvl W B k) F) m F.kp b, law_opposite := let ⟨_, _, F, m, b⟩ := B.law_opposite; Cl.of (ok_law_opposite W (ok_lvl W B k) F) m F.kp b, law_extent := let ⟨_, _, F, m, b⟩ := B.law_extent; Cl.of (ok_law_extent W (ok_lvl W B k) F) m F.kp b, law_so := let ⟨_, _, F, m, b⟩ := B.law_so; Cl.of (ok_law_so W (ok_lvl W B k) F) m F.kp b, law_mixed := let ⟨_, _, F, m, b⟩ := B.law_mixed; Cl.of (ok_law_mixed W (ok_lvl W B k) F) m F.kp b, law := let ⟨_, _, F, m, b⟩ := B.law; Cl.of (ok_law W (ok_lvl W B k) F) m F.kp b }
/-- the script, as the law gets it -/
def spLaw (K : PySem.W.Frag) : Sp := fun vs H Q _ => ∃ (a : Addr) (ns : List Int), vs = [.ref a] ∧ SqL K H a (ns.map V.int) ∧ Only H ∧ ns.length ≤ 63 ∧ ∀ H', Q (.bl true) H'
def Holds : Prop := ∀ ns : List Int, ns.length ≤ 63 → (lvl 230).law [(.scr, .list (ns.map .int))] = some (.kept (.bool true), none)
theorem klst_of {K : PySem.W.Frag} {H : Hp} {a : Addr} {ns : List Int} (h : SqL K H a (ns.map V.int)) (o : Only H) : KLst K H a ns := by
  refine ⟨h, ?_⟩
  rcases h with (h | h) | h
  · rcases o a with z | ⟨_, _, z⟩ <;> (rw [h] at z; cases z)
  · exact .inl h
  · exact .inr fun H' => .inr h
theorem ok_top {P : Program} {w : World} {K : PySem.W.Frag} {mg : Str → Option Value} {base : Heap} {f : Addr} {fd : FuncData} (hl : Holds) (W : Wh K mg) (B : Ob K mg) (F : Fun K "law" "law" t_law f fd) : FnOk P w K mg base CX0 230 f fd ["script"] (spLaw K) :=
  (ok_law W (ok_lvl W B 229) F).imp fun vs H Q E h => by
    obtain ⟨a, ns, rfl, hs, on, hn, q⟩ := h
    refine ⟨fun _ => False, [(.scr, .list (ns.map .int))], .kept (.bool true), none, ⟨rfl, fun i st d h => ?_, fun i j b st d st' d' h1 h2 h3 h4 h5 h6 => ?_, fun _ z => z.elim⟩, hl ns hn, fun v S' H' fc rr _ => ?_⟩
    · cases i with
      | zero =>
        simp at h
        obtain ⟨rfl, rfl⟩ := h
        exact ⟨.ref a, rfl, a, ns, rfl, rfl, klst_of hs on⟩
      | succ i => simp at h
    · cases i with
      | zero => simp at h1; obtain ⟨rfl, rfl⟩ := h1; cases h3
      | succ i => simp at h1
    · cases rr
      exact q H'
set_option maxHeartbeats 0 in
theorem all_mk (hl : Holds) {P : Program} {w : World} {K : PySem.W.Frag} {h : Heap} {mg : Str → Option Value} {fa : Addr} (X : K.In h) (G : h.Ns mainGlobals mg) (hfa : mg "law" = some (.ref fa))
    {oc_extent kV_extent dc_extent pm_extent cd_extent ct_extent : Value} {od_extent an_extent : Option Addr} {sl_extent : Array (Option Value)} {f_extent : Addr}
    (a_extent : PySem.W.nsIn K mainGlobals "extent" = some (some (.ref f_extent)))
    (l_extent : K.lookup f_extent = some ⟨oc_extent, od_extent, .func (PySem.W.fnOf "extent" "extent" (defArgs t_extent) (defBody t_extent) (defScope t_extent) .none kV_extent dc_extent pm_extent an_extent cd_extent ct_extent), sl_extent⟩)
    (c_extent : PySem.W.codeIn K cd_extent "extent" = true) (k_extent : PySem.W.keepIn K (.ref f_extent) = true)
    {oc_reduced kV_reduced dc_reduced pm_reduced cd_reduced ct_reduced : Value} {od_reduced an_reduced : Option Addr} {sl_reduced : Array (Option Value)} {f_reduced : Addr}
    (a_reduced : PySem.W.nsIn K mainGlobals "reduced" = some (some (.ref f_reduced)))
    (l_reduced : K.lookup f_reduced = some ⟨oc_reduced, od_reduced, .func (PySem.W.fnOf "reduced" "reduced" (defArgs t_reduced) (defBody t_reduced) (defScope t_reduced) .none kV_reduced dc_reduced pm_reduced an_reduced cd_reduced ct_reduced), sl_reduced⟩)
    (c_reduced : PySem.W.codeIn K cd_reduced "reduced" = true) (k_reduced : PySem.W.keepIn K (.ref f_reduced) = true)
    {oc_is_view kV_is_view dc_is_view pm_is_view cd_is_view ct_is_view : Value} {od_is_view an_is_view : Option Addr} {sl_is_view : Array (Option Value)} {f_is_view : Addr}
    (a_is_view : PySem.W.nsIn K mainGlobals "is_view" = some (some (.ref f_is_view)))
    {ot_is_view : Option Addr} {dt_is_view : Addr} {nt_is_view : Nat} {st_is_view : Array (Option Value)}
    {td0_is_view : Tok}
    (y_is_view : K.lookup dt_is_view = some ⟨.type "tuple", ot_is_view, .seq #[.int 60 td0_is_view] nt_is_view, st_is_view⟩)
    (l_is_view : K.lookup f_is_view = some ⟨oc_is_view, od_is_view, .func (PySem.W.fnOf "is_view" "is_view" (defArgs t_is_view) (defBody t_is_view) (defScope t_is_view) (.ref dt_is_view) kV_is_view dc_is_view pm_is_view an_is_view cd_is_view ct_is_view), sl_is_view⟩)
    (c_is_view : PySem.W.codeIn K cd_is_view "is_view" = true) (k_is_view : PySem.W.keepIn K (.ref f_is_view) = true)
    {oc_is_so kV_is_so dc_is_so pm_is_so cd_is_so ct_is_so : Value} {od_is_so an_is_so : Option Addr} {sl_is_so : Array (Option Value)} {f_is_so : Addr}
    (a_is_so : PySem.W.nsIn K mainGlobals "is_so" = some (some (.ref f_is_so)))
    {ot_is_so : Option Addr} {dt_is_so : Addr} {nt_is_so : Nat} {st_is_so : Array (Option Value)}
    {e0_is_so : Addr} {ne0_is_so : Nat} {se0_is_so : Array (Option Value)}
    (w0_is_so : K.lookup e0_is_so = some ⟨.type "tuple", none, .seq #[] ne0_is_so, se0_is_so⟩)
    (y_is_so : K.lookup dt_is_so = some ⟨.type "tuple", ot_is_so, .seq #[.ref e0_is_so] nt_is_so, st_is_so⟩)
    (l_is_so : K.lookup f_is_so = some ⟨oc_is_so, od_is_so, .func (PySem.W.fnOf "is_so" "is_so" (defArgs t_is_so) (defBody t_is_so) (defScope t_is_so) (.ref dt_is_so) kV_is_so dc_is_so pm_is_so an_is_so cd_is_so ct_is_so), sl_is_so⟩)
    (c_is_so : PySem.W.codeIn K cd_is_so "is_so" = true) (k_is_so : PySem.W.keepIn K (.ref f_is_so) = true)
    {oc_is_left kV_is_left dc_is_left pm_is_left cd_is_left ct_is_left : Value} {od_is_left an_is_left : Option Addr} {sl_is_left : Array (Option Value)} {f_is_left : Addr}
    (a_is_left : PySem.W.nsIn K mainGlobals "is_left" = some (some (.ref f_is_left)))
    (l_is_left : K.lookup f_is_left = some ⟨oc_is_left, od_is_left, .func (PySem.W.fnOf "is_left" "is_left" (defArgs t_is_left) (defBody t_is_left) (defScope t_is_left) .none kV_is_left dc_is_left pm_is_left an_is_left cd_is_left ct_is_left), sl_is_left⟩)
    (c_is_left : PySem.W.codeIn K cd_is_left "is_left" = true) (k_is_left : PySem.W.keepIn K (.ref f_is_left) = true)
    {oc_added kV_added dc_added pm_added cd_added ct_added : Value} {od_added an_added : Option Addr} {sl_added : Array (Option Value)} {f_added : Addr}
    (a_added : PySem.W.nsIn K mainGlobals "added" = some (some (.ref f_added)))
    (l_added : K.lookup f_added = some ⟨oc_added, od_added, .func (PySem.W.fnOf "added" "added" (defArgs t_added) (defBody t_added) (defScope t_added) .none kV_added dc_added pm_added an_added cd_added ct_added), sl_added⟩)
    (c_added : PySem.W.codeIn K cd_added "added" = true) (k_added : PySem.W.keepIn K (.ref f_added) = true)
    {oc_premises kV_premises dc_premises pm_premises cd_premises ct_premises : Value} {od_premises an_premises : Option Addr} {sl_premises : Array (Option Value)} {f_premises : Addr}
    (a_premises : PySem.W.nsIn K mainGlobals "premises" = some (some (.ref f_premises)))
    (l_premises : K.lookup f_premises = some ⟨oc_premises, od_premises, .func (PySem.W.fnOf "premises" "premises" (defArgs t_premises) (defBody t_premises) (defScope t_premises) .none kV_premises dc_premises pm_premises an_premises cd_premises ct_premises), sl_premises⟩)
    (c_premises : PySem.W.codeIn K cd_premises "premises" = true) (k_premises : PySem.W.keepIn K (.ref f_premises) = true)
    {oc_is_shown kV_is_shown dc_is_shown pm_is_shown cd_is_shown ct_is_shown : Value} {od_is_shown an_is_shown : Option Addr} {sl_is_shown : Array (Option Value)} {f_is_shown : Addr}
    (a_is_shown : PySem.W.nsIn K mainGlobals "is_shown" = some (some (.ref f_is_shown)))
    {ot_is_shown : Option Addr} {dt_is_shown : Addr} {nt_is_shown : Nat} {st_is_shown : Array (Option Value)}
    {td0_is_shown : Tok}
    (y_is_shown : K.lookup dt_is_shown = some ⟨.type "tuple", ot_is_shown, .seq #[.int 200 td0_is_shown] nt_is_shown, st_is_shown⟩)
    (l_is_shown : K.lookup f_is_shown = some ⟨oc_is_shown, od_is_shown, .func (PySem.W.fnOf "is_shown" "is_shown" (defArgs t_is_shown) (defBody t_is_shown) (defScope t_is_shown) (.ref dt_is_shown) kV_is_shown dc_is_shown pm_is_shown an_is_shown cd_is_shown ct_is_shown), sl_is_shown⟩)
    (c_is_shown : PySem.W.codeIn K cd_is_shown "is_shown" = true) (k_is_shown : PySem.W.keepIn K (.ref f_is_shown) = true)
    {oc_shown kV_shown dc_shown pm_shown cd_shown ct_shown : Value} {od_shown an_shown : Option Addr} {sl_shown : Array (Option Value)} {f_shown : Addr}
    (a_shown : PySem.W.nsIn K mainGlobals "shown" = some (some (.ref f_shown)))
    (l_shown : K.lookup f_shown = some ⟨oc_shown, od_shown, .func (PySem.W.fnOf "shown" "shown" (defArgs t_shown) (defBody t_shown) (defScope t_shown) .none kV_shown dc_shown pm_shown an_shown cd_shown ct_shown), sl_shown⟩)
    (c_shown : PySem.W.codeIn K cd_shown "shown" = true) (k_shown : PySem.W.keepIn K (.ref f_shown) = true)
    {oc_parted kV_parted dc_parted pm_parted cd_parted ct_parted : Value} {od_parted an_parted : Option Addr} {sl_parted : Array (Option Value)} {f_parted : Addr}
    (a_parted : PySem.W.nsIn K mainGlobals "parted" = some (some (.ref f_parted)))
    (l_parted : K.lookup f_parted = some ⟨oc_parted, od_parted, .func (PySem.W.fnOf "parted" "parted" (defArgs t_parted) (defBody t_parted) (defScope t_parted) .none kV_parted dc_parted pm_parted an_parted cd_parted ct_parted), sl_parted⟩)
    (c_parted : PySem.W.codeIn K cd_parted "parted" = true) (k_parted : PySem.W.keepIn K (.ref f_parted) = true)
    {oc_known kV_known dc_known pm_known cd_known ct_known : Value} {od_known an_known : Option Addr} {sl_known : Array (Option Value)} {f_known : Addr}
    (a_known : PySem.W.nsIn K mainGlobals "known" = some (some (.ref f_known)))
    (l_known : K.lookup f_known = some ⟨oc_known, od_known, .func (PySem.W.fnOf "known" "known" (defArgs t_known) (defBody t_known) (defScope t_known) .none kV_known dc_known pm_known an_known cd_known ct_known), sl_known⟩)
    (c_known : PySem.W.codeIn K cd_known "known" = true) (k_known : PySem.W.keepIn K (.ref f_known) = true)
    {oc_judge_known kV_judge_known dc_judge_known pm_judge_known cd_judge_known ct_judge_known : Value} {od_judge_known an_judge_known : Option Addr} {sl_judge_known : Array (Option Value)} {f_judge_known : Addr}
    (a_judge_known : PySem.W.nsIn K mainGlobals "judge_known" = some (some (.ref f_judge_known)))
    (l_judge_known : K.lookup f_judge_known = some ⟨oc_judge_known, od_judge_known, .func (PySem.W.fnOf "judge_known" "judge_known" (defArgs t_judge_known) (defBody t_judge_known) (defScope t_judge_known) .none kV_judge_known dc_judge_known pm_judge_known an_judge_known cd_judge_known ct_judge_known), sl_judge_known⟩)
    (c_judge_known : PySem.W.codeIn K cd_judge_known "judge_known" = true) (k_judge_known : PySem.W.keepIn K (.ref f_judge_known) = true)
    {oc_law_next kV_law_next dc_law_next pm_law_next cd_law_next ct_law_next : Value} {od_law_next an_law_next : Option Addr} {sl_law_next : Array (Option Value)} {f_law_next : Addr}
    (a_law_next : PySem.W.nsIn K mainGlobals "_law_next" = some (some (.ref f_law_next)))
    (l_law_next : K.lookup f_law_next = some ⟨oc_law_next, od_law_next, .func (PySem.W.fnOf "_law_next" "_law_next" (defArgs t_law_next) (defBody t_law_next) (defScope t_law_next) .none kV_law_next dc_law_next pm_law_next an_law_next cd_law_next ct_law_next), sl_law_next⟩)
    (c_law_next : PySem.W.codeIn K cd_law_next "_law_next" = true) (k_law_next : PySem.W.keepIn K (.ref f_law_next) = true)
    {oc_law_claim kV_law_claim dc_law_claim pm_law_claim cd_law_claim ct_law_claim : Value} {od_law_claim an_law_claim : Option Addr} {sl_law_claim : Array (Option Value)} {f_law_claim : Addr}
    (a_law_claim : PySem.W.nsIn K mainGlobals "_law_claim" = some (some (.ref f_law_claim)))
    (l_law_claim : K.lookup f_law_claim = some ⟨oc_law_claim, od_law_claim, .func (PySem.W.fnOf "_law_claim" "_law_claim" (defArgs t_law_claim) (defBody t_law_claim) (defScope t_law_claim) .none kV_law_claim dc_law_claim pm_law_claim an_law_claim cd_law_claim ct_law_claim), sl_law_claim⟩)
    (c_law_claim : PySem.W.codeIn K cd_law_claim "_law_claim" = true) (k_law_claim : PySem.W.keepIn K (.ref f_law_claim) = true)
    {oc_law_words_drawn kV_law_words_drawn dc_law_words_drawn pm_law_words_drawn cd_law_words_drawn ct_law_words_drawn : Value} {od_law_words_drawn an_law_words_drawn : Option Addr} {sl_law_words_drawn : Array (Option Value)} {f_law_words_drawn : Addr}
    (a_law_words_drawn : PySem.W.nsIn K mainGlobals "_law_words_drawn" = some (some (.ref f_law_words_drawn)))
    (l_law_words_drawn : K.lookup f_law_words_drawn = some ⟨oc_law_words_drawn, od_law_words_drawn, .func (PySem.W.fnOf "_law_words_drawn" "_law_words_drawn" (defArgs t_law_words_drawn) (defBody t_law_words_drawn) (defScope t_law_words_drawn) .none kV_law_words_drawn dc_law_words_drawn pm_law_words_drawn an_law_words_drawn cd_law_words_drawn ct_law_words_drawn), sl_law_words_drawn⟩)
    (c_law_words_drawn : PySem.W.codeIn K cd_law_words_drawn "_law_words_drawn" = true) (k_law_words_drawn : PySem.W.keepIn K (.ref f_law_words_drawn) = true)
    {oc_law_opposite kV_law_opposite dc_law_opposite pm_law_opposite cd_law_opposite ct_law_opposite : Value} {od_law_opposite an_law_opposite : Option Addr} {sl_law_opposite : Array (Option Value)} {f_law_opposite : Addr}
    (a_law_opposite : PySem.W.nsIn K mainGlobals "_law_opposite" = some (some (.ref f_law_opposite)))
    (l_law_opposite : K.lookup f_law_opposite = some ⟨oc_law_opposite, od_law_opposite, .func (PySem.W.fnOf "_law_opposite" "_law_opposite" (defArgs t_law_opposite) (defBody t_law_opposite) (defScope t_law_opposite) .none kV_law_opposite dc_law_opposite pm_law_opposite an_law_opposite cd_law_opposite ct_law_opposite), sl_law_opposite⟩)
    (c_law_opposite : PySem.W.codeIn K cd_law_opposite "_law_opposite" = true) (k_law_opposite : PySem.W.keepIn K (.ref f_law_opposite) = true)
    {oc_law_extent kV_law_extent dc_law_extent pm_law_extent cd_law_extent ct_law_extent : Value} {od_law_extent an_law_extent : Option Addr} {sl_law_extent : Array (Option Value)} {f_law_extent : Addr}
    (a_law_extent : PySem.W.nsIn K mainGlobals "_law_extent" = some (some (.ref f_law_extent)))
    (l_law_extent : K.lookup f_law_extent = some ⟨oc_law_extent, od_law_extent, .func (PySem.W.fnOf "_law_extent" "_law_extent" (defArgs t_law_extent) (defBody t_law_extent) (defScope t_law_extent) .none kV_law_extent dc_law_extent pm_law_extent an_law_extent cd_law_extent ct_law_extent), sl_law_extent⟩)
    (c_law_extent : PySem.W.codeIn K cd_law_extent "_law_extent" = true) (k_law_extent : PySem.W.keepIn K (.ref f_law_extent) = true)
    {oc_law_so kV_law_so dc_law_so pm_law_so cd_law_so ct_law_so : Value} {od_law_so an_law_so : Option Addr} {sl_law_so : Array (Option Value)} {f_law_so : Addr}
    (a_law_so : PySem.W.nsIn K mainGlobals "_law_so" = some (some (.ref f_law_so)))
    (l_law_so : K.lookup f_law_so = some ⟨oc_law_so, od_law_so, .func (PySem.W.fnOf "_law_so" "_law_so" (defArgs t_law_so) (defBody t_law_so) (defScope t_law_so) .none kV_law_so dc_law_so pm_law_so an_law_so cd_law_so ct_law_so), sl_law_so⟩)
    (c_law_so : PySem.W.codeIn K cd_law_so "_law_so" = true) (k_law_so : PySem.W.keepIn K (.ref f_law_so) = true)
    {oc_law_mixed kV_law_mixed dc_law_mixed pm_law_mixed cd_law_mixed ct_law_mixed : Value} {od_law_mixed an_law_mixed : Option Addr} {sl_law_mixed : Array (Option Value)} {f_law_mixed : Addr}
    (a_law_mixed : PySem.W.nsIn K mainGlobals "_law_mixed" = some (some (.ref f_law_mixed)))
    (l_law_mixed : K.lookup f_law_mixed = some ⟨oc_law_mixed, od_law_mixed, .func (PySem.W.fnOf "_law_mixed" "_law_mixed" (defArgs t_law_mixed) (defBody t_law_mixed) (defScope t_law_mixed) .none kV_law_mixed dc_law_mixed pm_law_mixed an_law_mixed cd_law_mixed ct_law_mixed), sl_law_mixed⟩)
    (c_law_mixed : PySem.W.codeIn K cd_law_mixed "_law_mixed" = true) (k_law_mixed : PySem.W.keepIn K (.ref f_law_mixed) = true)
    {oc_law kV_law dc_law pm_law cd_law ct_law : Value} {od_law an_law : Option Addr} {sl_law : Array (Option Value)} {f_law : Addr}
    (a_law : PySem.W.nsIn K mainGlobals "law" = some (some (.ref f_law)))
    (l_law : K.lookup f_law = some ⟨oc_law, od_law, .func (PySem.W.fnOf "law" "law" (defArgs t_law) (defBody t_law) (defScope t_law) .none kV_law dc_law pm_law an_law cd_law ct_law), sl_law⟩)
    (c_law : PySem.W.codeIn K cd_law "law" = true) (k_law : PySem.W.keepIn K (.ref f_law) = true)
    (z_dict : PySem.W.nsIn K mainGlobals "dict" = some none)
    (z_int : PySem.W.nsIn K mainGlobals "int" = some none)
    (z_isinstance : PySem.W.nsIn K mainGlobals "isinstance" = some none)
    (z_len : PySem.W.nsIn K mainGlobals "len" = some none)
    (z_list : PySem.W.nsIn K mainGlobals "list" = some none)
    (z_range : PySem.W.nsIn K mainGlobals "range" = some none)
    (z_set : PySem.W.nsIn K mainGlobals "set" = some none)
    (z_sorted : PySem.W.nsIn K mainGlobals "sorted" = some none)
    (z_str : PySem.W.nsIn K mainGlobals "str" = some none)
    (z_sum : PySem.W.nsIn K mainGlobals "sum" = some none)
    (z_tuple : PySem.W.nsIn K mainGlobals "tuple" = some none)
    (z_zip : PySem.W.nsIn K mainGlobals "zip" = some none)
    (t_str_NoneType : PySem.W.kitOne K (.type "NoneType") (.type "str") = some false)
    (t_str_bool : PySem.W.kitOne K (.type "bool") (.type "str") = some false)
    (t_str_int : PySem.W.kitOne K (.type "int") (.type "str") = some false)
    (t_str_str : PySem.W.kitOne K (.type "str") (.type "str") = some true)
    (t_str_list : PySem.W.kitOne K (.type "list") (.type "str") = some false)
    (t_str_tuple : PySem.W.kitOne K (.type "tuple") (.type "str") = some false)
    (t_str_dict : PySem.W.kitOne K (.type "dict") (.type "str") = some false)
    (t_tuple_NoneType : PySem.W.kitOne K (.type "NoneType") (.type "tuple") = some false)
    (t_tuple_bool : PySem.W.kitOne K (.type "bool") (.type "tuple") = some false)
    (t_tuple_int : PySem.W.kitOne K (.type "int") (.type "tuple") = some false)
    (t_tuple_str : PySem.W.kitOne K (.type "str") (.type "tuple") = some false)
    (t_tuple_list : PySem.W.kitOne K (.type "list") (.type "tuple") = some false)
    (t_tuple_tuple : PySem.W.kitOne K (.type "tuple") (.type "tuple") = some true)
    (t_tuple_dict : PySem.W.kitOne K (.type "dict") (.type "tuple") = some false)
    {u_MOST_KNOWN : Tok} (a_MOST_KNOWN : PySem.W.nsIn K mainGlobals "MOST_KNOWN" = some (some (.int 24 u_MOST_KNOWN)))
    {od_NONE : Option Addr} {sl_NONE : Array (Option Value)} {f_NONE : Addr} {n_NONE : Nat} {u0_NONE : Tok}
    (a_NONE : PySem.W.nsIn K mainGlobals "NONE" = some (some (.ref f_NONE)))
    (l_NONE : K.lookup f_NONE = some ⟨.type "tuple", od_NONE, .seq #[.str "none" u0_NONE] n_NONE, sl_NONE⟩) :
    ∃ fd : FuncData, (∀ (s : Shared) (v : Value), BindsTo s fd ⟨[v], []⟩ [("script", v)]) ∧ ∀ base : Heap, K.In base → base.Ns mainGlobals mg → FnOk P w K mg base CX0 230 fa fd ["script"] (spLaw K) := by
  have e := hfa.symm.trans (PySem.W.mg_of X G a_law)
  cases e
  have W : Wh K mg := { n_dict := PySem.W.mg_none_of X G z_dict, n_int := PySem.W.mg_none_of X G z_int, n_isinstance := PySem.W.mg_none_of X G z_isinstance, n_len := PySem.W.mg_none_of X G z_len, n_list := PySem.W.mg_none_of X G z_list, n_range := PySem.W.mg_none_of X G z_range, n_set := PySem.W.mg_none_of X G z_set, n_sorted := PySem.W.mg_none_of X G z_sorted, n_str := PySem.W.mg_none_of X G z_str, n_sum := PySem.W.mg_none_of X G z_sum, n_tuple := PySem.W.mg_none_of X G z_tuple, n_zip := PySem.W.mg_none_of X G z_zip, k_str := ⟨fun d => by cases d <;> assumption⟩, k_tuple := ⟨fun d => by cases d <;> assumption⟩, c_MOST_KNOWN := ⟨_, PySem.W.mg_of X G a_MOST_KNOWN⟩, c_NONE := ⟨f_NONE, PySem.W.mg_of X G a_NONE, _, _, _, l_NONE, rfl, rfl, (by show 1 ≤ sizeLine; decide), (.cons ⟨_, rfl⟩ .nil)⟩ }
  have B : Ob K mg := { extent := ⟨_, _, fun_mk (st := t_extent) l_extent c_extent k_extent, PySem.W.mg_of X G a_extent, (fun_mk (st := t_extent) l_extent c_extent k_extent).binds (ps := ["claim"]) (fun _ _ _ _ _ _ us hl => (match us, hl with | [_], _ => rfl))⟩, reduced := ⟨_, _, fun_mk (st := t_reduced) l_reduced c_reduced k_reduced, PySem.W.mg_of X G a_reduced, (fun_mk (st := t_reduced) l_reduced c_reduced k_reduced).binds (ps := ["claim"]) (fun _ _ _ _ _ _ us hl => (match us, hl with | [_], _ => rfl))⟩, is_view := (let F : FunE K "is_view" "is_view" t_is_view [.int 60] f_is_view _ := funE_mk l_is_view c_is_view k_is_view y_is_view (by simp) (.cons ⟨_, rfl⟩ .nil); ⟨_, _, _, F, PySem.W.mg_of X G a_is_view, bindsD0 F 2 (by simp) rfl (fun _ _ _ _ _ _ _ us its hl hz => (match us, its, hl, hz with | [_, _], [_], _, _ => ⟨_, rfl, rfl⟩)), FunD.binds1 F 1 0 (by simp) rfl (fun _ _ _ _ _ _ _ us its hl hz => (match us, its, hl, hz with | [_], [_], _, _ => ⟨_, rfl, rfl⟩)), fun S H => (.cons (.int _) .nil)⟩), is_so := (let F : FunE K "is_so" "is_so" t_is_so [.ref e0_is_so] f_is_so _ := funE_mk l_is_so c_is_so k_is_so y_is_so (by simp) (.cons rfl .nil); ⟨_, _, _, F, PySem.W.mg_of X G a_is_so, bindsD0 F 3 (by simp) rfl (fun _ _ _ _ _ _ _ us its hl hz => (match us, its, hl, hz with | [_, _, _], [_], _, _ => ⟨_, rfl, rfl⟩)), FunD.binds1 F 2 0 (by simp) rfl (fun _ _ _ _ _ _ _ us its hl hz => (match us, its, hl, hz with | [_, _], [_], _, _ => ⟨_, rfl, rfl⟩)), fun S H => (.cons (.tup (.inr ⟨_, #[], _, w0_is_so, rfl, rfl, by simp, .nil⟩) .nil ⟨fun _ => .inr ⟨rfl, rfl, _, _, w0_is_so, rfl, rfl, rfl⟩, fun e => by cases e⟩) .nil)⟩), is_left := ⟨_, _, fun_mk (st := t_is_left) l_is_left c_is_left k_is_left, PySem.W.mg_of X G a_is_left, (fun_mk (st := t_is_left) l_is_left c_is_left k_is_left).binds (ps := ["view", "told"]) (fun _ _ _ _ _ _ us hl => (match us, hl with | [_, _], _ => rfl))⟩, added := ⟨_, _, fun_mk (st := t_added) l_added c_added k_added, PySem.W.mg_of X G a_added, (fun_mk (st := t_added) l_added c_added k_added).binds (ps := ["claims", "more"]) (fun _ _ _ _ _ _ us hl => (match us, hl with | [_, _], _ => rfl))⟩, premises := ⟨_, _, fun_mk (st := t_premises) l_premises c_premises k_premises, PySem.W.mg_of X G a_premises, (fun_mk (st := t_premises) l_premises c_premises k_premises).binds (ps := ["rule", "claim", "left", "right"]) (fun _ _ _ _ _ _ us hl => (match us, hl with | [_, _, _, _], _ => rfl))⟩, is_shown := (let F : FunE K "is_shown" "is_shown" t_is_shown [.int 200] f_is_shown _ := funE_mk l_is_shown c_is_shown k_is_shown y_is_shown (by simp) (.cons ⟨_, rfl⟩ .nil); ⟨_, _, _, F, PySem.W.mg_of X G a_is_shown, bindsD0 F 4 (by simp) rfl (fun _ _ _ _ _ _ _ us its hl hz => (match us, its, hl, hz with | [_, _, _, _], [_], _, _ => ⟨_, rfl, rfl⟩)), FunD.binds1 F 3 0 (by simp) rfl (fun _ _ _ _ _ _ _ us its hl hz => (match us, its, hl, hz with | [_, _, _], [_], _, _ => ⟨_, rfl, rfl⟩)), fun S H => (.cons (.int _) .nil)⟩), shown := ⟨_, _, fun_mk (st := t_shown) l_shown c_shown k_shown, PySem.W.mg_of X G a_shown, (fun_mk (st := t_shown) l_shown c_shown k_shown).binds (ps := ["left", "right"]) (fun _ _ _ _ _ _ us hl => (match us, hl with | [_, _], _ => rfl))⟩, parted := ⟨_, _, fun_mk (st := t_parted) l_parted c_parted k_parted, PySem.W.mg_of X G a_parted, (fun_mk (st := t_parted) l_parted c_parted k_parted).binds (ps := ["rule", "claim", "due"]) (fun _ _ _ _ _ _ us hl => (match us, hl with | [_, _, _], _ => rfl))⟩, known := ⟨_, _, fun_mk (st := t_known) l_known c_known k_known, PySem.W.mg_of X G a_known, (fun_mk (st := t_known) l_known c_known k_known).binds (ps := ["notes", "claim"]) (fun _ _ _ _ _ _ us hl => (match us, hl with | [_, _], _ => rfl))⟩, judge_known := ⟨_, _, fun_mk (st := t_judge_known) l_judge_known c_judge_known k_judge_known, PySem.W.mg_of X G a_judge_known, (fun_mk (st := t_judge_known) l_judge_known c_judge_known k_judge_known).binds (ps := ["notes", "claim", "told"]) (fun _ _ _ _ _ _ us hl => (match us, hl with | [_, _, _], _ => rfl))⟩, law_next := ⟨_, _, fun_mk (st := t_law_next) l_law_next c_law_next k_law_next, PySem.W.mg_of X G a_law_next, (fun_mk (st := t_law_next) l_law_next c_law_next k_law_next).binds (ps := ["state", "limit"]) (fun _ _ _ _ _ _ us hl => (match us, hl with | [_, _], _ => rfl))⟩, law_claim := ⟨_, _, fun_mk (st := t_law_claim) l_law_claim c_law_claim k_law_claim, PySem.W.mg_of X G a_law_claim, (fun_mk (st := t_law_claim) l_law_claim c_law_claim k_law_claim).binds (ps := ["state", "words", "depth"]) (fun _ _ _ _ _ _ us hl => (match us, hl with | [_, _, _], _ => rfl))⟩, law_words_drawn := ⟨_, _, fun_mk (st := t_law_words_drawn) l_law_words_drawn c_law_words_drawn k_law_words_drawn, PySem.W.mg_of X G a_law_words_drawn, (fun_mk (st := t_law_words_drawn) l_law_words_drawn c_law_words_drawn k_law_words_drawn).binds (ps := ["state", "count"]) (fun _ _ _ _ _ _ us hl => (match us, hl with | [_, _], _ => rfl))⟩, law_opposite := ⟨_, _, fun_mk (st := t_law_opposite) l_law_opposite c_law_opposite k_law_opposite, PySem.W.mg_of X G a_law_opposite, (fun_mk (st := t_law_opposite) l_law_opposite c_law_opposite k_law_opposite).binds (ps := ["claim"]) (fun _ _ _ _ _ _ us hl => (match us, hl with | [_], _ => rfl))⟩, law_extent := ⟨_, _, fun_mk (st := t_law_extent) l_law_extent c_law_extent k_law_extent, PySem.W.mg_of X G a_law_extent, (fun_mk (st := t_law_extent) l_law_extent c_law_extent k_law_extent).binds (ps := ["claim"]) (fun _ _ _ _ _ _ us hl => (match us, hl with | [_], _ => rfl))⟩, law_so := ⟨_, _, fun_mk (st := t_law_so) l_law_so c_law_so k_law_so, PySem.W.mg_of X G a_law_so, (fun_mk (st := t_law_so) l_law_so c_law_so k_law_so).binds (ps := ["notes", "claim"]) (fun _ _ _ _ _ _ us hl => (match us, hl with | [_, _], _ => rfl))⟩, law_mixed := ⟨_, _, fun_mk (st := t_law_mixed) l_law_mixed c_law_mixed k_law_mixed, PySem.W.mg_of X G a_law_mixed, (fun_mk (st := t_law_mixed) l_law_mixed c_law_mixed k_law_mixed).binds (ps := ["state", "words", "depth"]) (fun _ _ _ _ _ _ us hl => (match us, hl with | [_, _, _], _ => rfl))⟩, law := ⟨_, _, fun_mk (st := t_law) l_law c_law k_law, PySem.W.mg_of X G a_law, (fun_mk (st := t_law) l_law c_law k_law).binds (ps := ["script"]) (fun _ _ _ _ _ _ us hl => (match us, hl with | [_], _ => rfl))⟩ }
  exact ⟨_, fun s v => .of_eq rfl, fun base _ _ => ok_top hl W B (fun_mk (st := t_law) l_law c_law k_law)⟩
end PyK77

/-! claims, as data -/
namespace PyK77
open PySem PySem.Spec L2 PyI
inductive Op | an | ei | im
  deriving DecidableEq
inductive Cl
  | w (x : Str)
  | no
  | kn (x : Str) (a : Cl)
  | to (s a : Cl)
  | bi (o : Op) (a b : Cl)
  deriving DecidableEq
def Op.str : Op → Str
  | .an => "and"
  | .ei => "or"
  | .im => "if"
def enc : Cl → PyData
  | .w x => .tuple [.str "word", .str x]
  | .no => .tuple [.str "none"]
  | .kn x a => .tuple [.str "knows", .str x, enc a]
  | .to s a => .tuple [.str "told", enc s, enc a]
  | .bi o a b => .tuple [.str o.str, enc a, enc b]
def encL (l : List Cl) : PyData := .tuple (l.map enc)
/-- how many claims stand in it -/
def ext : Cl → Nat
  | .w _ => 1
  | .no => 1
  | .kn _ a => 1 + ext a
  | .to s a => 1 + ext s + ext a
  | .bi _ a b => 1 + ext a + ext b
/-- how deep what is known stands -/
def md : Cl → Nat
  | .w _ => 0
  | .no => 0
  | .kn _ a => 1 + md a
  | .to s a => md s + md a
  | .bi _ a b => max (md a) (md b)
/-- a bound on what comes of telling something of size n -/
def tw : Cl → Nat → Nat
  | .w _, n => n + 3
  | .no, n => n + 3
  | .kn _ a, n => n + 3 + tw a n
  | .to t a, n => 1 + tw a (1 + n + tw t n)
  | .bi _ a b, n => 2 + tw a n + tw b n
def wt : Cl → Nat
  | .w _ => 1
  | .no => 1
  | .kn _ a => 1 + wt a
  | .to s a => tw a (wt s)
  | .bi _ a b => 1 + wt a + wt b
/-- a telling, a step on -/
def red (s : Cl) : Cl → Cl
  | .w x => .bi .im s (.w x)
  | .no => .bi .im s .no
  | .kn x a => .bi .im s (.kn x (.to s a))
  | .to t a => .to (.bi .an s (.to s t)) a
  | .bi o a b => .bi o (.to s a) (.to s b)
theorem wt_red (s : Cl) : ∀ a, wt (red s a) + 1 = wt (.to s a)
  | .w x => by simp only [red, wt, tw]; omega
  | .no => by simp only [red, wt, tw]; omega
  | .kn x a => by simp only [red, wt, tw]; omega
  | .to t a => by simp only [red, wt, tw]; omega
  | .bi o a b => by simp only [red, wt, tw]; omega
theorem md_red (s : Cl) : ∀ a, md (red s a) ≤ md (.to s a)
  | .w x => by simp only [red, md]; omega
  | .no => by simp only [red, md]; omega
  | .kn x a => by simp only [red, md]; omega
  | .to t a => by simp only [red, md]; omega
  | .bi o a b => by simp only [red, md]; omega
theorem ext_pos (a : Cl) : 1 ≤ ext a := by cases a <;> simp only [ext] <;> omega
theorem wt_pos (a : Cl) : 1 ≤ wt a := by
  cases a with
  | to s a => cases a <;> simp only [wt, tw] <;> omega
  | _ => simp only [wt] <;> omega
theorem tw_ext : ∀ (a : Cl) (n : Nat), n + 1 + ext a ≤ tw a n
  | .w x, n => by simp only [tw, ext]; omega
  | .no, n => by simp only [tw, ext]; omega
  | .kn x a, n => by have := tw_ext a n; simp only [tw, ext]; omega
  | .to t a, n => by have := tw_ext a (1 + n + tw t n); have := tw_ext t n; simp only [tw, ext]; omega
  | .bi o a b, n => by have := tw_ext a n; have := tw_ext b n; simp only [tw, ext]; omega
theorem ext_wt : ∀ a : Cl, ext a ≤ wt a
  | .w x => Nat.le_refl _
  | .no => Nat.le_refl _
  | .kn x a => by have := ext_wt a; simp only [wt, ext]; omega
  | .to s a => by have := ext_wt s; have := tw_ext a (wt s); simp only [wt, ext]; omega
  | .bi o a b => by have := ext_wt a; have := ext_wt b; simp only [wt, ext]; omega
/-! ### equality -/
theorem depth_enc : ∀ a : Cl, (enc a).depth ≤ ext a
  | .w x => by simp [enc, ext, PyData.depth, PyData.depthAll]
  | .no => by simp [enc, ext, PyData.depth, PyData.depthAll]
  | .kn x a => by have := depth_enc a; simp only [enc, ext, PyData.depth, PyData.depthAll]; omega
  | .to s a => by have := depth_enc a; have := depth_enc s; simp only [enc, ext, PyData.depth, PyData.depthAll]; omega
  | .bi o a b => by have := depth_enc a; have := depth_enc b; simp only [enc, ext, PyData.depth, PyData.depthAll]; omega
theorem plain_enc : ∀ a : Cl, (enc a).plain = true
  | .w x => by simp [enc, PyData.plain, PyData.plainAll]
  | .no => by simp [enc, PyData.plain, PyData.plainAll]
  | .kn x a => by simp [enc, PyData.plain, PyData.plainAll, plain_enc a]
  | .to s a => by simp [enc, PyData.plain, PyData.plainAll, plain_enc a, plain_enc s]
  | .bi o a b => by simp [enc, PyData.plain, PyData.plainAll, plain_enc a, plain_enc b]
theorem op_inj {o o' : Op} : (o.str == o'.str) = decide (o = o') := by cases o <;> cases o' <;> decide
theorem op_t (o : Op) : (o.str == ("told" : Str)) = false ∧ (("told" : Str) == o.str) = false ∧ (o.str == ("knows" : Str)) = false ∧ (("knows" : Str) == o.str) = false := by cases o <;> decide
theorem str_beq (x y : Str) : (x == y) = decide (x = y) := by
  by_cases h : x = y
  · simp [h]
  · simp [h]
theorem op_w (o : Op) : (o.str == ("word" : Str)) = false ∧ (("word" : Str) == o.str) = false ∧ (o.str == ("none" : Str)) = false ∧ (("none" : Str) == o.str) = false := by cases o <;> decide
theorem eqv_str (x y : Str) : PyData.eqv (.str x) (.str y) = decide (x = y) := by rw [← str_beq]; simp only [PyData.eqv]
theorem eqv_ne {x y : Str} {l m : List PyData} (h : (x == y) = false) : PyData.eqv (.tuple (.str x :: l)) (.tuple (.str y :: m)) = false := by
  simp only [PyData.eqv, PyData.eqvAll, h, Bool.false_and]
theorem eqv_hd {x y : Str} {l m : List PyData} : PyData.eqv (.tuple (.str x :: l)) (.tuple (.str y :: m)) = ((x == y) && PyData.eqvAll l m) := by
  simp only [PyData.eqv, PyData.eqvAll]
theorem eqvAll_c (x y : PyData) (l m : List PyData) : PyData.eqvAll (x :: l) (y :: m) = (PyData.eqv x y && PyData.eqvAll l m) := by simp only [PyData.eqvAll]
theorem eqvAll_n : PyData.eqvAll [] [] = true := by simp only [PyData.eqvAll]
theorem eqv_enc (a : Cl) : ∀ b : Cl, PyData.eqv (enc a) (enc b) = decide (a = b) := by
  induction a with
  | w x1 =>
    intro b
    cases b with
    | w x2 => rw [enc, enc, eqv_hd, eqvAll_c, eqv_str, eqvAll_n]; simp
    | no => rw [decide_eq_false (by intro h; cases h)]; exact eqv_ne (by decide)
    | kn x2 a2 => rw [decide_eq_false (by intro h; cases h)]; exact eqv_ne (by decide)
    | to s2 a2 => rw [decide_eq_false (by intro h; cases h)]; exact eqv_ne (by decide)
    | bi o2 a2 b2 => rw [decide_eq_false (by intro h; cases h)]; exact eqv_ne (op_w o2).2.1
  | no =>
    intro b
    cases b with
    | w x2 => rw [decide_eq_false (by intro h; cases h)]; exact eqv_ne (by decide)
    | no => rw [enc, eqv_hd, eqvAll_n]; simp
    | kn x2 a2 => rw [decide_eq_false (by intro h; cases h)]; exact eqv_ne (by decide)
    | to s2 a2 => rw [decide_eq_false (by intro h; cases h)]; exact eqv_ne (by decide)
    | bi o2 a2 b2 => rw [decide_eq_false (by intro h; cases h)]; exact eqv_ne (op_w o2).2.2.2
  | kn x1 a1 ih =>
    intro b
    cases b with
    | w x2 => rw [decide_eq_false (by intro h; cases h)]; exact eqv_ne (by decide)
    | no => rw [decide_eq_false (by intro h; cases h)]; exact eqv_ne (by decide)
    | kn x2 a2 => rw [enc, enc, eqv_hd, eqvAll_c, eqvAll_c, eqv_str, ih, eqvAll_n]; simp [Bool.decide_and]
    | to s2 a2 => rw [decide_eq_false (by intro h; cases h)]; exact eqv_ne (by decide)
    | bi o2 a2 b2 => rw [decide_eq_false (by intro h; cases h)]; exact eqv_ne (op_t o2).2.2.2
  | to s1 a1 ih1 ih2 =>
    intro b
    cases b with
    | w x2 => rw [decide_eq_false (by intro h; cases h)]; exact eqv_ne (by decide)
    | no => rw [decide_eq_false (by intro h; cases h)]; exact eqv_ne (by decide)
    | kn x2 a2 => rw [decide_eq_false (by intro h; cases h)]; exact eqv_ne (by decide)
    | to s2 a2 => rw [enc, enc, eqv_hd, eqvAll_c, eqvAll_c, ih1, ih2, eqvAll_n]; simp [Bool.decide_and]
    | bi o2 a2 b2 => rw [decide_eq_false (by intro h; cases h)]; exact eqv_ne (op_t o2).2.1
  | bi o1 a1 b1 ih1 ih2 =>
    intro b
    cases b with
    | w x2 => rw [decide_eq_false (by intro h; cases h)]; exact eqv_ne (op_w o1).1
    | no => rw [decide_eq_false (by intro h; cases h)]; exact eqv_ne (op_w o1).2.2.1
    | kn x2 a2 => rw [decide_eq_false (by intro h; cases h)]; exact eqv_ne (op_t o1).2.2.1
    | to s2 a2 => rw [decide_eq_false (by intro h; cases h)]; exact eqv_ne (op_t o1).1
    | bi o2 a2 b2 => rw [enc, enc, eqv_hd, eqvAll_c, eqvAll_c, ih1, ih2, eqvAll_n, op_inj]; simp [Bool.decide_and]
theorem eqvAll_enc : ∀ l m : List Cl, PyData.eqvAll (l.map enc) (m.map enc) = decide (l = m)
  | [], [] => by simp [PyData.eqvAll]
  | a :: l, [] => by simp [PyData.eqvAll]
  | [], b :: m => by simp [PyData.eqvAll]
  | a :: l, b :: m => by simp [PyData.eqvAll, eqv_enc a b, eqvAll_enc l m, Bool.decide_and]
theorem plainAll_enc : ∀ l : List Cl, PyData.plainAll (l.map enc) = true
  | [] => by simp [PyData.plainAll]
  | a :: l => by simp [PyData.plainAll, plain_enc a, plainAll_enc l]
theorem any_enc (l : List Cl) (c : Cl) : ((l.map enc).any fun y => PyData.eqv y (enc c)) = decide (c ∈ l) := by
  induction l with
  | nil => simp
  | cons a l ih =>
    rw [List.map_cons, List.any_cons, ih, eqv_enc]
    by_cases h : a = c
    · simp [h]
    · have : ¬ c = a := fun z => h z.symm
      simp [h, this]
theorem in_T {c : Cl} (h : ext c ≤ 48) (l : List Cl) : opInA (enc c) (encL l) = some (.bool (decide (c ∈ l))) := by
  have hd := depth_enc c
  have e : anyIn (enc c) (encL l) = some (decide (c ∈ l)) := by
    have q : inD (enc c) (encL l) = if (enc c).plain = true ∧ PyData.plainAll (l.map enc) = true ∧ (enc c).depth ≤ 50 then some ((l.map enc).any fun y => PyData.eqv y (enc c)) else none := by
      unfold encL
      cases c <;> simp only [enc] <;> rfl
    show inD (enc c) (encL l) = _
    rw [q, if_pos ⟨plain_enc c, plainAll_enc l, by omega⟩, any_enc]
  unfold opInA; rw [e]; rfl
theorem in_L {c : Cl} (h : ext c ≤ 48) (l : List Cl) : opNotInA (enc c) (.list (l.map enc)) = some (.bool (!decide (c ∈ l))) := by
  have hd := depth_enc c
  have e : anyIn (enc c) (.list (l.map enc)) = some (decide (c ∈ l)) := by
    have q : inD (enc c) (.list (l.map enc)) = if (enc c).plain = true ∧ PyData.plainAll (l.map enc) = true ∧ (enc c).depth ≤ 50 then some ((l.map enc).any fun y => PyData.eqv y (enc c)) else none := by
      cases c <;> simp only [enc] <;> rfl
    show inD (enc c) (.list (l.map enc)) = _
    rw [q, if_pos ⟨plain_enc c, plainAll_enc l, by omega⟩, any_enc]
  unfold opNotInA; rw [e]; rfl
theorem eqD_enc {a : Cl} (h : ext a ≤ 58) (b : Cl) : eqD (enc a) (enc b) = some (decide (a = b)) := by
  have hd := depth_enc a
  have q : eqD (enc a) (enc b) = if (enc a).plain = true ∧ (enc b).plain = true ∧ min (enc a).depth (enc b).depth ≤ 60 then some (PyData.eqv (enc a) (enc b)) else none := by
    cases a <;> cases b <;> simp only [enc] <;> rfl
  rw [q, if_pos ⟨plain_enc a, plain_enc b, by omega⟩, eqv_enc]
theorem eq_no {a : Cl} (h : ext a ≤ 58) : opEq (enc a) c_NONE = some (.bool (decide (a = .no))) := by
  show (eqD (enc a) (enc .no)).map _ = _
  rw [eqD_enc h]; rfl
/-- a pair of rows of claims -/
def encS (p : List Cl × List Cl) : PyData := .tuple [encL p.1, encL p.2]
theorem depthAll_enc {n : Nat} : ∀ {l : List Cl}, (∀ a ∈ l, ext a ≤ n) → PyData.depthAll (l.map enc) ≤ n
  | [], _ => by simp [PyData.depthAll]
  | a :: l, h => by
    have := depth_enc a
    have := h a List.mem_cons_self
    have := depthAll_enc (l := l) fun x hx => h x (List.mem_cons_of_mem _ hx)
    simp only [List.map_cons, PyData.depthAll]; omega
theorem plain_S (p : List Cl × List Cl) : (encS p).plain = true := by simp [encS, encL, PyData.plain, PyData.plainAll, plainAll_enc]
theorem plainAll_S : ∀ ds : List (List Cl × List Cl), PyData.plainAll (ds.map encS) = true
  | [] => by simp [PyData.plainAll]
  | d :: ds => by simp [PyData.plainAll, plain_S, plainAll_S ds]
theorem eqv_S (d e : List Cl × List Cl) : PyData.eqv (encS d) (encS e) = decide (d = e) := by
  obtain ⟨x, y⟩ := d
  obtain ⟨z, w⟩ := e
  have t : ∀ l m : List PyData, PyData.eqv (.tuple l) (.tuple m) = PyData.eqvAll l m := fun l m => by simp only [PyData.eqv]
  rw [encS, encS, t, eqvAll_c, eqvAll_c, eqvAll_n, encL, encL, encL, encL, t, t, eqvAll_enc, eqvAll_enc]
  simp [Bool.decide_and]
theorem any_S (ds : List (List Cl × List Cl)) (c : List Cl × List Cl) : ((ds.map encS).any fun y => PyData.eqv y (encS c)) = decide (c ∈ ds) := by
  induction ds with
  | nil => simp
  | cons a l ih =>
    rw [List.map_cons, List.any_cons, ih, eqv_S]
    by_cases h : a = c
    · simp [h]
    · have : ¬ c = a := fun z => h z.symm
      simp [h, this]
theorem nin_S {l r : List Cl} (hl : ∀ a ∈ l, ext a ≤ 48) (hr : ∀ a ∈ r, ext a ≤ 48) (ds : List (List Cl × List Cl)) : opNotInA (encS (l, r)) (.list (ds.map encS)) = some (.bool (!decide ((l, r) ∈ ds))) := by
  have e : anyIn (encS (l, r)) (.list (ds.map encS)) = some (decide ((l, r) ∈ ds)) := by
    have q : inD (encS (l, r)) (.list (ds.map encS)) = if (encS (l, r)).plain = true ∧ PyData.plainAll (ds.map encS) = true ∧ (encS (l, r)).depth ≤ 50 then some ((ds.map encS).any fun y => PyData.eqv y (encS (l, r))) else none := rfl
    have p3 : (encS (l, r)).depth ≤ 50 := by
      have := depthAll_enc hl
      have := depthAll_enc hr
      simp only [encS, encL, PyData.depth, PyData.depthAll]; omega
    show inD (encS (l, r)) (.list (ds.map encS)) = some (decide ((l, r) ∈ ds))
    rw [q, if_pos ⟨plain_S _, plainAll_S _, p3⟩, any_S]
  unfold opNotInA; rw [e]; rfl
end PyK77

/-! what is so in a view; what follows -/
namespace PyK77
open PySem PySem.Spec L2 PyI
def wayD (p : Str × PyData) : PyData := .tuple [.str p.1, p.2]
def vD (ws : List Str) (ks : List (Str × PyData)) : PyData := .tuple [.tuple (ws.map .str), .tuple (ks.map wayD)]
def strO : PyData → Option Str
  | .str x => some x
  | _ => none
def wayO : PyData → Option (Str × PyData)
  | .tuple [.str x, v] => some (x, v)
  | _ => none
def wsOf : PyData → List Str
  | .tuple [.tuple l, _] => l.filterMap strO
  | _ => []
def ksOf : PyData → List (Str × PyData)
  | .tuple [_, .tuple l] => l.filterMap wayO
  | _ => []
theorem ws_vD (ws : List Str) (ks : List (Str × PyData)) : wsOf (vD ws ks) = ws := by
  show (ws.map PyData.str).filterMap strO = ws
  induction ws with
  | nil => rfl
  | cons x r ih => rw [List.map_cons, List.filterMap_cons]; show x :: _ = _; rw [ih]
theorem ks_vD (ws : List Str) (ks : List (Str × PyData)) : ksOf (vD ws ks) = ks := by
  show (ks.map wayD).filterMap wayO = ks
  induction ks with
  | nil => rfl
  | cons x r ih => rw [List.map_cons, List.filterMap_cons]; show x :: _ = _; rw [ih]
def opP : Op → Prop → Prop → Prop
  | .an, p, q => p ∧ q
  | .ei, p, q => p ∨ q
  | .im, p, q => p → q
def So : Cl → (PyData → Prop) → PyData → Prop
  | .w x, _, v => x ∈ wsOf v
  | .no, _, _ => False
  | .kn x a, L, v => ∀ u, (u = v ∨ (x, u) ∈ ksOf v) → L u → So a L u
  | .to s a, L, v => So s L v → So a (fun u => L u ∧ So s L u) v
  | .bi o a b, L, v => opP o (So a L v) (So b L v)
theorem so_red (s : Cl) (L : PyData → Prop) (v : PyData) : ∀ a, So (red s a) L v ↔ So (.to s a) L v
  | .w x => Iff.rfl
  | .no => Iff.rfl
  | .kn x a => by
    simp only [red, So, opP]
    exact ⟨fun h hs u hu ⟨l1, l2⟩ => h hs u hu l1 l2, fun h hs u hu l1 l2 => h hs u hu ⟨l1, l2⟩⟩
  | .to t a => by
    simp only [red, So, opP]
    have e : (fun u => L u ∧ (So s L u ∧ (So s L u → So t (fun u => L u ∧ So s L u) u))) = fun u => (L u ∧ So s L u) ∧ So t (fun u => L u ∧ So s L u) u := by
      funext u
      exact propext ⟨fun ⟨a, b, c⟩ => ⟨⟨a, b⟩, c b⟩, fun ⟨⟨a, b⟩, c⟩ => ⟨a, b, fun _ => c⟩⟩
    rw [e]
    exact ⟨fun h hs ht => h ⟨hs, fun _ => ht⟩, fun h ⟨hs, ht⟩ => h hs (ht hs)⟩
  | .bi o a b => by
    simp only [red, So]
    cases o <;> simp only [opP]
    · exact ⟨fun h hs => ⟨h.1 hs, h.2 hs⟩, fun h => ⟨fun hs => (h hs).1, fun hs => (h hs).2⟩⟩
    · constructor
      · intro h hs
        exact h.imp (fun f => f hs) fun f => f hs
      · intro h
        by_cases hs : So s L v
        · exact (h hs).imp (fun x _ => x) fun x _ => x
        · exact .inl fun z => absurd z hs
    · exact ⟨fun h hs x => h (fun _ => x) hs, fun h x hs => h hs (x hs)⟩
abbrev All : PyData → Prop := fun _ => True
def Valid (l r : List Cl) : Prop := ∀ v, (∀ a ∈ l, So a All v) → ∃ b ∈ r, So b All v
def Cm (l r : List Cl) (v : PyData) : Prop := (∀ a ∈ l, So a All v) ∧ ∀ b ∈ r, ¬ So b All v
/-! ### claims, with more of them -/
def addC (l : List Cl) : List Cl → List Cl
  | [] => l
  | c :: m => addC (if c ∈ l then l else l ++ [c]) m
theorem mem_addC {x : Cl} : ∀ {m l : List Cl}, x ∈ addC l m ↔ x ∈ l ∨ x ∈ m
  | [], l => by simp [addC]
  | c :: m, l => by
    rw [addC, mem_addC (m := m)]
    by_cases h : c ∈ l
    · rw [if_pos h, List.mem_cons]
      exact ⟨fun z => z.imp id .inr, fun z => by
        rcases z with z | rfl | z
        · exact .inl z
        · exact .inl h
        · exact .inr z⟩
    · rw [if_neg h, List.mem_append, List.mem_singleton, List.mem_cons, or_assoc]
theorem addC_app : ∀ (m l : List Cl), ∃ e, addC l m = l ++ e
  | [], l => ⟨[], by simp [addC]⟩
  | c :: m, l => by
    rw [addC]
    by_cases h : c ∈ l
    · rw [if_pos h]; exact addC_app m l
    · rw [if_neg h]
      obtain ⟨e, he⟩ := addC_app m (l ++ [c])
      exact ⟨[c] ++ e, by rw [he, List.append_assoc]⟩
theorem addC_nd : ∀ {m l : List Cl}, l.Nodup → (addC l m).Nodup
  | [], l, h => h
  | c :: m, l, h => by
    rw [addC]
    by_cases hc : c ∈ l
    · rw [if_pos hc]; exact addC_nd h
    · rw [if_neg hc]
      exact addC_nd (List.nodup_append.mpr ⟨h, List.nodup_cons.mpr ⟨List.not_mem_nil, List.nodup_nil⟩, fun a ha b hb e => by rw [List.mem_singleton] at hb; subst hb; exact hc (e ▸ ha)⟩)
theorem addC_le (m l : List Cl) : l.length ≤ (addC l m).length := by
  obtain ⟨e, h⟩ := addC_app m l
  rw [h, List.length_append]; omega
theorem addC_lt {m l : List Cl} (h : addC l m ≠ l) : l.length < (addC l m).length := by
  obtain ⟨e, he⟩ := addC_app m l
  rw [he] at h ⊢
  cases e with
  | nil => exact absurd (List.append_nil l) h
  | cons x e => rw [List.length_append, List.length_cons]; omega
/-! ### the rules -/
def isKn (x : Str) : Cl → Bool
  | .kn y _ => decide (y = x)
  | _ => false
def bodyOf : Cl → Cl
  | .kn _ a => a
  | c => c
def knb (x : Str) (l : List Cl) : List Cl := (l.filter (isKn x)).map bodyOf
theorem mem_knb {x : Str} {l : List Cl} {a : Cl} : a ∈ knb x l ↔ .kn x a ∈ l := by
  unfold knb
  rw [List.mem_map]
  constructor
  · rintro ⟨c, h, rfl⟩
    rw [List.mem_filter] at h
    obtain ⟨h1, h2⟩ := h
    cases c with
    | kn y b => have : y = x := of_decide_eq_true h2; subst this; exact h1
    | _ => cases h2
  · intro h
    exact ⟨.kn x a, List.mem_filter.mpr ⟨h, by simp [isKn]⟩, rfl⟩
def prem : Bool → Cl → List Cl → List Cl → List (List Cl × List Cl)
  | true, .kn _ a, l, r => [(addC l [a], r)]
  | true, .to s a, l, r => [(addC l [red s a], r)]
  | true, .bi .an a b, l, r => [(addC l [a, b], r)]
  | true, .bi .ei a b, l, r => [(addC l [a], r), (addC l [b], r)]
  | true, .bi .im a b, l, r => [(l, addC r [a]), (addC l [b], r)]
  | false, .kn x a, l, _ => [(addC [] (knb x l), [a])]
  | false, .to s a, l, r => [(l, addC r [red s a])]
  | false, .bi .an a b, l, r => [(l, addC r [a]), (l, addC r [b])]
  | false, .bi .ei a b, l, r => [(l, addC r [a, b])]
  | false, .bi .im a b, l, r => [(addC l [a], addC r [b])]
  | _, .w _, _, _ => []
  | _, .no, _, _ => []
def lit : Cl → Bool
  | .w _ => true
  | .no => true
  | _ => false
/-- the rule leaves this view -/
def jump : Bool → Cl → Bool
  | false, .kn _ _ => true
  | _, _ => false
def side (s : Bool) (l r : List Cl) : List Cl := if s then l else r
theorem addV {l r m : List Cl} {v : PyData} (h : ∀ a ∈ l, So a All v) (h2 : ∀ a ∈ m, So a All v) : ∀ a ∈ addC l m, So a All v := fun a ha => (mem_addC.mp ha).elim (h a) (h2 a)
theorem addR {r m : List Cl} {v : PyData} (h : ∃ b ∈ addC r m, So b All v) : (∃ b ∈ r, So b All v) ∨ ∃ b ∈ m, So b All v := by
  obtain ⟨b, hb, s⟩ := h
  exact (mem_addC.mp hb).imp (fun z => ⟨b, z, s⟩) fun z => ⟨b, z, s⟩
theorem prem_valid {s : Bool} {c : Cl} {l r : List Cl} (hc : c ∈ side s l r) (hn : lit c = false) (h : ∀ p ∈ prem s c l r, Valid p.1 p.2) : Valid l r := by
  intro v hl
  cases s with
  | true =>
    have hc : c ∈ l := hc
    have sc := hl c hc
    cases c with
    | w x => cases hn
    | no => cases hn
    | kn x a => exact h (addC l [a], r) (by simp [prem]) v (addV (r := r) hl fun b hb => by rw [List.mem_singleton] at hb; subst hb; exact sc v (.inl rfl) trivial)
    | to t a => exact h (addC l [red t a], r) (by simp [prem]) v (addV (r := r) hl fun b hb => by rw [List.mem_singleton] at hb; subst hb; exact (so_red t All v a).mpr sc)
    | bi o a b =>
      cases o with
      | an => exact h (addC l [a, b], r) (by simp [prem]) v (addV (r := r) hl fun d hd => by
          rcases List.mem_cons.mp hd with rfl | hd
          · exact sc.1
          · rw [List.mem_singleton] at hd; subst hd; exact sc.2)
      | ei =>
        rcases sc with sc | sc
        · exact h (addC l [a], r) (by simp [prem]) v (addV (r := r) hl fun d hd => by rw [List.mem_singleton] at hd; subst hd; exact sc)
        · exact h (addC l [b], r) (by simp [prem]) v (addV (r := r) hl fun d hd => by rw [List.mem_singleton] at hd; subst hd; exact sc)
      | im =>
        rcases addR (h (l, addC r [a]) (by simp [prem]) v hl) with z | ⟨d, hd, sd⟩
        · exact z
        · rw [List.mem_singleton] at hd; subst hd
          exact h (addC l [b], r) (by simp [prem]) v (addV (r := r) hl fun d' hd => by rw [List.mem_singleton] at hd; subst hd; exact sc sd)
  | false =>
    have hc : c ∈ r := hc
    cases c with
    | w x => cases hn
    | no => cases hn
    | kn x a =>
      refine ⟨_, hc, fun u hu _ => ?_⟩
      obtain ⟨b, hb, sb⟩ := h (addC [] (knb x l), [a]) (by simp [prem]) u (fun b hb => by
        rcases mem_addC.mp hb with hb | hb
        · cases hb
        · exact hl _ (mem_knb.mp hb) u hu trivial)
      rw [List.mem_singleton] at hb; subst hb; exact sb
    | to t a =>
      rcases addR (h (l, addC r [red t a]) (by simp [prem]) v hl) with z | ⟨d, hd, sd⟩
      · exact z
      · rw [List.mem_singleton] at hd; subst hd
        exact ⟨_, hc, (so_red t All v a).mp sd⟩
    | bi o a b =>
      cases o with
      | an =>
        rcases addR (h (l, addC r [a]) (by simp [prem]) v hl) with z | ⟨d, hd, sd⟩
        · exact z
        · rw [List.mem_singleton] at hd; subst hd
          rcases addR (h (l, addC r [b]) (by simp [prem]) v hl) with z | ⟨d', hd, sd'⟩
          · exact z
          · rw [List.mem_singleton] at hd; subst hd
            exact ⟨_, hc, sd, sd'⟩
      | ei =>
        rcases addR (h (l, addC r [a, b]) (by simp [prem]) v hl) with z | ⟨d, hd, sd⟩
        · exact z
        · rcases List.mem_cons.mp hd with rfl | hd
          · exact ⟨_, hc, .inl sd⟩
          · rw [List.mem_singleton] at hd; subst hd
            exact ⟨_, hc, .inr sd⟩
      | im =>
        by_cases sa : So a All v
        · rcases addR (h (addC l [a], addC r [b]) (by simp [prem]) v (addV (r := r) hl fun d hd => by rw [List.mem_singleton] at hd; subst hd; exact sa)) with z | ⟨d, hd, sd⟩
          · exact z
          · rw [List.mem_singleton] at hd; subst hd
            exact ⟨_, hc, fun _ => sd⟩
        · exact ⟨_, hc, fun z => absurd z sa⟩
theorem prem_sub {s : Bool} {c : Cl} {l r : List Cl} (hj : jump s c = false) {p : List Cl × List Cl} (hp : p ∈ prem s c l r) : (∀ a ∈ l, a ∈ p.1) ∧ ∀ b ∈ r, b ∈ p.2 := by
  have k : ∀ {l m : List Cl}, ∀ a ∈ l, a ∈ addC l m := fun a ha => mem_addC.mpr (.inl ha)
  have i : ∀ {l : List Cl}, ∀ a ∈ l, a ∈ l := fun a ha => ha
  cases s <;> cases c <;> (try rename_i o _ _; cases o) <;> first
    | exact absurd hp List.not_mem_nil
    | exact Bool.noConfusion (show true = false from hj)
    | (simp only [prem, List.mem_cons, List.not_mem_nil, or_false] at hp
       first
       | (subst hp; exact ⟨by first | exact k | exact i, by first | exact k | exact i⟩)
       | (rcases hp with rfl | rfl <;> exact ⟨by first | exact k | exact i, by first | exact k | exact i⟩))
theorem Cm.sub {l r l' r' : List Cl} {v : PyData} (h : Cm l' r' v) (h1 : ∀ a ∈ l, a ∈ l') (h2 : ∀ b ∈ r, b ∈ r') : Cm l r v := ⟨fun a ha => h.1 a (h1 a ha), fun b hb => h.2 b (h2 b hb)⟩
theorem Cm.not {l r : List Cl} {v : PyData} (h : Cm l r v) : ¬ Valid l r := fun g => by
  obtain ⟨b, hb, s⟩ := g v h.1
  exact h.2 b hb s
/-! ### a row to which nothing is to be added -/
theorem mem_of_add {l m : List Cl} (h : l = addC l m) : ∀ c ∈ m, c ∈ l := fun c hc => by rw [h]; exact mem_addC.mpr (.inr hc)
theorem truth {l r : List Cl} {ws : List Str} {ks : List (Str × PyData)} (sl : ∀ c ∈ l, lit c = false → (l, r) ∈ prem true c l r) (sr : ∀ c ∈ r, lit c = false → jump false c = false → (l, r) ∈ prem false c l r)
    (cl : ∀ c ∈ l, c ∉ r ∧ c ≠ .no) (hw : ∀ x, x ∈ ws ↔ .w x ∈ l) (k1 : ∀ x u, (x, u) ∈ ks → ∀ a, .kn x a ∈ l → So a All u) (k2 : ∀ x a, .kn x a ∈ r → ∃ u, (x, u) ∈ ks ∧ ¬ So a All u) :
    ∀ (n : Nat) (c : Cl), wt c ≤ n → (c ∈ l → So c All (vD ws ks)) ∧ (c ∈ r → ¬ So c All (vD ws ks)) := by
  intro n
  induction n with
  | zero => intro c h; have := wt_pos c; omega
  | succ n ih =>
    intro c h
    constructor
    · intro hc
      have s1 := sl c hc
      cases c with
      | w x => show x ∈ wsOf _; rw [ws_vD]; exact (hw x).mpr hc
      | no => exact absurd rfl (cl _ hc).2
      | kn x a =>
        intro u hu _
        rcases hu with rfl | hu
        · have s1 := s1 rfl
          simp only [prem, List.mem_cons, List.not_mem_nil, or_false, Prod.mk.injEq] at s1
          exact (ih a (by simp only [wt] at h; omega)).1 (mem_of_add s1.1 a (by simp))
        · rw [ks_vD] at hu
          exact k1 x u hu a hc
      | to t a =>
        have s1 := s1 rfl
        simp only [prem, List.mem_cons, List.not_mem_nil, or_false, Prod.mk.injEq] at s1
        exact (so_red t All _ a).mp ((ih (red t a) (by have := wt_red t a; omega)).1 (mem_of_add s1.1 _ (by simp)))
      | bi o a b =>
        have s1 := s1 rfl
        have ia := ih a (by simp only [wt] at h; omega)
        have ib := ih b (by simp only [wt] at h; omega)
        cases o with
        | an =>
          simp only [prem, List.mem_cons, List.not_mem_nil, or_false, Prod.mk.injEq] at s1
          exact ⟨ia.1 (mem_of_add s1.1 a (by simp)), ib.1 (mem_of_add s1.1 b (by simp))⟩
        | ei =>
          simp only [prem, List.mem_cons, List.not_mem_nil, or_false, Prod.mk.injEq] at s1
          exact s1.imp (fun z => ia.1 (mem_of_add z.1 a (by simp))) fun z => ib.1 (mem_of_add z.1 b (by simp))
        | im =>
          simp only [prem, List.mem_cons, List.not_mem_nil, or_false, Prod.mk.injEq] at s1
          intro sa
          rcases s1 with z | z
          · exact absurd sa (ia.2 (mem_of_add z.2 a (by simp)))
          · exact ib.1 (mem_of_add z.1 b (by simp))
    · intro hc
      have s1 := sr c hc
      cases c with
      | w x =>
        show ¬ x ∈ wsOf _
        rw [ws_vD]
        exact fun z => (cl _ ((hw x).mp z)).1 hc
      | no => exact fun z => z
      | kn x a =>
        obtain ⟨u, hu, hs⟩ := k2 x a hc
        exact fun z => hs (z u (.inr (by rw [ks_vD]; exact hu)) trivial)
      | to t a =>
        have s1 := s1 rfl rfl
        simp only [prem, List.mem_cons, List.not_mem_nil, or_false, Prod.mk.injEq] at s1
        exact fun z => (ih (red t a) (by have := wt_red t a; omega)).2 (mem_of_add s1.2 _ (by simp)) ((so_red t All _ a).mpr z)
      | bi o a b =>
        have s1 := s1 rfl rfl
        have ia := ih a (by simp only [wt] at h; omega)
        have ib := ih b (by simp only [wt] at h; omega)
        cases o with
        | an =>
          simp only [prem, List.mem_cons, List.not_mem_nil, or_false, Prod.mk.injEq] at s1
          rcases s1 with z | z
          · exact fun y => ia.2 (mem_of_add z.2 a (by simp)) y.1
          · exact fun y => ib.2 (mem_of_add z.2 b (by simp)) y.2
        | ei =>
          simp only [prem, List.mem_cons, List.not_mem_nil, or_false, Prod.mk.injEq] at s1
          exact fun y => y.elim (ia.2 (mem_of_add s1.2 a (by simp))) (ib.2 (mem_of_add s1.2 b (by simp)))
        | im =>
          simp only [prem, List.mem_cons, List.not_mem_nil, or_false, Prod.mk.injEq] at s1
          exact fun y => ib.2 (mem_of_add s1.2 b (by simp)) (y (ia.1 (mem_of_add s1.1 a (by simp))))
end PyK77

/-! how far the search can go -/
namespace PyK77
open PySem PySem.Spec L2 PyI
def kids (s : Bool) : Cl → List (Bool × Cl)
  | .w _ => []
  | .no => []
  | .kn _ a => [(s, a)]
  | .to t a => [(s, red t a)]
  | .bi .im a b => [(!s, a), (s, b)]
  | .bi _ a b => [(s, a), (s, b)]
def clo : Nat → Bool → Cl → List (Bool × Cl)
  | 0, _, _ => []
  | n + 1, s, c => (s, c) :: (kids s c).flatMap fun p => clo n p.1 p.2
theorem kid_wt (s : Bool) : ∀ c : Cl, ((kids s c).map fun p => wt p.2).sum + 1 ≤ wt c
  | .w _ => by simp [kids, wt]
  | .no => by simp [kids, wt]
  | .kn _ a => by simp [kids, wt]; omega
  | .to t a => by have := wt_red t a; simp [kids]; omega
  | .bi .an a b => by simp [kids, wt]; omega
  | .bi .ei a b => by simp [kids, wt]; omega
  | .bi .im a b => by simp [kids, wt]; omega
theorem kid_lt {s : Bool} {c : Cl} {p : Bool × Cl} (h : p ∈ kids s c) : wt p.2 < wt c := by
  have h1 := kid_wt s c
  have h2 : wt p.2 ≤ ((kids s c).map fun p => wt p.2).sum := by
    generalize kids s c = L at h
    clear h1
    induction L with
    | nil => cases h
    | cons a L ih =>
      rw [List.map_cons, List.sum_cons]
      rcases List.mem_cons.mp h with rfl | h
      · omega
      · have := ih h; omega
  omega
theorem kid_md {s : Bool} {c : Cl} {p : Bool × Cl} (h : p ∈ kids s c) : md p.2 ≤ md c := by
  cases c with
  | w x => cases h
  | no => cases h
  | kn x a => simp only [kids, List.mem_cons, List.not_mem_nil, or_false] at h; subst h; simp only [md]; omega
  | to t a => simp only [kids, List.mem_cons, List.not_mem_nil, or_false] at h; subst h; exact md_red t a
  | bi o a b => cases o <;> (simp only [kids, List.mem_cons, List.not_mem_nil, or_false] at h; rcases h with rfl | rfl <;> (simp only [md]; omega))
theorem clo_len : ∀ (n : Nat) (s : Bool) (c : Cl), (clo n s c).length ≤ wt c
  | 0, s, c => Nat.zero_le _
  | n + 1, s, c => by
    have h := kid_wt s c
    have : ∀ L : List (Bool × Cl), (L.flatMap fun p => clo n p.1 p.2).length ≤ (L.map fun p => wt p.2).sum := fun L => by
      induction L with
      | nil => simp
      | cons p L ih =>
        have := clo_len n p.1 p.2
        rw [List.flatMap_cons, List.length_append, List.map_cons, List.sum_cons]
        omega
    have := this (kids s c)
    rw [clo, List.length_cons]
    omega
theorem clo_wt : ∀ (n : Nat) (s : Bool) (c : Cl), ∀ p ∈ clo n s c, wt p.2 ≤ wt c
  | 0, s, c, p, h => nomatch h
  | n + 1, s, c, p, h => by
    rw [clo, List.mem_cons] at h
    rcases h with rfl | h
    · exact Nat.le_refl _
    · obtain ⟨q, h1, h2⟩ := List.mem_flatMap.mp h
      have := clo_wt n q.1 q.2 p h2
      have := kid_lt h1
      omega
def Closed (G : List (Bool × Cl)) : Prop := ∀ p ∈ G, ∀ q ∈ kids p.1 p.2, q ∈ G
theorem clo_self {n : Nat} {s : Bool} {c : Cl} (h : wt c ≤ n) : (s, c) ∈ clo n s c := by
  cases n with
  | zero => have := wt_pos c; omega
  | succ n => exact List.mem_cons_self
theorem clo_closed : ∀ (n : Nat) (s : Bool) (c : Cl), wt c ≤ n → Closed (clo n s c)
  | 0, s, c, h => by have := wt_pos c; omega
  | n + 1, s, c, h => fun p hp q hq => by
    rw [clo, List.mem_cons] at hp
    rw [clo]
    refine List.mem_cons_of_mem _ (List.mem_flatMap.mpr ?_)
    rcases hp with rfl | hp
    · exact ⟨q, hq, clo_self (by have := kid_lt hq; simp only at this; omega)⟩
    · obtain ⟨k, h1, h2⟩ := List.mem_flatMap.mp hp
      exact ⟨k, h1, clo_closed n k.1 k.2 (by have := kid_lt h1; omega) p h2 q hq⟩
theorem Closed.app {G H : List (Bool × Cl)} (a : Closed G) (b : Closed H) : Closed (G ++ H) := fun p hp q hq => by
  rcases List.mem_append.mp hp with h | h
  · exact List.mem_append_left _ (a p h q hq)
  · exact List.mem_append_right _ (b p h q hq)
theorem nodup_le {α : Type} [DecidableEq α] : ∀ {l W : List α}, l.Nodup → (∀ a ∈ l, a ∈ W) → l.length ≤ W.length
  | [], _, _, _ => Nat.zero_le _
  | a :: l, W, nd, h => by
    obtain ⟨n1, n2⟩ := List.nodup_cons.mp nd
    have : l.length ≤ (W.erase a).length := nodup_le n2 fun b hb => (List.mem_erase_of_ne (by rintro rfl; exact n1 hb)).mpr (h b (List.mem_cons_of_mem _ hb))
    have h2 := List.length_erase_of_mem (h a List.mem_cons_self)
    have h3 : 0 < W.length := List.length_pos_of_mem (h a List.mem_cons_self)
    rw [List.length_cons]
    omega
/-- a row that the search may meet -/
structure Ok (G : List (Bool × Cl)) (M : Nat) (l r : List Cl) : Prop where
  nl : l.Nodup
  nr : r.Nodup
  gl : ∀ a ∈ l, (true, a) ∈ G
  gr : ∀ b ∈ r, (false, b) ∈ G
  ml : ∀ a ∈ l, md a ≤ M
  mr : ∀ b ∈ r, md b ≤ M
theorem Ok.len {G : List (Bool × Cl)} {M : Nat} {l r : List Cl} (o : Ok G M l r) : l.length + r.length ≤ G.length := by
  have h := nodup_le (l := l.map (fun a => (true, a)) ++ r.map (fun a => (false, a))) (W := G) ?_ ?_
  · simpa using h
  · refine List.nodup_append.mpr ⟨?_, ?_, ?_⟩
    · exact List.Pairwise.map _ (fun a b h z => h (by injection z)) o.nl
    · exact List.Pairwise.map _ (fun a b h z => h (by injection z)) o.nr
    · intro a ha b hb e
      obtain ⟨x, _, rfl⟩ := List.mem_map.mp ha
      obtain ⟨y, _, rfl⟩ := List.mem_map.mp hb
      cases e
  · intro a ha
    rcases List.mem_append.mp ha with ha | ha
    · obtain ⟨x, hx, rfl⟩ := List.mem_map.mp ha; exact o.gl x hx
    · obtain ⟨x, hx, rfl⟩ := List.mem_map.mp ha; exact o.gr x hx
def ht (G : List (Bool × Cl)) (M : Nat) (l r : List Cl) : Nat := M * (G.length + 1) + (G.length - l.length - r.length) + 1
theorem Ok.addl {G : List (Bool × Cl)} {M : Nat} {l r m : List Cl} (o : Ok G M l r) (h : ∀ a ∈ m, (true, a) ∈ G) (h2 : ∀ a ∈ m, md a ≤ M) : Ok G M (addC l m) r :=
  ⟨addC_nd o.nl, o.nr, fun a ha => (mem_addC.mp ha).elim (o.gl a) (h a), o.gr, fun a ha => (mem_addC.mp ha).elim (o.ml a) (h2 a), o.mr⟩
theorem Ok.addr {G : List (Bool × Cl)} {M : Nat} {l r m : List Cl} (o : Ok G M l r) (h : ∀ a ∈ m, (false, a) ∈ G) (h2 : ∀ a ∈ m, md a ≤ M) : Ok G M l (addC r m) :=
  ⟨o.nl, addC_nd o.nr, o.gl, fun a ha => (mem_addC.mp ha).elim (o.gr a) (h a), o.ml, fun a ha => (mem_addC.mp ha).elim (o.mr a) (h2 a)⟩
theorem all1 {P : Cl → Prop} {a : Cl} (h : P a) : ∀ x ∈ [a], P x := fun x hx => by rw [List.mem_singleton] at hx; subst hx; exact h
theorem all2 {P : Cl → Prop} {a b : Cl} (h : P a) (h2 : P b) : ∀ x ∈ [a, b], P x := fun x hx => by
  rcases List.mem_cons.mp hx with rfl | hx
  · exact h
  · rw [List.mem_singleton] at hx; subst hx; exact h2
theorem Ok.prem {G : List (Bool × Cl)} (cl : Closed G) {M : Nat} {l r : List Cl} (o : Ok G M l r) {s : Bool} {c : Cl} (hc : c ∈ side s l r) (hj : jump s c = false) : ∀ p ∈ prem s c l r, Ok G M p.1 p.2 := by
  have hm : md c ≤ M := by
    cases s with
    | false => exact o.mr c hc
    | true => exact o.ml c hc
  have hg : (s, c) ∈ G := by
    cases s with
    | false => exact o.gr c hc
    | true => exact o.gl c hc
  have k : ∀ q ∈ kids s c, q ∈ G := cl _ hg
  have m : ∀ q ∈ kids s c, md q.2 ≤ M := fun q hq => Nat.le_trans (kid_md hq) hm
  intro p hp
  cases s with
  | true =>
    cases c with
    | w x => cases hp
    | no => cases hp
    | kn x a =>
      simp only [PyK77.prem, List.mem_cons, List.not_mem_nil, or_false] at hp; subst hp
      exact o.addl (all1 (k _ (by simp [kids]))) (all1 (m (true, a) (by simp [kids])))
    | to t a =>
      simp only [PyK77.prem, List.mem_cons, List.not_mem_nil, or_false] at hp; subst hp
      exact o.addl (all1 (k _ (by simp [kids]))) (all1 (m (true, red t a) (by simp [kids])))
    | bi op a b =>
      cases op with
      | an =>
        simp only [PyK77.prem, List.mem_cons, List.not_mem_nil, or_false] at hp; subst hp
        exact o.addl (all2 (k _ (by simp [kids])) (k _ (by simp [kids]))) (all2 (m (true, a) (by simp [kids])) (m (true, b) (by simp [kids])))
      | ei =>
        simp only [PyK77.prem, List.mem_cons, List.not_mem_nil, or_false] at hp
        rcases hp with rfl | rfl
        · exact o.addl (all1 (k _ (by simp [kids]))) (all1 (m (true, a) (by simp [kids])))
        · exact o.addl (all1 (k _ (by simp [kids]))) (all1 (m (true, b) (by simp [kids])))
      | im =>
        simp only [PyK77.prem, List.mem_cons, List.not_mem_nil, or_false] at hp
        rcases hp with rfl | rfl
        · exact o.addr (all1 (k _ (by simp [kids]))) (all1 (m (false, a) (by simp [kids])))
        · exact o.addl (all1 (k _ (by simp [kids]))) (all1 (m (true, b) (by simp [kids])))
  | false =>
    cases c with
    | w x => cases hp
    | no => cases hp
    | kn x a => cases hj
    | to t a =>
      simp only [PyK77.prem, List.mem_cons, List.not_mem_nil, or_false] at hp; subst hp
      exact o.addr (all1 (k _ (by simp [kids]))) (all1 (m (false, red t a) (by simp [kids])))
    | bi op a b =>
      cases op with
      | an =>
        simp only [PyK77.prem, List.mem_cons, List.not_mem_nil, or_false] at hp
        rcases hp with rfl | rfl
        · exact o.addr (all1 (k _ (by simp [kids]))) (all1 (m (false, a) (by simp [kids])))
        · exact o.addr (all1 (k _ (by simp [kids]))) (all1 (m (false, b) (by simp [kids])))
      | ei =>
        simp only [PyK77.prem, List.mem_cons, List.not_mem_nil, or_false] at hp; subst hp
        exact o.addr (all2 (k _ (by simp [kids])) (k _ (by simp [kids]))) (all2 (m (false, a) (by simp [kids])) (m (false, b) (by simp [kids])))
      | im =>
        simp only [PyK77.prem, List.mem_cons, List.not_mem_nil, or_false] at hp; subst hp
        exact (o.addl (all1 (k _ (by simp [kids]))) (all1 (m (true, a) (by simp [kids])))).addr (all1 (k _ (by simp [kids]))) (all1 (m (false, b) (by simp [kids])))
theorem Ok.jump {G : List (Bool × Cl)} (cl : Closed G) {M : Nat} {l r : List Cl} (o : Ok G M l r) {x : Str} {a : Cl} (hc : .kn x a ∈ r) : 0 < M ∧ Ok G (M - 1) (addC [] (knb x l)) [a] := by
  have hm : 1 + md a ≤ M := o.mr _ hc
  have e : Ok G (M - 1) [] [a] := ⟨List.nodup_nil, List.nodup_cons.mpr ⟨List.not_mem_nil, List.nodup_nil⟩, (fun _ h => nomatch h), all1 (cl _ (o.gr _ hc) _ (by simp [kids])), (fun _ h => nomatch h), all1 (by omega)⟩
  refine ⟨by omega, e.addl (fun b hb => ?_) fun b hb => ?_⟩
  · exact cl _ (o.gl _ (mem_knb.mp hb)) _ (by simp [kids])
  · have : 1 + md b ≤ M := o.ml _ (mem_knb.mp hb); omega
theorem prem_len {s : Bool} {c : Cl} {l r : List Cl} (hj : jump s c = false) {p : List Cl × List Cl} (hp : p ∈ prem s c l r) (hne : p ≠ (l, r)) : l.length + r.length < p.1.length + p.2.length := by
  have k : ∀ l m : List Cl, l.length ≤ (addC l m).length := fun l m => addC_le m l
  have j : ∀ {l m : List Cl}, addC l m ≠ l → l.length < (addC l m).length := fun h => addC_lt h
  have one : ∀ {l r m : List Cl}, (addC l m, r) ≠ (l, r) → l.length + r.length < (addC l m).length + r.length := fun {l r m} h => by
    have := j (l := l) (m := m) fun z => h (by rw [z]); omega
  have two : ∀ {l r m : List Cl}, (l, addC r m) ≠ (l, r) → l.length + r.length < l.length + (addC r m).length := fun {l r m} h => by
    have := j (l := r) (m := m) fun z => h (by rw [z]); omega
  have both : ∀ {l r m n : List Cl}, (addC l m, addC r n) ≠ (l, r) → l.length + r.length < (addC l m).length + (addC r n).length := fun {l r m n} h => by
    have h1 := k l m
    have h2 := k r n
    by_cases e1 : addC l m = l
    · have := j (l := r) (m := n) fun z => h (by rw [z, e1]); omega
    · have := j e1; omega
  cases s <;> cases c <;> (try rename_i o _ _; cases o) <;> first
    | exact absurd hp List.not_mem_nil
    | exact Bool.noConfusion (show true = false from hj)
    | (simp only [prem, List.mem_cons, List.not_mem_nil, or_false] at hp
       first
       | (subst hp; first | exact one hne | exact two hne | exact both hne)
       | (rcases hp with rfl | rfl <;> first | exact one hne | exact two hne | exact both hne))
theorem ht_lt {G : List (Bool × Cl)} {M : Nat} {l r l' r' : List Cl} (o : Ok G M l' r') (h : l.length + r.length < l'.length + r'.length) : ht G M l' r' < ht G M l r := by
  have := o.len
  unfold ht
  omega
theorem ht_jump {G : List (Bool × Cl)} {M : Nat} {l r l' r' : List Cl} (hM : 0 < M) : ht G (M - 1) l' r' < ht G M l r := by
  obtain ⟨k, rfl⟩ : ∃ k, M = k + 1 := ⟨M - 1, by omega⟩
  unfold ht
  rw [Nat.add_sub_cancel, Nat.succ_mul]
  omega
end PyK77

/-! reduced, extent, added -/
namespace PyK77
open PySem PySem.Spec L2 PyI
abbrev Sl := Option (Stt × PyData)
theorem lc_mapT {α : Type} {vs : List Nat} {g : G1} {t : Mo Bool} {fe : Mo Rs} {ρ0 : Rho} {e : α → PyData} {p : α → Bool} {f : α → PyData} : ∀ (l : List α) (acc : List PyData), acc.length + l.length ≤ LIM →
    (∀ a ∈ l, ∃ ρ1, g.run (e a) ρ0 = some ((), ρ1) ∧ ∃ ρ2, t ρ1 = some (p a, ρ2) ∧ (p a = false → wipeE ρ2 vs = ρ0) ∧ (p a = true → ∃ r ρ3 ρ4, fe ρ2 = some (r, ρ3) ∧ keepR r ρ3 = some (f a, ρ4) ∧ wipeE ρ4 vs = ρ0)) →
    lcM vs g t fe (l.map e) acc ρ0 = some (acc ++ (l.filter p).map f, ρ0)
  | [], acc, _, _ => by simp [lcM, retM]
  | a :: l, acc, hl, h => by
    obtain ⟨ρ1, e1, ρ2, e2, h1, h2⟩ := h a List.mem_cons_self
    have hl' : acc.length + l.length + 1 ≤ LIM := by rw [List.length_cons] at hl; omega
    rw [List.map_cons]
    unfold lcM
    rw [e1]
    dsimp only
    rw [e2]
    cases hp : p a with
    | false =>
      dsimp only
      rw [h1 hp, lc_mapT l acc (by omega) fun x hx => h x (List.mem_cons_of_mem _ hx), List.filter_cons_of_neg (by simp [hp])]
    | true =>
      obtain ⟨r, ρ3, ρ4, e3, e4, e5⟩ := h2 hp
      dsimp only
      have eb : bindM fe keepR ρ2 = some (f a, ρ4) := by unfold bindM; rw [e3]; exact e4
      rw [eb]
      dsimp only
      rw [if_pos (by omega), e5, lc_mapT l (acc ++ [f a]) (by rw [List.length_append, List.length_singleton]; omega) fun x hx => h x (List.mem_cons_of_mem _ hx), List.filter_cons_of_pos hp]
      simp
theorem lc_evalT {α : Type} {vs : List Nat} {fi : Mo (List PyData)} {g : G1} {t : Mo Bool} {fe : Mo Rs} {ρ ρ1 : Rho} {l : List α} {e : α → PyData} (p : α → Bool) (f : α → PyData) (hi : fi ρ = some (l.map e, ρ1)) (hl : l.length ≤ LIM)
    (h : ∀ a ∈ l, ∃ ρ2, g.run (e a) (wipeE ρ1 vs) = some ((), ρ2) ∧ ∃ ρ3, t ρ2 = some (p a, ρ3) ∧ (p a = false → wipeE ρ3 vs = wipeE ρ1 vs) ∧ (p a = true → ∃ r ρ4 ρ5, fe ρ3 = some (r, ρ4) ∧ keepR r ρ4 = some (f a, ρ5) ∧ wipeE ρ5 vs = wipeE ρ1 vs)) :
    xLc vs fi g t fe ρ = some (.fresh (.list ((l.filter p).map f)), restE ρ1 (wipeE ρ1 vs) vs) := by
  unfold xLc
  rw [hi]
  dsimp only
  rw [lc_mapT l [] (by simpa using hl) h]
  rfl
theorem forM_cons (d : PyData) (ds : List PyData) (g : G1) (b : Mo Fl) {ρ ρ1 ρ2 : Rho} (e1 : g.run d ρ = some ((), ρ1)) (e2 : b ρ1 = some (.nx, ρ2)) : forM (d :: ds) g b ρ = forM ds g b ρ2 := by
  conv => lhs; unfold PyI.forM
  rw [e1]
  dsimp only
  rw [e2]
theorem forM_ret (d : PyData) (ds : List PyData) (g : G1) (b : Mo Fl) {ρ ρ1 ρ2 : Rho} {r : Rs} (e1 : g.run d ρ = some ((), ρ1)) (e2 : b ρ1 = some (.ret r, ρ2)) : forM (d :: ds) g b ρ = some (.ret r, ρ2) := by
  conv => lhs; unfold PyI.forM
  rw [e1]
  dsimp only
  rw [e2]
theorem plain_bools : ∀ xs : List Bool, PyData.plainAll (xs.map .bool) = true
  | [] => by simp [PyData.plainAll]
  | x :: xs => by simp [PyData.plainAll, PyData.plain, plain_bools xs]
theorem inD_bools (x : Bool) (xs : List Bool) : inD (.bool x) (.list (xs.map .bool)) = some (xs.any fun y => y == x) := by
  show (if (PyData.bool x).plain = true ∧ PyData.plainAll (xs.map .bool) = true ∧ (PyData.bool x).depth ≤ 50 then some ((xs.map PyData.bool).any fun y => y.eqv (.bool x)) else none) = _
  rw [if_pos ⟨by simp [PyData.plain], plain_bools xs, by simp [PyData.depth]⟩, List.any_map]
  rfl
/-- False in [..], False not in [..] -/
theorem in_all {α : Type} (l : List α) (p : α → Bool) : opInA (.bool false) (.list (l.map fun a => PyData.bool (p a))) = some (.bool (!l.all p)) := by
  have : (l.map fun a => PyData.bool (p a)) = (l.map p).map .bool := by rw [List.map_map]; rfl
  rw [this]
  unfold opInA anyIn
  dsimp only
  rw [inD_bools]
  show some (PyData.bool _) = _
  congr 2
  rw [List.any_map, List.all_eq_not_any_not, Bool.not_not]
  congr 1
  funext a
  simp only [Function.comp]
  cases p a <;> rfl
theorem nin_all {α : Type} (l : List α) (p : α → Bool) : opNotInA (.bool false) (.list (l.map fun a => PyData.bool (p a))) = some (.bool (l.all p)) := by
  have h := in_all l p
  unfold opInA at h
  unfold opNotInA
  cases e : anyIn (.bool false) (.list (l.map fun a => PyData.bool (p a))) with
  | none => rw [e] at h; cases h
  | some b =>
    rw [e] at h
    have : b = !l.all p := by injection h with h; injection h
    show some (PyData.bool (!b)) = _
    rw [this, Bool.not_not]
theorem inD_strs (w : Str) (xs : List Str) : inD (.str w) (.list (xs.map .str)) = some (decide (w ∈ xs)) := by
  have pl : PyData.plainAll (xs.map .str) = true := by
    induction xs with
    | nil => rfl
    | cons x r ih => rw [List.map_cons, PyData.plainAll, ih]; rfl
  show (if (PyData.str w).plain = true ∧ PyData.plainAll (xs.map .str) = true ∧ (PyData.str w).depth ≤ 50 then some ((xs.map PyData.str).any fun y => PyData.eqv y (.str w)) else none) = _
  rw [if_pos ⟨rfl, pl, by simp [PyData.depth]⟩]
  congr 1
  induction xs with
  | nil => rfl
  | cons x r ih =>
    have ih := ih (by rw [List.map_cons, PyData.plainAll, Bool.and_eq_true] at pl; exact pl.2)
    rw [List.map_cons, List.any_cons, ih]
    have e1 : PyData.eqv (.str x) (.str w) = decide (x = w) := by
      show (x == w) = _
      by_cases h : x = w
      · simp [h]
      · simp [h]
    rw [e1]
    by_cases h : x = w
    · subst h; simp
    · have h2 : ¬ w = x := fun z => h z.symm
      simp [h, h2]
theorem nin_strs (w : Str) (xs : List Str) : opNotInA (.str w) (.list (xs.map .str)) = some (.bool (!decide (w ∈ xs))) := by
  unfold opNotInA
  show Option.map _ (inD (.str w) (.list (xs.map .str))) = _
  rw [inD_strs]; rfl
theorem in_strs (w : Str) (xs : List Str) : opInA (.str w) (.list (xs.map .str)) = some (.bool (decide (w ∈ xs))) := by
  unfold opInA
  show Option.map _ (inD (.str w) (.list (xs.map .str))) = _
  rw [inD_strs]; rfl

theorem forM_nil (g : G1) (b : Mo Fl) (ρ : Rho) : forM [] g b ρ = some (.nx, ρ) := by unfold PyI.forM; rfl
def rea : Option Sl → Option Rs
  | some (some (.shr, d)) => some (.kept d)
  | some (some (.own, d)) => some (.fresh d)
  | _ => none
@[simp] theorem ro_k (ρ : Rho) (d : PyData) : retOf ρ (.ret (.kept d)) = some (.kept d) := rfl
@[simp] theorem ro_f (ρ : Rho) (d : PyData) : retOf ρ (.ret (.fresh d)) = some (.fresh d) := rfl
@[simp] theorem ro_n (ρ : Rho) : retOf ρ .nx = some (.kept .none) := rfl
@[simp] theorem ro_s (ρ : Rho) (i : Nat) : retOf ρ (.ret (.slot i)) = rea (gi ρ i) := rfl
@[simp] theorem rea1 (d : PyData) : rea (some (some (.shr, d))) = some (.kept d) := rfl
@[simp] theorem rea2 (d : PyData) : rea (some (some (.own, d))) = some (.fresh d) := rfl
def endR (x : Option (Fl × Rho)) : Option Rs := x.bind fun p => retOf p.2 p.1
@[simp] theorem endR1 (fl : Fl) (ρ : Rho) : endR (some (fl, ρ)) = retOf ρ fl := rfl
theorem run_ex {np n : Nat} {body : Mo Fl} {args : List (Stt × PyData)} {r : Rs} (hf : argsFit np args = true) (hl : ∀ ρ', lentOf ρ' args = some none) (e : endR (body (args.map some ++ List.replicate (n - args.length) none)) = some r) : runF np n body args = some (r, none) := by
  unfold endR at e
  obtain ⟨⟨fl, ρ'⟩, e1, e2⟩ := Option.bind_eq_some_iff.mp e
  rw [runF_def hf, e1]
  dsimp only at e2 ⊢
  rw [e2]
  dsimp only
  rw [hl]
@[simp] theorem gsT (g : G2) (ds : List PyData) (ρ : Rho) : (gT g).run (.tuple ds) ρ = g.run ds ρ := rfl
@[simp] theorem q_word_none : (("word" : Str) == ("none" : Str)) = false := by decide
@[simp] theorem q_word_knows : (("word" : Str) == ("knows" : Str)) = false := by decide
@[simp] theorem q_word_told : (("word" : Str) == ("told" : Str)) = false := by decide
@[simp] theorem q_word_and : (("word" : Str) == ("and" : Str)) = false := by decide
@[simp] theorem q_word_or : (("word" : Str) == ("or" : Str)) = false := by decide
@[simp] theorem q_word_if : (("word" : Str) == ("if" : Str)) = false := by decide
@[simp] theorem q_word_left : (("word" : Str) == ("left" : Str)) = false := by decide
@[simp] theorem q_word_right : (("word" : Str) == ("right" : Str)) = false := by decide
@[simp] theorem q_word_same : (("word" : Str) == ("same" : Str)) = false := by decide
@[simp] theorem q_word_shown : (("word" : Str) == ("shown" : Str)) = false := by decide
@[simp] theorem q_word_view : (("word" : Str) == ("view" : Str)) = false := by decide
@[simp] theorem q_none_word : (("none" : Str) == ("word" : Str)) = false := by decide
@[simp] theorem q_none_knows : (("none" : Str) == ("knows" : Str)) = false := by decide
@[simp] theorem q_none_told : (("none" : Str) == ("told" : Str)) = false := by decide
@[simp] theorem q_none_and : (("none" : Str) == ("and" : Str)) = false := by decide
@[simp] theorem q_none_or : (("none" : Str) == ("or" : Str)) = false := by decide
@[simp] theorem q_none_if : (("none" : Str) == ("if" : Str)) = false := by decide
@[simp] theorem q_none_left : (("none" : Str) == ("left" : Str)) = false := by decide
@[simp] theorem q_none_right : (("none" : Str) == ("right" : Str)) = false := by decide
@[simp] theorem q_none_same : (("none" : Str) == ("same" : Str)) = false := by decide
@[simp] theorem q_none_shown : (("none" : Str) == ("shown" : Str)) = false := by decide
@[simp] theorem q_none_view : (("none" : Str) == ("view" : Str)) = false := by decide
@[simp] theorem q_knows_word : (("knows" : Str) == ("word" : Str)) = false := by decide
@[simp] theorem q_knows_none : (("knows" : Str) == ("none" : Str)) = false := by decide
@[simp] theorem q_knows_told : (("knows" : Str) == ("told" : Str)) = false := by decide
@[simp] theorem q_knows_and : (("knows" : Str) == ("and" : Str)) = false := by decide
@[simp] theorem q_knows_or : (("knows" : Str) == ("or" : Str)) = false := by decide
@[simp] theorem q_knows_if : (("knows" : Str) == ("if" : Str)) = false := by decide
@[simp] theorem q_knows_left : (("knows" : Str) == ("left" : Str)) = false := by decide
@[simp] theorem q_knows_right : (("knows" : Str) == ("right" : Str)) = false := by decide
@[simp] theorem q_knows_same : (("knows" : Str) == ("same" : Str)) = false := by decide
@[simp] theorem q_knows_shown : (("knows" : Str) == ("shown" : Str)) = false := by decide
@[simp] theorem q_knows_view : (("knows" : Str) == ("view" : Str)) = false := by decide
@[simp] theorem q_told_word : (("told" : Str) == ("word" : Str)) = false := by decide
@[simp] theorem q_told_none : (("told" : Str) == ("none" : Str)) = false := by decide
@[simp] theorem q_told_knows : (("told" : Str) == ("knows" : Str)) = false := by decide
@[simp] theorem q_told_and : (("told" : Str) == ("and" : Str)) = false := by decide
@[simp] theorem q_told_or : (("told" : Str) == ("or" : Str)) = false := by decide
@[simp] theorem q_told_if : (("told" : Str) == ("if" : Str)) = false := by decide
@[simp] theorem q_told_left : (("told" : Str) == ("left" : Str)) = false := by decide
@[simp] theorem q_told_right : (("told" : Str) == ("right" : Str)) = false := by decide
@[simp] theorem q_told_same : (("told" : Str) == ("same" : Str)) = false := by decide
@[simp] theorem q_told_shown : (("told" : Str) == ("shown" : Str)) = false := by decide
@[simp] theorem q_told_view : (("told" : Str) == ("view" : Str)) = false := by decide
@[simp] theorem q_and_word : (("and" : Str) == ("word" : Str)) = false := by decide
@[simp] theorem q_and_none : (("and" : Str) == ("none" : Str)) = false := by decide
@[simp] theorem q_and_knows : (("and" : Str) == ("knows" : Str)) = false := by decide
@[simp] theorem q_and_told : (("and" : Str) == ("told" : Str)) = false := by decide
@[simp] theorem q_and_or : (("and" : Str) == ("or" : Str)) = false := by decide
@[simp] theorem q_and_if : (("and" : Str) == ("if" : Str)) = false := by decide
@[simp] theorem q_and_left : (("and" : Str) == ("left" : Str)) = false := by decide
@[simp] theorem q_and_right : (("and" : Str) == ("right" : Str)) = false := by decide
@[simp] theorem q_and_same : (("and" : Str) == ("same" : Str)) = false := by decide
@[simp] theorem q_and_shown : (("and" : Str) == ("shown" : Str)) = false := by decide
@[simp] theorem q_and_view : (("and" : Str) == ("view" : Str)) = false := by decide
@[simp] theorem q_or_word : (("or" : Str) == ("word" : Str)) = false := by decide
@[simp] theorem q_or_none : (("or" : Str) == ("none" : Str)) = false := by decide
@[simp] theorem q_or_knows : (("or" : Str) == ("knows" : Str)) = false := by decide
@[simp] theorem q_or_told : (("or" : Str) == ("told" : Str)) = false := by decide
@[simp] theorem q_or_and : (("or" : Str) == ("and" : Str)) = false := by decide
@[simp] theorem q_or_if : (("or" : Str) == ("if" : Str)) = false := by decide
@[simp] theorem q_or_left : (("or" : Str) == ("left" : Str)) = false := by decide
@[simp] theorem q_or_right : (("or" : Str) == ("right" : Str)) = false := by decide
@[simp] theorem q_or_same : (("or" : Str) == ("same" : Str)) = false := by decide
@[simp] theorem q_or_shown : (("or" : Str) == ("shown" : Str)) = false := by decide
@[simp] theorem q_or_view : (("or" : Str) == ("view" : Str)) = false := by decide
@[simp] theorem q_if_word : (("if" : Str) == ("word" : Str)) = false := by decide
@[simp] theorem q_if_none : (("if" : Str) == ("none" : Str)) = false := by decide
@[simp] theorem q_if_knows : (("if" : Str) == ("knows" : Str)) = false := by decide
@[simp] theorem q_if_told : (("if" : Str) == ("told" : Str)) = false := by decide
@[simp] theorem q_if_and : (("if" : Str) == ("and" : Str)) = false := by decide
@[simp] theorem q_if_or : (("if" : Str) == ("or" : Str)) = false := by decide
@[simp] theorem q_if_left : (("if" : Str) == ("left" : Str)) = false := by decide
@[simp] theorem q_if_right : (("if" : Str) == ("right" : Str)) = false := by decide
@[simp] theorem q_if_same : (("if" : Str) == ("same" : Str)) = false := by decide
@[simp] theorem q_if_shown : (("if" : Str) == ("shown" : Str)) = false := by decide
@[simp] theorem q_if_view : (("if" : Str) == ("view" : Str)) = false := by decide
@[simp] theorem q_left_word : (("left" : Str) == ("word" : Str)) = false := by decide
@[simp] theorem q_left_none : (("left" : Str) == ("none" : Str)) = false := by decide
@[simp] theorem q_left_knows : (("left" : Str) == ("knows" : Str)) = false := by decide
@[simp] theorem q_left_told : (("left" : Str) == ("told" : Str)) = false := by decide
@[simp] theorem q_left_and : (("left" : Str) == ("and" : Str)) = false := by decide
@[simp] theorem q_left_or : (("left" : Str) == ("or" : Str)) = false := by decide
@[simp] theorem q_left_if : (("left" : Str) == ("if" : Str)) = false := by decide
@[simp] theorem q_left_right : (("left" : Str) == ("right" : Str)) = false := by decide
@[simp] theorem q_left_same : (("left" : Str) == ("same" : Str)) = false := by decide
@[simp] theorem q_left_shown : (("left" : Str) == ("shown" : Str)) = false := by decide
@[simp] theorem q_left_view : (("left" : Str) == ("view" : Str)) = false := by decide
@[simp] theorem q_right_word : (("right" : Str) == ("word" : Str)) = false := by decide
@[simp] theorem q_right_none : (("right" : Str) == ("none" : Str)) = false := by decide
@[simp] theorem q_right_knows : (("right" : Str) == ("knows" : Str)) = false := by decide
@[simp] theorem q_right_told : (("right" : Str) == ("told" : Str)) = false := by decide
@[simp] theorem q_right_and : (("right" : Str) == ("and" : Str)) = false := by decide
@[simp] theorem q_right_or : (("right" : Str) == ("or" : Str)) = false := by decide
@[simp] theorem q_right_if : (("right" : Str) == ("if" : Str)) = false := by decide
@[simp] theorem q_right_left : (("right" : Str) == ("left" : Str)) = false := by decide
@[simp] theorem q_right_same : (("right" : Str) == ("same" : Str)) = false := by decide
@[simp] theorem q_right_shown : (("right" : Str) == ("shown" : Str)) = false := by decide
@[simp] theorem q_right_view : (("right" : Str) == ("view" : Str)) = false := by decide
@[simp] theorem q_same_word : (("same" : Str) == ("word" : Str)) = false := by decide
@[simp] theorem q_same_none : (("same" : Str) == ("none" : Str)) = false := by decide
@[simp] theorem q_same_knows : (("same" : Str) == ("knows" : Str)) = false := by decide
@[simp] theorem q_same_told : (("same" : Str) == ("told" : Str)) = false := by decide
@[simp] theorem q_same_and : (("same" : Str) == ("and" : Str)) = false := by decide
@[simp] theorem q_same_or : (("same" : Str) == ("or" : Str)) = false := by decide
@[simp] theorem q_same_if : (("same" : Str) == ("if" : Str)) = false := by decide
@[simp] theorem q_same_left : (("same" : Str) == ("left" : Str)) = false := by decide
@[simp] theorem q_same_right : (("same" : Str) == ("right" : Str)) = false := by decide
@[simp] theorem q_same_shown : (("same" : Str) == ("shown" : Str)) = false := by decide
@[simp] theorem q_same_view : (("same" : Str) == ("view" : Str)) = false := by decide
@[simp] theorem q_shown_word : (("shown" : Str) == ("word" : Str)) = false := by decide
@[simp] theorem q_shown_none : (("shown" : Str) == ("none" : Str)) = false := by decide
@[simp] theorem q_shown_knows : (("shown" : Str) == ("knows" : Str)) = false := by decide
@[simp] theorem q_shown_told : (("shown" : Str) == ("told" : Str)) = false := by decide
@[simp] theorem q_shown_and : (("shown" : Str) == ("and" : Str)) = false := by decide
@[simp] theorem q_shown_or : (("shown" : Str) == ("or" : Str)) = false := by decide
@[simp] theorem q_shown_if : (("shown" : Str) == ("if" : Str)) = false := by decide
@[simp] theorem q_shown_left : (("shown" : Str) == ("left" : Str)) = false := by decide
@[simp] theorem q_shown_right : (("shown" : Str) == ("right" : Str)) = false := by decide
@[simp] theorem q_shown_same : (("shown" : Str) == ("same" : Str)) = false := by decide
@[simp] theorem q_shown_view : (("shown" : Str) == ("view" : Str)) = false := by decide
@[simp] theorem q_view_word : (("view" : Str) == ("word" : Str)) = false := by decide
@[simp] theorem q_view_none : (("view" : Str) == ("none" : Str)) = false := by decide
@[simp] theorem q_view_knows : (("view" : Str) == ("knows" : Str)) = false := by decide
@[simp] theorem q_view_told : (("view" : Str) == ("told" : Str)) = false := by decide
@[simp] theorem q_view_and : (("view" : Str) == ("and" : Str)) = false := by decide
@[simp] theorem q_view_or : (("view" : Str) == ("or" : Str)) = false := by decide
@[simp] theorem q_view_if : (("view" : Str) == ("if" : Str)) = false := by decide
@[simp] theorem q_view_left : (("view" : Str) == ("left" : Str)) = false := by decide
@[simp] theorem q_view_right : (("view" : Str) == ("right" : Str)) = false := by decide
@[simp] theorem q_view_same : (("view" : Str) == ("same" : Str)) = false := by decide
@[simp] theorem q_view_shown : (("view" : Str) == ("shown" : Str)) = false := by decide
/-- x in ("a", "b") -/
theorem in2 (x a b : Str) : opInA (.str x) (.tuple [.str a, .str b]) = some (.bool (x == a || x == b)) := by
  show Option.map _ (inD (.str x) (.tuple [.str a, .str b])) = _
  have : inD (.str x) (.tuple [.str a, .str b]) = some (x == a || x == b) := by
    show (if (PyData.str x).plain = true ∧ PyData.plainAll [.str a, .str b] = true ∧ (PyData.str x).depth ≤ 50 then some (([PyData.str a, .str b]).any fun y => PyData.eqv y (.str x)) else none) = _
    rw [if_pos ⟨rfl, rfl, by simp [PyData.depth]⟩]
    simp only [List.any_cons, List.any_nil, Bool.or_false, eqv_str, str_beq]
    congr 2 <;> exact decide_eq_decide.mpr ⟨Eq.symm, Eq.symm⟩
  rw [this]; rfl
theorem nin2 (x a b : Str) : opNotInA (.str x) (.tuple [.str a, .str b]) = some (.bool (!(x == a || x == b))) := by
  have h := in2 x a b
  unfold opInA at h
  unfold opNotInA
  cases e : anyIn (.str x) (.tuple [.str a, .str b]) with
  | none => rw [e] at h; cases h
  | some c =>
    rw [e] at h
    have : c = (x == a || x == b) := by injection h with h; injection h
    rw [this]; rfl
def hdS : Cl → Str
  | .w _ => "word"
  | .no => "none"
  | .kn _ _ => "knows"
  | .to _ _ => "told"
  | .bi o _ _ => o.str
theorem ix0 (c : Cl) : opIx (enc c) (.int 0) = some (.str (hdS c)) := by cases c <;> simp [enc, hdS]
theorem hd_lit (c : Cl) : (hdS c == ("word" : Str) || hdS c == ("none" : Str)) = lit c := by
  cases c with
  | bi o a b => cases o <;> simp [hdS, lit, Op.str]
  | _ => simp [hdS, lit]
theorem hd_kn (c : Cl) : (hdS c == ("knows" : Str)) = (match c with | .kn _ _ => true | _ => false) := by
  cases c with
  | bi o a b => exact (op_t o).2.2.1
  | _ => rfl
theorem reduced_ok (R : Fns) (s a : Cl) : runF 1 4 (m_reduced R) [(.shr, enc (.to s a))] = some (.kept (enc (red s a)), none) := by
  refine run_ex rfl (fun _ => rfl) ?_
  show endR (m_reduced R [some (.shr, enc (.to s a)), none, none, none]) = _
  unfold m_reduced
  cases a with
  | bi o a b => cases o <;> simp [enc, red, in2, Op.str]
  | _ => simp [enc, red, in2, Op.str]
/-- extent, at every level that is high enough -/
theorem extent_ok : ∀ (n : Nat) (c : Cl), ext c ≤ n → (lvl n).extent [(.shr, enc c)] = some (.kept (.int (ext c)), none)
  | 0, c, h => by have := ext_pos c; omega
  | n + 1, c, h => by
    show runF 1 1 (m_extent (lvl n)) [(.shr, enc c)] = _
    refine run_ex rfl (fun _ => rfl) ?_
    show endR (m_extent (lvl n) [some (.shr, enc c)]) = _
    unfold m_extent
    cases c with
    | w x => simp [enc, in2, ext]
    | no => simp [enc, in2, ext]
    | kn x a =>
      have i := extent_ok n a (by simp only [ext] at h; omega)
      simp [enc, in2, ext, i]
    | to s a =>
      have i := extent_ok n a (by simp only [ext] at h; omega)
      have j := extent_ok n s (by simp only [ext] at h; omega)
      simp [enc, in2, ext, i, j]
    | bi o a b =>
      have i := extent_ok n a (by simp only [ext] at h; omega)
      have j := extent_ok n b (by simp only [ext] at h; omega)
      cases o <;> simp [enc, in2, ext, i, j, Op.str]
def bAd : Mo Fl := sIf (tV (x2 (xV 3) (xV 2) opNotInA)) (sDrop (xMut "list" 2 mAppend (aC (xV 3) aN))) sPass
theorem m_added_eq (R : Fns) : m_added R = sSeq (sSet 2 (xB oListA (aC (xV 0) aN))) (sSeq (sFor (iS (xV 1)) (gN 3) bAd) (sRet (xB oTuple (aC (xV 2) aN)))) := rfl
theorem add_loop (v0 v1 : Sl) : ∀ (m f : List Cl) (v3 : Sl), f.length + m.length ≤ 1000 → (∀ a ∈ m, ext a ≤ 48) → ∃ y3, forM (m.map enc) (gN 3) bAd [v0, v1, some (.own, .list (f.map enc)), v3] = some (.nx, [v0, v1, some (.own, .list ((addC f m).map enc)), y3])
  | [], f, v3, _, _ => ⟨v3, forM_nil _ _ _⟩
  | a :: m, f, v3, hl, h => by
    have hi := in_L (h a List.mem_cons_self) f
    rw [List.length_cons] at hl
    by_cases ha : a ∈ f
    · obtain ⟨y3, e⟩ := add_loop v0 v1 m f (some (.shr, enc a)) (by omega) fun x hx => h x (List.mem_cons_of_mem _ hx)
      refine ⟨y3, ?_⟩
      rw [List.map_cons, forM_cons (ρ1 := [v0, v1, some (.own, .list (f.map enc)), some (.shr, enc a)]) (ρ2 := [v0, v1, some (.own, .list (f.map enc)), some (.shr, enc a)]) _ _ _ _ (by simp) (by unfold bAd; simp [hi, ha]), e, addC, if_pos ha]
    · obtain ⟨y3, e⟩ := add_loop v0 v1 m (f ++ [a]) (some (.shr, enc a)) (by rw [List.length_append, List.length_singleton]; omega) fun x hx => h x (List.mem_cons_of_mem _ hx)
      refine ⟨y3, ?_⟩
      have hL : (f.map enc).length < LIM := by rw [List.length_map]; exact Nat.lt_of_le_of_lt (show f.length ≤ 1000 by omega) (by decide)
      have hap : mAppend (.list (f.map enc)) [enc a] = some (.list ((f ++ [a]).map enc), .none) := by
        show (if (f.map enc).length < LIM then some (PyData.list (f.map enc ++ [enc a]), PyData.none) else none) = _
        rw [if_pos hL, List.map_append]; rfl
      rw [List.map_cons, forM_cons (ρ1 := [v0, v1, some (.own, .list (f.map enc)), some (.shr, enc a)]) (ρ2 := [v0, v1, some (.own, .list ((f ++ [a]).map enc)), some (.shr, enc a)]) _ _ _ _ (by simp) (by unfold bAd; simp [hi, ha, hap]), e, addC, if_neg ha]
theorem added_ok (R : Fns) (l m : List Cl) (st : Stt) (hs : Rdg st) (hl : l.length + m.length ≤ 1000) (h : ∀ a ∈ m, ext a ≤ 48) : runF 2 4 (m_added R) [(.shr, encL l), (st, .list (m.map enc))] = some (.kept (encL (addC l m)), none) := by
  refine run_ex (by rcases hs with rfl | rfl <;> rfl) (fun _ => rfl) ?_
  show endR (m_added R [some (.shr, encL l), some (st, .list (m.map enc)), none, none]) = _
  rw [m_added_eq]
  obtain ⟨y3, e⟩ := add_loop (some (.shr, encL l)) (some (st, .list (m.map enc))) m l none hl h
  have e1 : sSet 2 (xB oListA (aC (xV 0) aN)) [some (.shr, encL l), some (st, .list (m.map enc)), none, none] = some (.nx, [some (.shr, encL l), some (st, .list (m.map enc)), some (.own, .list (l.map enc)), none]) := by
    unfold encL; simp
  have e2 : sFor (iS (xV 1)) (gN 3) bAd [some (.shr, encL l), some (st, .list (m.map enc)), some (.own, .list (l.map enc)), none] = some (.nx, [some (.shr, encL l), some (st, .list (m.map enc)), some (.own, .list ((addC l m).map enc)), y3]) := by
    rw [e_for]
    have : iS (xV 1) [some (.shr, encL l), some (st, .list (m.map enc)), some (.own, .list (l.map enc)), none] = some (m.map enc, [some (.shr, encL l), some (st, .list (m.map enc)), some (.own, .list (l.map enc)), none]) := by
      rcases hs with rfl | rfl <;> simp
    rw [this, e_fora, e]
  rw [e_sq, e1, e_sqn, e_sq, e2, e_sqn]
  unfold encL; simp
end PyK77

/-! premises -/
namespace PyK77
open PySem PySem.Spec L2 PyI
/-- claims that are not too large -/
def Sm (l : List Cl) : Prop := l.length ≤ 100 ∧ ∀ a ∈ l, ext a ≤ 46
def AddR (R : Fns) : Prop := ∀ (l m : List Cl) (st : Stt), Rdg st → l.length + m.length ≤ 1000 → (∀ a ∈ m, ext a ≤ 48) → R.added [(.shr, encL l), (st, .list (m.map enc))] = some (.kept (encL (addC l m)), none)
def RedR (R : Fns) : Prop := ∀ s a : Cl, R.reduced [(.shr, enc (.to s a))] = some (.kept (enc (red s a)), none)
theorem addR_lvl (n : Nat) : AddR (lvl (n + 1)) := fun l m st hs hl h => added_ok (lvl n) l m st hs hl h
theorem redR_lvl (n : Nat) : RedR (lvl (n + 1)) := fun s a => reduced_ok (lvl n) s a
def sdS (s : Bool) : Str := if s then "left" else "right"
theorem cut3 (a b c d e : PyData) : opSl (.tuple [a, b, c, d, e]) none (some 3) = some (.tuple [a, b, c]) := by
  rfl
theorem cat32 (a b c d e : PyData) : opAdd (.tuple [a, b, c]) (.tuple [d, e]) = some (.tuple [a, b, c, d, e]) := by
  exact (if_pos (show 3 + 2 ≤ sizeLine by decide) : (if 3 + 2 ≤ sizeLine then some (PyData.tuple ([a, b, c] ++ [d, e])) else none) = _)
def stP (s : Bool) (c : Cl) (l r : List Cl) (v4 v5 v6 v7 v8 : Sl) : Rho := [some (.shr, .str (sdS s)), some (.shr, enc c), some (.shr, encL l), some (.shr, encL r), v4, v5, v6, v7, v8]
theorem kn_lc (c : Cl) (l r : List Cl) (x : Str) (v4 v6 : Sl) (hl : l.length ≤ 100) : xLc [8] (iS (xV 2)) (gN 8) (tAndM (tV (x2 (x2i (xV 8) (xC (.int 0)) opIx) (xC (.str "knows")) opEq)) (tV (x2 (x2i (xV 8) (xC (.int 1)) opIx) (xV 5) opEq))) (x2i (xV 8) (xC (.int 2)) opIx) (stP false c l r v4 (some (.shr, .str x)) v6 none none) = some (.fresh (.list ((knb x l).map enc)), stP false c l r v4 (some (.shr, .str x)) v6 none none) := by
  have := lc_evalT (vs := [8]) (fi := iS (xV 2)) (g := gN 8) (t := tAndM (tV (x2 (x2i (xV 8) (xC (.int 0)) opIx) (xC (.str "knows")) opEq)) (tV (x2 (x2i (xV 8) (xC (.int 1)) opIx) (xV 5) opEq))) (fe := x2i (xV 8) (xC (.int 2)) opIx)
    (ρ := stP false c l r v4 (some (.shr, .str x)) v6 none none) (ρ1 := stP false c l r v4 (some (.shr, .str x)) v6 none none) (l := l) (e := enc) (isKn x) (fun c => enc (bodyOf c)) (by unfold stP encL; generalize enc c = d; simp) (Nat.le_trans hl (by decide)) (fun a ha => ?_)
  · rw [this]
    unfold knb
    rw [List.map_map]
    unfold stP; generalize enc c = d; simp [wipeE, restE, Function.comp_def]
  · have L : ∃ q : Rho, q = stP false c l r v4 (some (.shr, .str x)) v6 none (some (.shr, enc a)) := ⟨_, rfl⟩
    obtain ⟨q, hq⟩ := L
    refine ⟨q, by rw [hq]; unfold stP; generalize enc c = d; simp [wipeE], q, ?_, fun _ => by rw [hq]; unfold stP; generalize enc c = d; simp [wipeE], fun hp => ?_⟩
    · rw [hq]
      unfold stP
      generalize enc c = d
      cases a with
      | kn y b => simp [enc, isKn, str_beq]
      | bi o b e => simp [enc, isKn, (op_t o).2.2.1]
      | _ => simp [enc, isKn]
    · cases a with
      | kn y b => exact ⟨.kept (enc b), q, q, by rw [hq]; unfold stP; generalize enc c = d; simp [enc], by simp [bodyOf], by rw [hq]; unfold stP; generalize enc c = d; simp [wipeE]⟩
      | _ => cases hp
theorem prem_ok (R : Fns) (A : AddR R) (D : RedR R) (s : Bool) (c : Cl) (l r : List Cl) (hl : l.length ≤ 100) (hr : r.length ≤ 100) (h : ∀ p ∈ kids s c, ext p.2 ≤ 46) (h2 : ∀ a ∈ l, ext a ≤ 46) (hn : lit c = false) :
    runF 4 9 (m_premises R) [(.shr, .str (sdS s)), (.shr, enc c), (.shr, encL l), (.shr, encL r)] = some (.fresh (.list ((prem s c l r).map encS)), none) := by
  refine run_ex rfl (fun _ => rfl) ?_
  show endR (m_premises R (stP s c l r none none none none none)) = _
  have a1 : ∀ (l : List Cl) (a : Cl), l.length ≤ 100 → ext a ≤ 46 → R.added [(.shr, encL l), (.shr, .list [enc a])] = some (.kept (encL (addC l [a])), none) := fun l a h1 h2 => A l [a] .shr (.inl rfl) (by simp; omega) (all1 (by omega))
  have a2 : ∀ (l : List Cl) (a b : Cl), l.length ≤ 100 → ext a ≤ 46 → ext b ≤ 46 → R.added [(.shr, encL l), (.shr, .list [enc a, enc b])] = some (.kept (encL (addC l [a, b])), none) := fun l a b h1 h2 h3 => A l [a, b] .shr (.inl rfl) (by simp; omega) (all2 (by omega) (by omega))
  have D := D
  unfold RedR at D
  simp only [enc] at D
  cases s with
  | true =>
    cases c with
    | w x => cases hn
    | no => cases hn
    | kn x a =>
      have k := a1 l a hl (h (true, a) (by simp [kids]))
      unfold m_premises stP
      simp only [prem, encS, List.map_cons, List.map_nil]
      generalize encL l = L at *
      generalize encL r = Rr at *
      simp [enc, sdS, cat32, cut3, k, prem, encS]
    | to t a =>
      have k := a1 l (red t a) hl (h (true, red t a) (by simp [kids]))
      unfold m_premises stP
      simp only [prem, encS, List.map_cons, List.map_nil]
      generalize encL l = L at *
      generalize encL r = Rr at *
      simp [enc, sdS, cat32, cut3, k, prem, encS, D]
    | bi o a b =>
      cases o with
      | an =>
        have k := a2 l a b hl (h (true, a) (by simp [kids])) (h (true, b) (by simp [kids]))
        unfold m_premises stP
        simp only [prem, encS, List.map_cons, List.map_nil]
        generalize encL l = L at *
        generalize encL r = Rr at *
        simp [enc, sdS, cat32, cut3, k, prem, encS, Op.str]
      | ei =>
        have k := a1 l a hl (h (true, a) (by simp [kids]))
        have k2 := a1 l b hl (h (true, b) (by simp [kids]))
        unfold m_premises stP
        simp only [prem, encS, List.map_cons, List.map_nil]
        generalize encL l = L at *
        generalize encL r = Rr at *
        simp [enc, sdS, cat32, cut3, k, k2, prem, encS, Op.str]
      | im =>
        have k := a1 r a hr (h (false, a) (by simp [kids]))
        have k2 := a1 l b hl (h (true, b) (by simp [kids]))
        unfold m_premises stP
        simp only [prem, encS, List.map_cons, List.map_nil]
        generalize encL l = L at *
        generalize encL r = Rr at *
        simp [enc, sdS, cat32, cut3, k, k2, prem, encS, Op.str]
  | false =>
    cases c with
    | w x => cases hn
    | no => cases hn
    | kn x a =>
      have kl : (knb x l).length ≤ 100 := by
        unfold knb; rw [List.length_map]; exact Nat.le_trans (List.length_filter_le _ _) hl
      have ke : ∀ b ∈ knb x l, ext b ≤ 48 := fun b hb => by
        have := h2 _ (mem_knb.mp hb); simp only [ext] at this; omega
      have k := A [] (knb x l) .bor (.inr rfl) (by simp; omega) ke
      have lc := kn_lc (.kn x a) l r x (some (.shr, .str "knows")) (some (.shr, enc a)) hl
      unfold stP at lc
      unfold m_premises stP
      simp only [prem, encS, List.map_cons, List.map_nil]
      have e0 : encL [] = .tuple [] := rfl
      rw [e0] at k
      have e1 : ∀ b, encL [b] = .tuple [enc b] := fun _ => rfl
      simp only [enc, sdS, Bool.false_eq_true, ↓reduceIte] at lc
      generalize encL l = L at *
      generalize encL r = Rr at *
      generalize (knb x l).map enc = KB at *
      simp [enc, sdS, cat32, cut3, k, prem, encS, lc, e1]
    | to t a =>
      have k := a1 r (red t a) hr (h (false, red t a) (by simp [kids]))
      unfold m_premises stP
      simp only [prem, encS, List.map_cons, List.map_nil]
      generalize encL l = L at *
      generalize encL r = Rr at *
      simp [enc, sdS, cat32, cut3, k, prem, encS, D]
    | bi o a b =>
      cases o with
      | an =>
        have k := a1 r a hr (h (false, a) (by simp [kids]))
        have k2 := a1 r b hr (h (false, b) (by simp [kids]))
        unfold m_premises stP
        simp only [prem, encS, List.map_cons, List.map_nil]
        generalize encL l = L at *
        generalize encL r = Rr at *
        simp [enc, sdS, cat32, cut3, k, k2, prem, encS, Op.str]
      | ei =>
        have k := a2 r a b hr (h (false, a) (by simp [kids])) (h (false, b) (by simp [kids]))
        unfold m_premises stP
        simp only [prem, encS, List.map_cons, List.map_nil]
        generalize encL l = L at *
        generalize encL r = Rr at *
        simp [enc, sdS, cat32, cut3, k, prem, encS, Op.str]
      | im =>
        have k := a1 l a hl (h (true, a) (by simp [kids]))
        have k2 := a1 r b hr (h (false, b) (by simp [kids]))
        unfold m_premises stP
        simp only [prem, encS, List.map_cons, List.map_nil]
        generalize encL l = L at *
        generalize encL r = Rr at *
        simp [enc, sdS, cat32, cut3, k, k2, prem, encS, Op.str]
end PyK77

/-! parted -/
namespace PyK77
open PySem PySem.Spec L2 PyI
/-- a proof, so many steps high -/
inductive Pf : Nat → List Cl → List Cl → PyData → Prop
  | same {h : Nat} {l r : List Cl} {c : Cl} : c ∈ l → (c ∈ r ∨ c = .no) → Pf (h + 1) l r (.tuple [.str "same", enc c])
  | rule {h : Nat} {l r : List Cl} {s : Bool} {c : Cl} {ps : List PyData} : c ∈ side s l r → lit c = false → ps.length = (prem s c l r).length → (∀ (i : Nat) (p : List Cl × List Cl) (q : PyData), (prem s c l r)[i]? = some p → ps[i]? = some q → Pf h p.1 p.2 q) → Pf (h + 1) l r (.tuple (.str (sdS s) :: enc c :: ps))
theorem Pf.valid : ∀ {h : Nat} {l r : List Cl} {d : PyData}, Pf h l r d → Valid l r := by
  intro h l r d p
  induction p with
  | same hl hr =>
    rename_i l r c
    intro v hv
    rcases hr with hr | rfl
    · exact ⟨_, hr, hv _ hl⟩
    · exact absurd (hv _ hl) (fun z => z)
  | rule hc hn he _ ih =>
    refine prem_valid hc hn fun p hp => ?_
    obtain ⟨i, hi, rfl⟩ := List.getElem_of_mem hp
    exact ih i _ _ (List.getElem?_eq_getElem hi) (List.getElem?_eq_getElem (by rw [he]; exact hi))
theorem Pf.mono : ∀ {h : Nat} {l r : List Cl} {d : PyData}, Pf h l r d → ∀ {k}, h ≤ k → Pf k l r d := by
  intro h l r d p
  induction p with
  | same hl hr =>
    intro k hk
    obtain ⟨k, rfl⟩ : ∃ j, k = j + 1 := ⟨k - 1, by omega⟩
    exact .same hl hr
  | rule hc hn he _ ih =>
    intro k hk
    obtain ⟨k, rfl⟩ : ∃ j, k = j + 1 := ⟨k - 1, by omega⟩
    exact .rule hc hn he fun i p q h1 h2 => ih i p q h1 h2 (by omega)
/-- a view, so many steps deep -/
inductive Wf : Nat → PyData → Prop
  | mk {m : Nat} {ws : List Str} {ks : List (Str × PyData)} : sortS (dedupS ws) = ws → ws.length ≤ 50 → ks.length ≤ 100 → (∀ p ∈ ks, Wf m p.2) → Wf (m + 1) (vD ws ks)
theorem Wf.mono : ∀ {m : Nat} {v : PyData}, Wf m v → ∀ {k}, m ≤ k → Wf k v := by
  intro m v w
  induction w with
  | mk a b c _ ih =>
    intro k hk
    obtain ⟨k, rfl⟩ : ∃ j, k = j + 1 := ⟨k - 1, by omega⟩
    exact .mk a b c fun p hp => ih p hp (by omega)
def shD (pf : PyData) : PyData := .tuple [.str "shown", pf]
def vwD (v : PyData) : PyData := .tuple [.str "view", v]
/-- what a search gives: a proof that P holds of, or a view that Q holds of -/
def Gives (x : Option (Rs × Option PyData)) (P Q : PyData → Prop) : Prop := (∃ pf, x = some (.kept (shD pf), none) ∧ P pf) ∨ ∃ v, x = some (.kept (vwD v), none) ∧ Q v
def bPt (R : Fns) : Mo Fl := sSeq (sSet 6 (xCall R.shown (aC (xV 4) (aC (xV 5) aN))))
    (sSeq (sIf (tV (x2 (x2i (xV 6) (xC (.int 0)) opIx) (xC (.str "view")) opEq)) (sRet (xV 6)) sPass)
    (sDrop (xMut "list" 3 mAppend (aC (x2i (xV 6) (xC (.int 1)) opIx) aN))))
theorem m_parted_eq (R : Fns) : m_parted R = sSeq (sSet 3 (xLst aN)) (sSeq (sFor (iS (xV 2)) (gT (gsC (gN 4) (gsC (gN 5) gsN))) (bPt R)) (sRet (xTup (aC (xC (.str "shown")) (aC (x2 (xTup (aC (xV 0) (aC (xV 1) aN))) (xB oTuple (aC (xV 3) aN)) opAdd) aN))))) := rfl
def stQ (v0 v1 v2 : Sl) (ps : List PyData) (v4 v5 v6 : Sl) : Rho := [v0, v1, v2, some (.own, .list ps), v4, v5, v6]
theorem app1 (ps : List PyData) (d : PyData) (h : ps.length ≤ 1000) : mAppend (.list ps) [d] = some (.list (ps ++ [d]), .none) := by
  show (if ps.length < LIM then some (PyData.list (ps ++ [d]), PyData.none) else none) = _
  rw [if_pos (Nat.lt_of_le_of_lt h (by decide))]
theorem pt_loop (R : Fns) (P Q : List Cl × List Cl → PyData → Prop) (v0 v1 v2 : Sl) : ∀ (ds : List (List Cl × List Cl)) (ps : List PyData) (v4 v5 v6 : Sl), ps.length + ds.length ≤ 100 → (∀ p ∈ ds, Gives (R.shown [(.shr, encL p.1), (.shr, encL p.2)]) (P p) (Q p)) →
    (∃ (p : List Cl × List Cl) (v : PyData) (y3 : List PyData) (y4 y5 : Sl), p ∈ ds ∧ Q p v ∧ forM (ds.map encS) (gT (gsC (gN 4) (gsC (gN 5) gsN))) (bPt R) (stQ v0 v1 v2 ps v4 v5 v6) = some (.ret (.slot 6), stQ v0 v1 v2 y3 y4 y5 (some (.shr, vwD v)))) ∨
    ∃ (qs : List PyData) (y4 y5 y6 : Sl), qs.length = ds.length ∧ (∀ (i : Nat) (p : List Cl × List Cl) (q : PyData), ds[i]? = some p → qs[i]? = some q → P p q) ∧ forM (ds.map encS) (gT (gsC (gN 4) (gsC (gN 5) gsN))) (bPt R) (stQ v0 v1 v2 ps v4 v5 v6) = some (.nx, stQ v0 v1 v2 (ps ++ qs) y4 y5 y6)
  | [], ps, v4, v5, v6, _, _ => .inr ⟨[], v4, v5, v6, rfl, (fun i p q h => by simp at h), by rw [List.append_nil]; exact forM_nil _ _ _⟩
  | p :: ds, ps, v4, v5, v6, hl, h => by
    rw [List.length_cons] at hl
    have g : (gT (gsC (gN 4) (gsC (gN 5) gsN))).run (encS p) (stQ v0 v1 v2 ps v4 v5 v6) = some ((), stQ v0 v1 v2 ps (some (.shr, encL p.1)) (some (.shr, encL p.2)) v6) := by
      unfold stQ encS; simp
    rcases h p List.mem_cons_self with ⟨pf, e, hp⟩ | ⟨v, e, hq⟩
    · have b : bPt R (stQ v0 v1 v2 ps (some (.shr, encL p.1)) (some (.shr, encL p.2)) v6) = some (.nx, stQ v0 v1 v2 (ps ++ [pf]) (some (.shr, encL p.1)) (some (.shr, encL p.2)) (some (.shr, shD pf))) := by
        have ap := app1 ps pf (by omega)
        unfold bPt stQ
        generalize encL p.1 = L at *
        generalize encL p.2 = L2 at *
        simp [e, shD, ap]
      rcases pt_loop R P Q v0 v1 v2 ds (ps ++ [pf]) (some (.shr, encL p.1)) (some (.shr, encL p.2)) (some (.shr, shD pf)) (by rw [List.length_append, List.length_singleton]; omega) fun q hq => h q (List.mem_cons_of_mem _ hq) with ⟨p', v, y3, y4, y5, m, hv, e2⟩ | ⟨qs, y4, y5, y6, m, hv, e2⟩
      · exact .inl ⟨p', v, y3, y4, y5, List.mem_cons_of_mem _ m, hv, by rw [List.map_cons, forM_cons _ _ _ _ g b]; exact e2⟩
      · refine .inr ⟨pf :: qs, y4, y5, y6, by rw [List.length_cons, List.length_cons, m], fun i a q h1 h2 => ?_, by rw [List.map_cons, forM_cons _ _ _ _ g b, e2, List.append_assoc]; rfl⟩
        cases i with
        | zero => simp at h1 h2; subst h1; subst h2; exact hp
        | succ i => exact hv i a q (by simpa using h1) (by simpa using h2)
    · have b : bPt R (stQ v0 v1 v2 ps (some (.shr, encL p.1)) (some (.shr, encL p.2)) v6) = some (.ret (.slot 6), stQ v0 v1 v2 ps (some (.shr, encL p.1)) (some (.shr, encL p.2)) (some (.shr, vwD v))) := by
        unfold bPt stQ
        generalize encL p.1 = L at *
        generalize encL p.2 = L2 at *
        simp [e, vwD]
      exact .inl ⟨p, v, ps, some (.shr, encL p.1), some (.shr, encL p.2), List.mem_cons_self, hq, by rw [List.map_cons, forM_ret _ _ _ _ g b]⟩
theorem parted_ok (R : Fns) (P Q : List Cl × List Cl → PyData → Prop) (s : Bool) (c : Cl) (st : Stt) (hs : Rdg st) (ds : List (List Cl × List Cl)) (hl : ds.length ≤ 100) (h : ∀ p ∈ ds, Gives (R.shown [(.shr, encL p.1), (.shr, encL p.2)]) (P p) (Q p)) :
    Gives (runF 3 7 (m_parted R) [(.shr, .str (sdS s)), (.shr, enc c), (st, .list (ds.map encS))]) (fun pf => ∃ ps, pf = .tuple (.str (sdS s) :: enc c :: ps) ∧ ps.length = ds.length ∧ ∀ (i : Nat) (p : List Cl × List Cl) (q : PyData), ds[i]? = some p → ps[i]? = some q → P p q) (fun v => ∃ p ∈ ds, Q p v) := by
  have e0 : sSet 3 (xLst aN) (stQ (some (.shr, .str (sdS s))) (some (.shr, enc c)) (some (st, .list (ds.map encS))) [] none none none) = some (.nx, stQ (some (.shr, .str (sdS s))) (some (.shr, enc c)) (some (st, .list (ds.map encS))) [] none none none) := by
    unfold stQ; simp
  have e0' : sSet 3 (xLst aN) [some (.shr, .str (sdS s)), some (.shr, enc c), some (st, .list (ds.map encS)), none, none, none, none] = some (.nx, stQ (some (.shr, .str (sdS s))) (some (.shr, enc c)) (some (st, .list (ds.map encS))) [] none none none) := by
    unfold stQ; simp
  have e1 : iS (xV 2) (stQ (some (.shr, .str (sdS s))) (some (.shr, enc c)) (some (st, .list (ds.map encS))) [] none none none) = some (ds.map encS, stQ (some (.shr, .str (sdS s))) (some (.shr, enc c)) (some (st, .list (ds.map encS))) [] none none none) := by
    unfold stQ
    generalize enc c = dc
    rcases hs with rfl | rfl <;> simp
  rcases pt_loop R P Q (some (.shr, .str (sdS s))) (some (.shr, enc c)) (some (st, .list (ds.map encS))) ds [] none none none (by simpa using hl) h with ⟨p, v, y3, y4, y5, m, hv, e2⟩ | ⟨qs, y4, y5, y6, m, hv, e2⟩
  · refine .inr ⟨v, ?_, p, m, hv⟩
    refine run_ex (by rcases hs with rfl | rfl <;> rfl) (fun _ => rfl) ?_
    show endR (m_parted R [some (.shr, .str (sdS s)), some (.shr, enc c), some (st, .list (ds.map encS)), none, none, none, none]) = _
    rw [m_parted_eq, e_sq, e0', e_sqn, e_sq, e_for, e1, e_fora, e2, e_sqr]
    unfold stQ
    simp
  · refine .inl ⟨_, ?_, qs, rfl, m, hv⟩
    refine run_ex (by rcases hs with rfl | rfl <;> rfl) (fun _ => rfl) ?_
    show endR (m_parted R [some (.shr, .str (sdS s)), some (.shr, enc c), some (st, .list (ds.map encS)), none, none, none, none]) = _
    rw [m_parted_eq, e_sq, e0', e_sqn, e_sq, e_for, e1, e_fora, e2, e_sqn]
    have ha : opAdd (.tuple [.str (sdS s), enc c]) (.tuple qs) = some (.tuple (.str (sdS s) :: enc c :: qs)) :=
      (if_pos (Nat.le_trans (show 2 + qs.length ≤ 1000 by omega) (by decide)) : (if 2 + qs.length ≤ sizeLine then some (PyData.tuple ([.str (sdS s), enc c] ++ qs)) else none) = _)
    unfold stQ
    generalize enc c = dc at *
    simp [ha, shD]
end PyK77

/-! shown: its three walks -/
namespace PyK77
open PySem PySem.Spec L2 PyI
theorem dedup_self : ∀ (xs l : List Str), (l ++ xs).Nodup → xs.foldl SetT.add1 l = l ++ xs
  | [], l, _ => by simp
  | x :: xs, l, h => by
    have hx : x ∉ l := fun z => (List.nodup_append.mp h).2.2 x z x List.mem_cons_self rfl
    rw [List.foldl_cons]
    have : SetT.add1 l x = l ++ [x] := by unfold SetT.add1; rw [if_neg hx]
    rw [this, dedup_self xs (l ++ [x]) (by simpa using h)]
    simp
theorem sort_twice {ws : List Str} (h : ws.Nodup) : sortS (dedupS (sortS ws)) = sortS ws := by
  have e : dedupS (sortS ws) = sortS ws := by
    exact dedup_self (sortS ws) [] (by simpa using (sortS_perm ws).nodup_iff.mpr h)
  rw [e]
  exact List.Perm.eq_of_pairwise (fun a b _ _ h1 h2 => leS_antisymm h1 h2) (sortS_sorted _) (sortS_sorted _) (sortS_perm _)
def stS (l r : List Cl) (v2 v3 v4 v5 v6 v7 : Sl) : Rho := [some (.shr, encL l), some (.shr, encL r), v2, v3, v4, v5, v6, v7]
def bS1 : Mo Fl := sIf (tOrM (tV (x2 (xV 2) (xV 1) opInA)) (tV (x2 (xV 2) (xC c_NONE) opEq))) (sRet (xTup (aC (xC (.str "shown")) (aC (xTup (aC (xC (.str "same")) (aC (xV 2) aN))) aN)))) sPass
def bS2 (R : Fns) : Mo Fl := sIf (tAndM (tV (x2 (x2i (xV 2) (xC (.int 0)) opIx) (xTup (aC (xC (.str "word")) (aC (xC (.str "none")) aN))) opNotInA)) (tV (x2 (xTup (aC (xV 3) (aC (x2i (xV 2) (xC (.int 0)) opIx) aN))) (xTup (aC (xC (.str "right")) (aC (xC (.str "knows")) aN))) opNe))) (sSeq (sSet 7 (xCall R.premises (aC (xV 3) (aC (xV 2) (aC (xV 0) (aC (xV 1) aN))))))
    (sIf (tV (x2 (xTup (aC (xV 0) (aC (xV 1) aN))) (xV 7) opNotInA)) (sRet (xCall R.parted (aC (xV 3) (aC (xV 2) (aC (xV 7) aN))))) sPass)) sPass
def bS3 (R : Fns) : Mo Fl := sIf (tV (x2 (x2i (xV 2) (xC (.int 0)) opIx) (xC (.str "knows")) opEq)) (sSeq (sSet 6 (xCall R.parted (aC (xC (.str "right")) (aC (xV 2) (aC (xCall R.premises (aC (xC (.str "right")) (aC (xV 2) (aC (xV 0) (aC (xV 1) aN))))) aN)))))
    (sSeq (sIf (tV (x2 (x2i (xV 6) (xC (.int 0)) opIx) (xC (.str "shown")) opEq)) (sRet (xV 6)) sPass)
    (sDrop (xMut "list" 5 mAppend (aC (xTup (aC (x2i (xV 2) (xC (.int 1)) opIx) (aC (x2i (xV 6) (xC (.int 1)) opIx) aN))) aN))))) sPass
def wE : Mo Rs := xLc [2] (iS (xV 0)) (gN 2) (tV (x2 (x2i (xV 2) (xC (.int 0)) opIx) (xC (.str "word")) opEq)) (x2i (xV 2) (xC (.int 1)) opIx)
theorem m_shown_eq (R : Fns) : m_shown R = sSeq (sFor (iS (xV 0)) (gN 2) bS1) (sSeq (sFor (iS (xTup (aC (xTup (aC (xC (.str "left")) (aC (xV 0) aN))) (aC (xTup (aC (xC (.str "right")) (aC (xV 1) aN))) aN)))) (gT (gsC (gN 3) (gsC (gN 4) gsN))) (sFor (iS (xV 4)) (gN 2) (bS2 R)))
    (sSeq (sSet 5 (xLst aN)) (sSeq (sFor (iS (xV 1)) (gN 2) (bS3 R))
    (sRet (xTup (aC (xC (.str "view")) (aC (xTup (aC (xB oTuple (aC (xB oSorted (aC wE aN)) aN)) (aC (xB oTuple (aC (xV 5) aN)) aN))) aN))))))) := rfl
section
variable (l r : List Cl)
theorem s1_loop : ∀ (m : List Cl) (v2 : Sl), (∀ a ∈ m, ext a ≤ 46) →
    (∃ c st, c ∈ m ∧ (c ∈ r ∨ c = .no) ∧ forM (m.map enc) (gN 2) bS1 (stS l r v2 none none none none none) = some (.ret (.kept (shD (.tuple [.str "same", enc c]))), st)) ∨
    ((∀ c ∈ m, c ∉ r ∧ c ≠ .no) ∧ ∃ y2, forM (m.map enc) (gN 2) bS1 (stS l r v2 none none none none none) = some (.nx, stS l r y2 none none none none none))
  | [], v2, _ => .inr ⟨fun c h => (nomatch h), v2, forM_nil _ _ _⟩
  | c :: m, v2, h => by
    have hc := h c List.mem_cons_self
    have hi := in_T (c := c) (by omega) r
    have hq := eq_no (a := c) (by omega)
    have g : (gN 2).run (enc c) (stS l r v2 none none none none none) = some ((), stS l r (some (.shr, enc c)) none none none none none) := by
      unfold stS; generalize encL l = L; generalize encL r = R; simp
    by_cases h1 : c ∈ r ∨ c = .no
    · refine .inl ⟨c, stS l r (some (.shr, enc c)) none none none none none, List.mem_cons_self, h1, ?_⟩
      have b : bS1 (stS l r (some (.shr, enc c)) none none none none none) = some (.ret (.kept (shD (.tuple [.str "same", enc c]))), stS l r (some (.shr, enc c)) none none none none none) := by
        unfold bS1 stS
        generalize encL l = L
        generalize encL r = R at *
        by_cases h2 : c ∈ r
        · simp [hi, h2, shD]
        · have h3 : c = .no := h1.resolve_left h2
          rw [decide_eq_false h2] at hi
          rw [decide_eq_true h3] at hq
          simp [hi, hq, shD]
      rw [List.map_cons, forM_ret _ _ _ _ g b]
    · have b : bS1 (stS l r (some (.shr, enc c)) none none none none none) = some (.nx, stS l r (some (.shr, enc c)) none none none none none) := by
        have h2 : c ∉ r := fun z => h1 (.inl z)
        have h3 : ¬ c = .no := fun z => h1 (.inr z)
        unfold bS1 stS
        generalize encL l = L
        generalize encL r = R at *
        simp [hi, hq, h2, h3]
      rcases s1_loop m (some (.shr, enc c)) fun a ha => h a (List.mem_cons_of_mem _ ha) with ⟨d, st, h4, h5, e⟩ | ⟨h4, y2, e⟩
      · exact .inl ⟨d, st, List.mem_cons_of_mem _ h4, h5, by rw [List.map_cons, forM_cons _ _ _ _ g b]; exact e⟩
      · refine .inr ⟨fun d hd => ?_, y2, by rw [List.map_cons, forM_cons _ _ _ _ g b]; exact e⟩
        rcases List.mem_cons.mp hd with rfl | hd
        · exact ⟨fun z => h1 (.inl z), fun z => h1 (.inr z)⟩
        · exact h4 d hd
theorem ne_pair (a b c d : Str) : opNe (.tuple [.str a, .str b]) (.tuple [.str c, .str d]) = some (.bool (!(a == c && b == d))) := by
  have : eqD (.tuple [.str a, .str b]) (.tuple [.str c, .str d]) = some (a == c && b == d) := by
    show (if (PyData.tuple [.str a, .str b]).plain = true ∧ (PyData.tuple [.str c, .str d]).plain = true ∧ min (PyData.tuple [.str a, .str b]).depth (PyData.tuple [.str c, .str d]).depth ≤ 60 then some (PyData.eqv (.tuple [.str a, .str b]) (.tuple [.str c, .str d])) else none) = _
    rw [if_pos ⟨rfl, rfl, by simp [PyData.depth, PyData.depthAll]⟩, eqv_hd, eqvAll_c, eqv_str, eqvAll_n, ← str_beq, Bool.and_true]
  unfold opNe; rw [this]; rfl
theorem jump_eq (s : Bool) (c : Cl) : (sdS s == ("right" : Str) && hdS c == ("knows" : Str)) = jump s c := by
  cases s with
  | true => simp [sdS, jump]
  | false =>
    cases c with
    | bi o a b => simp [sdS, jump, hdS, (op_t o).2.2.1]
    | _ => simp [sdS, jump, hdS]
theorem s2_loop (R : Fns) (W : PyData → Prop) (s : Bool) (v4 : Sl) (hl : ∀ a ∈ l, ext a ≤ 46) (hr : ∀ a ∈ r, ext a ≤ 46) : ∀ (m : List Cl) (v2 v7 : Sl),
    (∀ c ∈ m, lit c = false → R.premises [(.shr, .str (sdS s)), (.shr, enc c), (.shr, encL l), (.shr, encL r)] = some (.fresh (.list ((prem s c l r).map encS)), none)) →
    (∀ c ∈ m, lit c = false → jump s c = false → (l, r) ∉ prem s c l r → ∃ d, R.parted [(.shr, .str (sdS s)), (.shr, enc c), (.bor, .list ((prem s c l r).map encS))] = some (.kept d, none) ∧ W d) →
    (∃ d st, W d ∧ forM (m.map enc) (gN 2) (bS2 R) (stS l r v2 (some (.shr, .str (sdS s))) v4 none none v7) = some (.ret (.kept d), st)) ∨
    ((∀ c ∈ m, lit c = false → jump s c = false → (l, r) ∈ prem s c l r) ∧ ∃ y2 y7, forM (m.map enc) (gN 2) (bS2 R) (stS l r v2 (some (.shr, .str (sdS s))) v4 none none v7) = some (.nx, stS l r y2 (some (.shr, .str (sdS s))) v4 none none y7))
  | [], v2, v7, _, _ => .inr ⟨fun c h => (nomatch h), v2, v7, forM_nil _ _ _⟩
  | c :: m, v2, v7, hp, hq => by
    have g : (gN 2).run (enc c) (stS l r v2 (some (.shr, .str (sdS s))) v4 none none v7) = some ((), stS l r (some (.shr, enc c)) (some (.shr, .str (sdS s))) v4 none none v7) := by
      unfold stS; generalize encL l = L; generalize encL r = R; simp
    have i0 := ix0 c
    have t1 := nin2 (hdS c) "word" "none"
    rw [hd_lit] at t1
    have t2 := ne_pair (sdS s) (hdS c) "right" "knows"
    rw [jump_eq] at t2
    have next : ∀ y7, bS2 R (stS l r (some (.shr, enc c)) (some (.shr, .str (sdS s))) v4 none none v7) = some (.nx, stS l r (some (.shr, enc c)) (some (.shr, .str (sdS s))) v4 none none y7) → (lit c = false → jump s c = false → (l, r) ∈ prem s c l r) →
        (∃ d st, W d ∧ forM ((c :: m).map enc) (gN 2) (bS2 R) (stS l r v2 (some (.shr, .str (sdS s))) v4 none none v7) = some (.ret (.kept d), st)) ∨
        ((∀ c' ∈ c :: m, lit c' = false → jump s c' = false → (l, r) ∈ prem s c' l r) ∧ ∃ y2 y7, forM ((c :: m).map enc) (gN 2) (bS2 R) (stS l r v2 (some (.shr, .str (sdS s))) v4 none none v7) = some (.nx, stS l r y2 (some (.shr, .str (sdS s))) v4 none none y7)) := fun y7 b hc => by
      rcases s2_loop R W s v4 hl hr m (some (.shr, enc c)) y7 (fun a ha => hp a (List.mem_cons_of_mem _ ha)) (fun a ha => hq a (List.mem_cons_of_mem _ ha)) with ⟨d, st, h1, e⟩ | ⟨h1, y2, y7', e⟩
      · exact .inl ⟨d, st, h1, by rw [List.map_cons, forM_cons _ _ _ _ g b]; exact e⟩
      · refine .inr ⟨fun a ha => ?_, y2, y7', by rw [List.map_cons, forM_cons _ _ _ _ g b]; exact e⟩
        rcases List.mem_cons.mp ha with rfl | ha
        · exact hc
        · exact h1 a ha
    cases hlit : lit c with
    | true =>
      refine next v7 ?_ fun z => by rw [hlit] at z; cases z
      rw [hlit] at t1
      unfold bS2 stS
      generalize encL l = L
      generalize encL r = Rr
      generalize enc c = d at *
      simp [i0, t1]
    | false =>
      rw [hlit] at t1
      cases hj : jump s c with
      | true =>
        rw [hj] at t2
        refine next v7 ?_ fun _ z => by rw [hj] at z; cases z
        unfold bS2 stS
        generalize encL l = L
        generalize encL r = Rr
        generalize enc c = d at *
        simp [i0, t1, t2]
      | false =>
        rw [hj] at t2
        have p1 := hp c List.mem_cons_self hlit
        have n1 := nin_S (fun a ha => Nat.le_trans (hl a ha) (by decide)) (fun a ha => Nat.le_trans (hr a ha) (by decide)) (prem s c l r)
        unfold encS at n1
        dsimp only at n1
        by_cases hin : (l, r) ∈ prem s c l r
        · refine next (some (.own, .list ((prem s c l r).map encS))) ?_ fun _ _ => hin
          unfold encS at p1 ⊢
          rw [decide_eq_true hin] at n1
          unfold bS2 stS
          generalize encL l = L at *
          generalize encL r = Rr at *
          generalize enc c = d at *
          generalize List.map _ (prem s c l r) = PL at *
          simp [i0, t1, t2, p1, n1]
        · obtain ⟨d, pe, w⟩ := hq c List.mem_cons_self hlit hj hin
          rw [decide_eq_false hin] at n1
          refine .inl ⟨d, stS l r (some (.shr, enc c)) (some (.shr, .str (sdS s))) v4 none none (some (.own, .list ((prem s c l r).map encS))), w, ?_⟩
          rw [List.map_cons]
          refine forM_ret _ _ _ _ g ?_
          unfold encS at p1 pe ⊢
          unfold bS2 stS
          generalize encL l = L at *
          generalize encL r = Rr at *
          generalize enc c = d at *
          generalize List.map _ (prem s c l r) = PL at *
          simp [i0, t1, t2, p1, n1, pe]
end
end PyK77

/-! shown -/
namespace PyK77
open PySem PySem.Spec L2 PyI
def isW : Cl → Bool
  | .w _ => true
  | _ => false
def wrd : Cl → Str
  | .w x => x
  | _ => ""
def wl (l : List Cl) : List Str := (l.filter isW).map wrd
theorem mem_wl {x : Str} {l : List Cl} : x ∈ wl l ↔ .w x ∈ l := by
  unfold wl
  rw [List.mem_map]
  constructor
  · rintro ⟨c, h, rfl⟩
    rw [List.mem_filter] at h
    cases c with
    | w y => exact h.1
    | _ => cases h.2
  · intro h
    exact ⟨.w x, List.mem_filter.mpr ⟨h, rfl⟩, rfl⟩
theorem nodup_wl : ∀ {l : List Cl}, l.Nodup → (wl l).Nodup
  | [], _ => List.nodup_nil
  | c :: l, h => by
    obtain ⟨h1, h2⟩ := List.nodup_cons.mp h
    have ih := nodup_wl h2
    cases c with
    | w x => exact List.nodup_cons.mpr ⟨fun z => h1 (mem_wl.mp z), ih⟩
    | _ => exact ih
theorem len_wl (l : List Cl) : (wl l).length ≤ l.length := by unfold wl; rw [List.length_map]; exact List.length_filter_le _ _
section
variable (l r : List Cl)
theorem wE_ok (v2 v3 v4 v5 v6 v7 : Sl) (h : l.length ≤ 100) : ∃ ρ, wE (stS l r v2 v3 v4 v5 v6 v7) = some (.fresh (.list ((wl l).map .str)), ρ) ∧ ρ = stS l r v2 v3 v4 v5 v6 v7 := by
  have := lc_evalT (vs := [2]) (fi := iS (xV 0)) (g := gN 2) (t := tV (x2 (x2i (xV 2) (xC (.int 0)) opIx) (xC (.str "word")) opEq)) (fe := x2i (xV 2) (xC (.int 1)) opIx)
    (ρ := stS l r v2 v3 v4 v5 v6 v7) (ρ1 := stS l r v2 v3 v4 v5 v6 v7) (l := l) (e := enc) isW (fun c => .str (wrd c)) (by unfold stS encL; generalize PyData.tuple (r.map enc) = R; simp) (Nat.le_trans h (by decide)) (fun a ha => ?_)
  · refine ⟨_, ?_, rfl⟩
    unfold wE
    rw [this]
    unfold wl
    rw [List.map_map]
    unfold stS
    simp [wipeE, restE, Function.comp_def]
  · have L : ∃ q : Rho, q = stS l r (some (.shr, enc a)) v3 v4 v5 v6 v7 := ⟨_, rfl⟩
    obtain ⟨q, hq⟩ := L
    refine ⟨q, by rw [hq]; unfold stS; simp [wipeE], q, ?_, fun _ => by rw [hq]; unfold stS; simp [wipeE], fun hp => ?_⟩
    · rw [hq]
      unfold stS
      generalize encL l = L
      generalize encL r = R
      cases a with
      | bi o b e => cases o <;> simp [enc, isW, Op.str]
      | _ => simp [enc, isW]
    · cases a with
      | w y => exact ⟨.kept (.str y), q, q, by rw [hq]; unfold stS; generalize encL l = L; generalize encL r = R; simp [enc], by simp [wrd], by rw [hq]; unfold stS; simp [wipeE]⟩
      | _ => cases hp
theorem s3_loop (R : Fns) (P Q : Cl → PyData → Prop) (v3 v4 v7 : Sl) : ∀ (m : List Cl) (ks0 : List (Str × PyData)) (v2 v6 : Sl), ks0.length + m.length ≤ 100 →
    (∀ x a, .kn x a ∈ m → R.premises [(.shr, .str "right"), (.shr, enc (.kn x a)), (.shr, encL l), (.shr, encL r)] = some (.fresh (.list ((prem false (.kn x a) l r).map encS)), none)) →
    (∀ x a, .kn x a ∈ m → Gives (R.parted [(.shr, .str "right"), (.shr, enc (.kn x a)), (.shr, .list ((prem false (.kn x a) l r).map encS))]) (P (.kn x a)) (Q (.kn x a))) →
    (∃ x a pf y2 y5, .kn x a ∈ m ∧ P (.kn x a) pf ∧ forM (m.map enc) (gN 2) (bS3 R) (stS l r v2 v3 v4 (some (.own, .list (ks0.map wayD))) v6 v7) = some (.ret (.slot 6), stS l r y2 v3 v4 y5 (some (.shr, shD pf)) v7)) ∨
    ∃ (ks : List (Str × PyData)) (y2 y6 : Sl), ks.length ≤ m.length ∧ (∀ x u, (x, u) ∈ ks → ∃ a, .kn x a ∈ m ∧ Q (.kn x a) u) ∧ (∀ x a, .kn x a ∈ m → ∃ u, (x, u) ∈ ks ∧ Q (.kn x a) u) ∧
      forM (m.map enc) (gN 2) (bS3 R) (stS l r v2 v3 v4 (some (.own, .list (ks0.map wayD))) v6 v7) = some (.nx, stS l r y2 v3 v4 (some (.own, .list ((ks0 ++ ks).map wayD))) y6 v7)
  | [], ks0, v2, v6, _, _, _ => .inr ⟨[], v2, v6, Nat.le_refl _, fun x u h => (nomatch h), fun x a h => (nomatch h), by rw [List.append_nil]; exact forM_nil _ _ _⟩
  | c :: m, ks0, v2, v6, hl, hp, hq => by
    rw [List.length_cons] at hl
    have g : (gN 2).run (enc c) (stS l r v2 v3 v4 (some (.own, .list (ks0.map wayD))) v6 v7) = some ((), stS l r (some (.shr, enc c)) v3 v4 (some (.own, .list (ks0.map wayD))) v6 v7) := by
      unfold stS; generalize encL l = L; generalize encL r = R; simp
    have skip : (hdS c == ("knows" : Str)) = false → bS3 R (stS l r (some (.shr, enc c)) v3 v4 (some (.own, .list (ks0.map wayD))) v6 v7) = some (.nx, stS l r (some (.shr, enc c)) v3 v4 (some (.own, .list (ks0.map wayD))) v6 v7) := fun hk => by
      have i0 := ix0 c
      unfold bS3 stS
      generalize encL l = L
      generalize encL r = Rr
      generalize enc c = d at *
      simp [i0, hk]
    have pass : (∀ x a, c ≠ .kn x a) → bS3 R (stS l r (some (.shr, enc c)) v3 v4 (some (.own, .list (ks0.map wayD))) v6 v7) = some (.nx, stS l r (some (.shr, enc c)) v3 v4 (some (.own, .list (ks0.map wayD))) v6 v7) → _ := fun hne b =>
      (by
        rcases s3_loop R P Q v3 v4 v7 m ks0 (some (.shr, enc c)) v6 (by omega) (fun x a ha => hp x a (List.mem_cons_of_mem _ ha)) (fun x a ha => hq x a (List.mem_cons_of_mem _ ha)) with ⟨x, a, pf, y2, y5, h1, h2, e⟩ | ⟨ks, y2, y6, h1, h2, h3, e⟩
        · exact .inl ⟨x, a, pf, y2, y5, List.mem_cons_of_mem _ h1, h2, by rw [List.map_cons, forM_cons _ _ _ _ g b]; exact e⟩
        · refine .inr ⟨ks, y2, y6, by rw [List.length_cons]; omega, fun x u hu => ?_, fun x a ha => ?_, by rw [List.map_cons, forM_cons _ _ _ _ g b]; exact e⟩
          · obtain ⟨a, h4, h5⟩ := h2 x u hu
            exact ⟨a, List.mem_cons_of_mem _ h4, h5⟩
          · rcases List.mem_cons.mp ha with h4 | h4
            · exact absurd h4.symm (hne x a)
            · exact h3 x a h4 :
      (∃ x a pf y2 y5, .kn x a ∈ c :: m ∧ P (.kn x a) pf ∧ forM ((c :: m).map enc) (gN 2) (bS3 R) (stS l r v2 v3 v4 (some (.own, .list (ks0.map wayD))) v6 v7) = some (.ret (.slot 6), stS l r y2 v3 v4 y5 (some (.shr, shD pf)) v7)) ∨
    ∃ (ks : List (Str × PyData)) (y2 y6 : Sl), ks.length ≤ (c :: m).length ∧ (∀ x u, (x, u) ∈ ks → ∃ a, .kn x a ∈ c :: m ∧ Q (.kn x a) u) ∧ (∀ x a, .kn x a ∈ c :: m → ∃ u, (x, u) ∈ ks ∧ Q (.kn x a) u) ∧
      forM ((c :: m).map enc) (gN 2) (bS3 R) (stS l r v2 v3 v4 (some (.own, .list (ks0.map wayD))) v6 v7) = some (.nx, stS l r y2 v3 v4 (some (.own, .list ((ks0 ++ ks).map wayD))) y6 v7))
    cases c with
    | w x => exact pass (fun _ _ z => by cases z) (skip rfl)
    | no => exact pass (fun _ _ z => by cases z) (skip rfl)
    | to s a => exact pass (fun _ _ z => by cases z) (skip (by simp [hdS]))
    | bi o a b => exact pass (fun _ _ z => by cases z) (skip (op_t o).2.2.1)
    | kn x a =>
      have p1 := hp x a List.mem_cons_self
      rcases hq x a List.mem_cons_self with ⟨pf, e1, w⟩ | ⟨v, e1, w⟩
      · refine .inl ⟨x, a, pf, some (.shr, enc (.kn x a)), (some (.own, .list (ks0.map wayD))), List.mem_cons_self, w, ?_⟩
        rw [List.map_cons]
        refine forM_ret _ _ _ _ g ?_
        unfold bS3 stS
        generalize encL l = L at *
        generalize encL r = Rr at *
        generalize List.map encS (prem false (.kn x a) l r) = PL at *
        simp only [enc] at p1 e1 ⊢
        simp [p1, e1, shD]
      · have b : bS3 R (stS l r (some (.shr, enc (.kn x a))) v3 v4 (some (.own, .list (ks0.map wayD))) v6 v7) = some (.nx, stS l r (some (.shr, enc (.kn x a))) v3 v4 (some (.own, .list ((ks0 ++ [(x, v)]).map wayD))) (some (.shr, vwD v)) v7) := by
          have ap := app1 (ks0.map wayD) (.tuple [.str x, v]) (by rw [List.length_map]; omega)
          rw [List.map_append]
          show _ = some (Fl.nx, stS l r (some (.shr, enc (.kn x a))) v3 v4 (some (.own, .list (ks0.map wayD ++ [.tuple [.str x, v]]))) (some (.shr, vwD v)) v7)
          unfold bS3 stS
          generalize encL l = L at *
          generalize encL r = Rr at *
          generalize List.map encS (prem false (.kn x a) l r) = PL at *
          generalize List.map wayD ks0 = KL at *
          simp only [enc] at p1 e1 ⊢
          simp [p1, e1, vwD, ap]
        rcases s3_loop R P Q v3 v4 v7 m (ks0 ++ [(x, v)]) (some (.shr, enc (.kn x a))) (some (.shr, vwD v)) (by rw [List.length_append, List.length_singleton]; omega) (fun x a ha => hp x a (List.mem_cons_of_mem _ ha)) (fun x a ha => hq x a (List.mem_cons_of_mem _ ha)) with ⟨x', a', pf, y2, y5, h1, h2, e⟩ | ⟨ks, y2, y6, h1, h2, h3, e⟩
        · exact .inl ⟨x', a', pf, y2, y5, List.mem_cons_of_mem _ h1, h2, by rw [List.map_cons, forM_cons _ _ _ _ g b]; exact e⟩
        · refine .inr ⟨(x, v) :: ks, y2, y6, by rw [List.length_cons, List.length_cons]; omega, fun x' u hu => ?_, fun x' a' ha => ?_, by rw [List.map_cons, forM_cons _ _ _ _ g b, e, List.append_assoc]; rfl⟩
          · rcases List.mem_cons.mp hu with h4 | h4
            · cases h4; exact ⟨a, List.mem_cons_self, w⟩
            · obtain ⟨a', h5, h6⟩ := h2 x' u h4
              exact ⟨a', List.mem_cons_of_mem _ h5, h6⟩
          · rcases List.mem_cons.mp ha with h4 | h4
            · cases h4; exact ⟨v, List.mem_cons_self, w⟩
            · obtain ⟨u, h5, h6⟩ := h3 x' a' h4
              exact ⟨u, List.mem_cons_of_mem _ h5, h6⟩
end
end PyK77

/-! the search -/
namespace PyK77
open PySem PySem.Spec L2 PyI
/-- what the search may answer -/
def W0 (h M : Nat) (l r : List Cl) (d : PyData) : Prop := (∃ pf, d = shD pf ∧ Pf h l r pf) ∨ ∃ v, d = vwD v ∧ Cm l r v ∧ Wf (M + 1) v
theorem oSort_strs (ws : List Str) (h : ws.length < 64) : oSorted [.list (ws.map .str)] = some (.list ((sortS ws).map .str)) := by
  show (match strsD (ws.map .str) with
    | some xs => if xs.length < 64 then some (PyData.list ((sortS xs).map .str)) else none
    | none => _) = _
  rw [strsD_map]
  dsimp only
  rw [if_pos h]
theorem shown_ok (R : Fns) (h M : Nat) (l r : List Cl) (nl : l.Nodup) (hl : l.length ≤ 50) (hr : r.length ≤ 50) (el : ∀ a ∈ l, ext a ≤ 46) (er : ∀ a ∈ r, ext a ≤ 46)
    (hp : ∀ s c, c ∈ side s l r → lit c = false → R.premises [(.shr, .str (sdS s)), (.shr, enc c), (.shr, encL l), (.shr, encL r)] = some (.fresh (.list ((prem s c l r).map encS)), none))
    (hq : ∀ s c st, Rdg st → c ∈ side s l r → lit c = false → (jump s c = true ∨ (l, r) ∉ prem s c l r) → Gives (R.parted [(.shr, .str (sdS s)), (.shr, enc c), (st, .list ((prem s c l r).map encS))])
      (fun pf => ∃ ps, pf = .tuple (.str (sdS s) :: enc c :: ps) ∧ ps.length = (prem s c l r).length ∧ ∀ (i : Nat) (p : List Cl × List Cl) (q : PyData), (prem s c l r)[i]? = some p → ps[i]? = some q → Pf h p.1 p.2 q)
      (fun v => ∃ p ∈ prem s c l r, Cm p.1 p.2 v ∧ Wf (if jump s c = true then M else M + 1) v)) :
    ∃ d, runF 2 8 (m_shown R) [(.shr, encL l), (.shr, encL r)] = some (.kept d, none) ∧ W0 (h + 1) M l r d := by
  have fin : ∀ d, endR (m_shown R (stS l r none none none none none none)) = some (.kept d) → runF 2 8 (m_shown R) [(.shr, encL l), (.shr, encL r)] = some (.kept d, none) := fun d e => run_ex rfl (fun _ => rfl) e
  have i1 : ∀ v2 v3 v4 v5 v6 v7, iS (xV 0) (stS l r v2 v3 v4 v5 v6 v7) = some (l.map enc, stS l r v2 v3 v4 v5 v6 v7) := fun v2 v3 v4 v5 v6 v7 => by
    unfold stS encL
    generalize PyData.tuple (r.map enc) = Rr
    simp
  have i2 : ∀ v2 v3 v4 v5 v6 v7, iS (xV 1) (stS l r v2 v3 v4 v5 v6 v7) = some (r.map enc, stS l r v2 v3 v4 v5 v6 v7) := fun v2 v3 v4 v5 v6 v7 => by
    unfold stS
    generalize encL l = L
    unfold encL
    simp
  rw [m_shown_eq] at fin
  rcases s1_loop l r l none el with ⟨c, st, h1, h2, e⟩ | ⟨c1, y2, e⟩
  · refine ⟨_, fin _ ?_, .inl ⟨_, rfl, .same h1 h2⟩⟩
    rw [e_sq, e_for, i1, e_fora, e, e_sqr]; rfl
  · -- the rules that stay
    have j2 : ∀ s c, c ∈ side s l r → lit c = false → jump s c = false → (l, r) ∉ prem s c l r → ∃ d, R.parted [(.shr, .str (sdS s)), (.shr, enc c), (.bor, .list ((prem s c l r).map encS))] = some (.kept d, none) ∧ W0 (h + 1) M l r d := fun s c hc hn hj hne => by
      rcases hq s c .bor (.inr rfl) hc hn (.inr hne) with ⟨pf, e1, ps, rfl, w1, w2⟩ | ⟨v, e1, p, hp, w1, w2⟩
      · exact ⟨_, e1, .inl ⟨_, rfl, .rule hc hn w1 w2⟩⟩
      · have := prem_sub hj hp
        rw [if_neg (by rw [hj]; decide)] at w2
        exact ⟨_, e1, .inr ⟨v, rfl, w1.sub this.1 this.2, w2⟩⟩
    have o1 : iS (xTup (aC (xTup (aC (xC (.str "left")) (aC (xV 0) aN))) (aC (xTup (aC (xC (.str "right")) (aC (xV 1) aN))) aN))) (stS l r y2 none none none none none) = some ([.tuple [.str "left", encL l], .tuple [.str "right", encL r]], stS l r y2 none none none none none) := by
      unfold stS
      generalize encL l = L
      generalize encL r = Rr
      simp
    have g : ∀ (s : Bool) (v2 v3 v4 v7 : Sl), (gT (gsC (gN 3) (gsC (gN 4) gsN))).run (.tuple [.str (sdS s), encL (side s l r)]) (stS l r v2 v3 v4 none none v7) = some ((), stS l r v2 (some (.shr, .str (sdS s))) (some (.shr, encL (side s l r))) none none v7) := fun s v2 v3 v4 v7 => by
      unfold stS
      generalize encL l = L
      generalize encL r = Rr
      generalize encL (side s l r) = SS
      simp
    have i4 : ∀ (s : Bool) (v2 v3 v7 : Sl), iS (xV 4) (stS l r v2 v3 (some (.shr, encL (side s l r))) none none v7) = some ((side s l r).map enc, stS l r v2 v3 (some (.shr, encL (side s l r))) none none v7) := fun s v2 v3 v7 => by
      unfold stS
      generalize encL l = L
      generalize encL r = Rr
      unfold encL
      simp
    rcases s2_loop l r R (W0 (h + 1) M l r) true (some (.shr, encL (side true l r))) el er l y2 none (fun c hc hn => hp true c hc hn) (fun c hc hn hj hne => j2 true c hc hn hj hne) with ⟨d, st, w, e2⟩ | ⟨sl, y2', y7, e2⟩
    · refine ⟨d, fin _ ?_, w⟩
      rw [e_sq, e_for, i1, e_fora, e, e_sqn, e_sq, e_for, o1, e_fora]
      have := forM_ret (.tuple [.str "left", encL l]) [.tuple [.str "right", encL r]] (gT (gsC (gN 3) (gsC (gN 4) gsN))) (sFor (iS (xV 4)) (gN 2) (bS2 R)) (g true y2 none none none) (by rw [e_for, i4 true, e_fora]; exact e2)
      rw [this, e_sqr]; rfl
    · have b1 : sFor (iS (xV 4)) (gN 2) (bS2 R) (stS l r y2 (some (.shr, .str (sdS true))) (some (.shr, encL (side true l r))) none none none) = some (.nx, stS l r y2' (some (.shr, .str (sdS true))) (some (.shr, encL (side true l r))) none none y7) := by
        rw [e_for, i4 true, e_fora]; exact e2
      rcases s2_loop l r R (W0 (h + 1) M l r) false (some (.shr, encL (side false l r))) el er r y2' y7 (fun c hc hn => hp false c hc hn) (fun c hc hn hj hne => j2 false c hc hn hj hne) with ⟨d, st, w, e3⟩ | ⟨sr, y2'', y7', e3⟩
      · refine ⟨d, fin _ ?_, w⟩
        rw [e_sq, e_for, i1, e_fora, e, e_sqn, e_sq, e_for, o1, e_fora]
        have t1 := forM_cons (.tuple [.str "left", encL l]) [.tuple [.str "right", encL r]] (gT (gsC (gN 3) (gsC (gN 4) gsN))) (sFor (iS (xV 4)) (gN 2) (bS2 R)) (g true y2 none none none) b1
        have t2 := forM_ret (.tuple [.str "right", encL r]) [] (gT (gsC (gN 3) (gsC (gN 4) gsN))) (sFor (iS (xV 4)) (gN 2) (bS2 R)) (g false y2' (some (.shr, .str (sdS true))) (some (.shr, encL (side true l r))) y7) (by rw [e_for, i4 false, e_fora]; exact e3)
        rw [t1, t2, e_sqr]; rfl
      · have b2 : sFor (iS (xV 4)) (gN 2) (bS2 R) (stS l r y2' (some (.shr, .str (sdS false))) (some (.shr, encL (side false l r))) none none y7) = some (.nx, stS l r y2'' (some (.shr, .str (sdS false))) (some (.shr, encL (side false l r))) none none y7') := by
          rw [e_for, i4 false, e_fora]; exact e3
        have t1 := forM_cons (.tuple [.str "left", encL l]) [.tuple [.str "right", encL r]] (gT (gsC (gN 3) (gsC (gN 4) gsN))) (sFor (iS (xV 4)) (gN 2) (bS2 R)) (g true y2 none none none) b1
        have t2 := forM_cons (.tuple [.str "right", encL r]) [] (gT (gsC (gN 3) (gsC (gN 4) gsN))) (sFor (iS (xV 4)) (gN 2) (bS2 R)) (g false y2' (some (.shr, .str (sdS true))) (some (.shr, encL (side true l r))) y7) b2
        have e5 : sSet 5 (xLst aN) (stS l r y2'' (some (.shr, .str (sdS false))) (some (.shr, encL (side false l r))) none none y7') = some (.nx, stS l r y2'' (some (.shr, .str (sdS false))) (some (.shr, encL (side false l r))) (some (.own, .list [])) none y7') := by
          unfold stS
          generalize encL (side false l r) = SS
          generalize encL l = L
          generalize encL r = Rr
          simp
        have two : ∀ {x a}, Cl.kn x a ∈ r → prem false (.kn x a) l r = [(addC [] (knb x l), [a])] := fun _ => rfl
        rcases s3_loop l r R (fun c pf => ∃ ps, pf = .tuple (.str (sdS false) :: enc c :: ps) ∧ ps.length = (prem false c l r).length ∧ ∀ (i : Nat) (p : List Cl × List Cl) (q : PyData), (prem false c l r)[i]? = some p → ps[i]? = some q → Pf h p.1 p.2 q)
          (fun c v => ∃ p ∈ prem false c l r, Cm p.1 p.2 v ∧ Wf (if jump false c = true then M else M + 1) v) (some (.shr, .str (sdS false))) (some (.shr, encL (side false l r))) y7' r [] y2'' none (by simpa using Nat.le_trans hr (by decide)) (fun x a ha => hp false (.kn x a) ha rfl) (fun x a ha => hq false (.kn x a) .shr (.inl rfl) ha rfl (.inl rfl)) with
          ⟨x, a, pf, y, y5, ha, ⟨ps, rfl, w1, w2⟩, e6⟩ | ⟨ks, y, y6, k0, k1, k2, e6⟩
        · refine ⟨_, fin _ ?_, .inl ⟨_, rfl, .rule (s := false) (c := .kn x a) ha rfl w1 w2⟩⟩
          rw [e_sq, e_for, i1, e_fora, e, e_sqn, e_sq, e_for, o1, e_fora, t1, t2, forM_nil, e_sqn, e_sq, e5, e_sqn, e_sq, e_for, i2, e_fora]
          have e6 := e6
          rw [List.map_nil] at e6
          rw [e6, e_sqr]
          rfl
        · refine ⟨vwD (vD (sortS (wl l)) ks), fin _ ?_, .inr ⟨_, rfl, ?_, ?_⟩⟩
          · rw [e_sq, e_for, i1, e_fora, e, e_sqn, e_sq, e_for, o1, e_fora, t1, t2, forM_nil, e_sqn, e_sq, e5, e_sqn, e_sq, e_for, i2, e_fora]
            have e6 := e6
            rw [List.map_nil, List.nil_append] at e6
            rw [e6, e_sqn]
            obtain ⟨ρ, ew, rfl⟩ := wE_ok l r y (some (.shr, .str (sdS false))) (some (.shr, encL (side false l r))) (some (.own, .list (ks.map wayD))) y6 y7' (by omega)
            have es := oSort_strs (wl l) (by have := len_wl l; omega)
            unfold stS at ew ⊢
            generalize encL (side false l r) = SS at *
            generalize encL l = L at *
            generalize encL r = Rr at *
            simp [ew, es, vwD, vD]
          · have tr := truth (l := l) (r := r) (ws := sortS (wl l)) (ks := ks) (fun c hc hn => sl c hc hn (by cases c <;> rfl)) sr c1 (fun x => by rw [(sortS_perm _).mem_iff, mem_wl]) (fun x u hu a ha => ?_) (fun x a ha => ?_)
            · exact ⟨fun a ha => (tr (wt a) a (Nat.le_refl _)).1 ha, fun a ha => (tr (wt a) a (Nat.le_refl _)).2 ha⟩
            · obtain ⟨b, hb, p, hp', w1, _⟩ := k1 x u hu
              rw [two hb, List.mem_singleton] at hp'
              subst hp'
              exact w1.1 a (mem_addC.mpr (.inr (mem_knb.mpr ha)))
            · obtain ⟨u, hu, p, hp', w1, _⟩ := k2 x a ha
              rw [two ha, List.mem_singleton] at hp'
              subst hp'
              exact ⟨u, hu, w1.2 a (by simp)⟩
          · refine .mk (sort_twice (nodup_wl nl)) ?_ (by omega) fun p hp' => ?_
            · rw [(sortS_perm _).length_eq]; have := len_wl l; omega
            · obtain ⟨a, ha, q, _, _, w2⟩ := k1 p.1 p.2 hp'
              exact w2
end PyK77

/-! the search ends -/
namespace PyK77
open PySem PySem.Spec L2 PyI
theorem prem_two (s : Bool) (c : Cl) (l r : List Cl) : (prem s c l r).length ≤ 2 := by
  cases s <;> cases c <;> (try rename_i o _ _; cases o) <;> simp [prem]
/-- what the rows are made of is not too large -/
structure Bd (G : List (Bool × Cl)) : Prop where
  cl : Closed G
  ln : G.length ≤ 50
  wt : ∀ p ∈ G, wt p.2 ≤ 46
theorem Bd.l {G : List (Bool × Cl)} (b : Bd G) {M : Nat} {l r : List Cl} (o : Ok G M l r) : (∀ a ∈ l, ext a ≤ 46) ∧ (∀ a ∈ r, ext a ≤ 46) ∧ l.length ≤ 50 ∧ r.length ≤ 50 := by
  have := o.len
  have := b.ln
  exact ⟨fun a ha => Nat.le_trans (ext_wt a) (b.wt _ (o.gl a ha)), fun a ha => Nat.le_trans (ext_wt a) (b.wt _ (o.gr a ha)), by omega, by omega⟩
theorem prem_lvl {G : List (Bool × Cl)} (b : Bd G) {M : Nat} {l r : List Cl} (o : Ok G M l r) (j : Nat) : ∀ s c, c ∈ side s l r → lit c = false → (lvl (j + 2)).premises [(.shr, .str (sdS s)), (.shr, enc c), (.shr, encL l), (.shr, encL r)] = some (.fresh (.list ((prem s c l r).map encS)), none) := fun s c hc hn => by
  obtain ⟨b1, b2, b3, b4⟩ := b.l o
  have hg : (s, c) ∈ G := by
    cases s with
    | false => exact o.gr c hc
    | true => exact o.gl c hc
  exact prem_ok (lvl (j + 1)) (addR_lvl j) (redR_lvl j) s c l r (by omega) (by omega) (fun p hp => Nat.le_trans (ext_wt p.2) (b.wt _ (b.cl _ hg p hp))) b1 hn
theorem search {G : List (Bool × Cl)} (b : Bd G) : ∀ (h n M : Nat) (l r : List Cl), Ok G M l r → ht G M l r ≤ h → 2 * h + 3 ≤ n → ∃ d, (lvl n).shown [(.shr, encL l), (.shr, encL r)] = some (.kept d, none) ∧ W0 h M l r d
  | 0, n, M, l, r, o, hh, hn => by unfold ht at hh; omega
  | h + 1, n, M, l, r, o, hh, hn => by
    obtain ⟨j, rfl⟩ : ∃ j, n = j + 3 := ⟨n - 3, by omega⟩
    obtain ⟨b1, b2, b3, b4⟩ := b.l o
    refine shown_ok (lvl (j + 2)) h M l r o.nl b3 b4 b1 b2 (prem_lvl b o j) fun s c st hs hc hne hj => ?_
    refine parted_ok (lvl (j + 1)) (fun p pf => Pf h p.1 p.2 pf) (fun p v => Cm p.1 p.2 v ∧ Wf (if jump s c = true then M else M + 1) v) s c st hs (prem s c l r) (Nat.le_trans (prem_two s c l r) (by decide)) fun p hp => ?_
    have key : ∃ M', Ok G M' p.1 p.2 ∧ ht G M' p.1 p.2 < ht G M l r ∧ M' + 1 ≤ (if jump s c = true then M else M + 1) := by
      cases hjj : jump s c with
      | false =>
        have hni : (l, r) ∉ prem s c l r := hj.resolve_left (by rw [hjj]; decide)
        have o' := o.prem b.cl hc hjj p hp
        exact ⟨M, o', ht_lt o' (prem_len hjj hp fun z => hni (z ▸ hp)), by simp⟩
      | true =>
        cases s with
        | true => cases hjj
        | false =>
          cases c with
          | kn x a =>
            obtain ⟨hM, o'⟩ := o.jump b.cl (x := x) (a := a) hc
            have : p = (addC [] (knb x l), [a]) := by simpa [prem] using hp
            subst this
            exact ⟨M - 1, o', ht_jump hM, by simp; omega⟩
          | _ => cases hjj
    obtain ⟨M', o', hlt, hM⟩ := key
    obtain ⟨d, e, w⟩ := search b h (j + 1) M' p.1 p.2 o' (by omega) (by omega)
    rcases w with ⟨pf, rfl, w⟩ | ⟨v, rfl, w1, w2⟩
    · exact .inl ⟨pf, e, w⟩
    · exact .inr ⟨v, e, w1, w2.mono hM⟩
end PyK77

/-! is_shown takes a proof -/
namespace PyK77
open PySem PySem.Spec L2 PyI
theorem cutHd (a b : PyData) (ps : List PyData) : opSl (.tuple (a :: b :: ps)) none (some 2) = some (.tuple [a, b]) := by
  show some (PyData.tuple (cutD (a :: b :: ps) none (some 2))) = _
  have : HT.sIx (a :: b :: ps).length (a :: b :: ps).length (some 2) = 2 := by
    simp only [HT.sIx, List.length_cons]
    first | omega | (split <;> omega)
  unfold cutD
  rw [this]
  simp [HT.sIx]
theorem cutTl (a b : PyData) (ps : List PyData) : opSl (.tuple (a :: b :: ps)) (some 2) none = some (.tuple ps) := by
  show some (PyData.tuple (cutD (a :: b :: ps) (some 2) none)) = _
  have : HT.sIx (a :: b :: ps).length 0 (some 2) = 2 := by
    simp only [HT.sIx, List.length_cons]
    first | omega | (split <;> omega)
  unfold cutD
  rw [this]
  simp [HT.sIx]
def zpD (z : (List Cl × List Cl) × PyData) : PyData := .tuple [encS z.1, z.2]
theorem zipD_enc : ∀ (ds : List (List Cl × List Cl)) (ps : List PyData), zipD (ds.map encS) ps = (ds.zip ps).map zpD
  | [], ps => by simp [zipD]
  | d :: ds, [] => by simp [zipD]
  | d :: ds, p :: ps => by simp [zipD, zipD_enc ds ps, zpD]
theorem zipB_enc : ∀ (ds : List (List Cl × List Cl)) (ps : List PyData), zipB (ds.map encS) ps = true
  | [], ps => by simp [zipB]
  | d :: ds, [] => by simp [zipB]
  | d :: ds, p :: ps => by
    have : pairsB [encS d, p] = false := by
      have : pairB (encS d) = false := rfl
      simp [pairsB, this]
    simp [zipB, zipB_enc ds ps, this]
def stT (l r : List Cl) (pf : PyData) (T : Int) (v4 v5 v6 v7 v8 v9 : Sl) : Rho := [some (.shr, encL l), some (.shr, encL r), some (.shr, pf), some (.shr, .int T), v4, v5, v6, v7, v8, v9]
def zE (R : Fns) : Mo Rs := xLc [7, 8, 9] (iZ (aC (xV 6) (aC (xSl (xV 2) (oS (xC (.int 2))) oN) aN))) (gT (gsC (gT (gsC (gN 7) (gsC (gN 8) gsN))) (gsC (gN 9) gsN))) tYesM (xCall R.is_shown (aC (xV 7) (aC (xV 8) (aC (xV 9) (aC (x2 (xV 3) (xC (.int 1)) opSub) aN)))))
theorem zE_ok (R : Fns) (l r : List Cl) (s c : PyData) (ps : List PyData) (T : Int) (v4 v5 : Sl) (ds : List (List Cl × List Cl)) (hl : ds.length ≤ 100)
    (h : ∀ z ∈ ds.zip ps, R.is_shown [(.shr, encL z.1.1), (.shr, encL z.1.2), (.shr, z.2), (.shr, .int (T - 1))] = some (.kept (.bool true), none)) :
    zE R (stT l r (.tuple (s :: c :: ps)) T v4 v5 (some (.own, .list (ds.map encS))) none none none) = some (.fresh (.list ((ds.zip ps).map fun _ => .bool true)), stT l r (.tuple (s :: c :: ps)) T v4 v5 (some (.shr, .list (ds.map encS))) none none none) := by
  have src : iZ (aC (xV 6) (aC (xSl (xV 2) (oS (xC (.int 2))) oN) aN)) (stT l r (.tuple (s :: c :: ps)) T v4 v5 (some (.own, .list (ds.map encS))) none none none) = some ((ds.zip ps).map zpD, stT l r (.tuple (s :: c :: ps)) T v4 v5 (some (.shr, .list (ds.map encS))) none none none) := by
    have zo : zipO [.list (ds.map encS), .tuple ps] = some ((ds.zip ps).map zpD) := by
      show (if zipB (ds.map encS) ps = true then some (zipD (ds.map encS) ps) else none) = _
      rw [if_pos (zipB_enc ds ps), zipD_enc]
    have a : aC (xV 6) (aC (xSl (xV 2) (oS (xC (.int 2))) oN) aN) (stT l r (.tuple (s :: c :: ps)) T v4 v5 (some (.own, .list (ds.map encS))) none none none) = some ([.slot 6, .kept (.tuple ps)], stT l r (.tuple (s :: c :: ps)) T v4 v5 (some (.own, .list (ds.map encS))) none none none) := by
      unfold stT
      generalize encL l = L
      generalize encL r = Rr
      generalize ds.map encS = DL
      simp [cutTl]
    have k : keepL [.slot 6, .kept (.tuple ps)] (stT l r (.tuple (s :: c :: ps)) T v4 v5 (some (.own, .list (ds.map encS))) none none none) = some ([.list (ds.map encS), .tuple ps], stT l r (.tuple (s :: c :: ps)) T v4 v5 (some (.shr, .list (ds.map encS))) none none none) := by
      unfold stT
      generalize encL l = L
      generalize encL r = Rr
      generalize ds.map encS = DL
      simp
    unfold iZ bindM
    rw [a]
    dsimp only
    rw [k]
    dsimp only
    unfold optM
    rw [zo]
  have := lc_evalT (vs := [7, 8, 9]) (fi := iZ (aC (xV 6) (aC (xSl (xV 2) (oS (xC (.int 2))) oN) aN))) (g := gT (gsC (gT (gsC (gN 7) (gsC (gN 8) gsN))) (gsC (gN 9) gsN))) (t := tYesM) (fe := xCall R.is_shown (aC (xV 7) (aC (xV 8) (aC (xV 9) (aC (x2 (xV 3) (xC (.int 1)) opSub) aN)))))
    (ρ := stT l r (.tuple (s :: c :: ps)) T v4 v5 (some (.own, .list (ds.map encS))) none none none) (ρ1 := stT l r (.tuple (s :: c :: ps)) T v4 v5 (some (.shr, .list (ds.map encS))) none none none) (l := ds.zip ps) (e := zpD) (fun _ => true) (fun _ => .bool true) src (by rw [List.length_zip]; exact Nat.le_trans (Nat.min_le_left _ _) (Nat.le_trans hl (by decide))) (fun z hz => ?_)
  · unfold zE
    rw [this, List.filter_eq_self.mpr fun _ _ => rfl]
    unfold stT
    simp [wipeE, restE]
  · have hz := h z hz
    obtain ⟨⟨p1, p2⟩, q⟩ := z
    refine ⟨stT l r (.tuple (s :: c :: ps)) T v4 v5 (some (.shr, .list (ds.map encS))) (some (.shr, encL p1)) (some (.shr, encL p2)) (some (.shr, q)), ?_, _, rfl, fun z => (by cases z), fun _ => ⟨.kept (.bool true), stT l r (.tuple (s :: c :: ps)) T v4 v5 (some (.shr, .list (ds.map encS))) (some (.shr, encL p1)) (some (.shr, encL p2)) (some (.shr, q)), stT l r (.tuple (s :: c :: ps)) T v4 v5 (some (.shr, .list (ds.map encS))) (some (.shr, encL p1)) (some (.shr, encL p2)) (some (.shr, q)), ?_, by simp, ?_⟩⟩
    · unfold stT zpD encS
      generalize encL l = L
      generalize encL r = Rr
      simp [wipeE]
    · unfold stT
      generalize encL l = L at *
      generalize encL r = Rr at *
      generalize ds.map encS = DL
      dsimp only at hz
      simp [hz]
    · unfold stT
      simp [wipeE]
theorem m_is_shown_eq (R : Fns) : m_is_shown R = sSeq (sIf (tOrM (tNotM (tV (xIsi "tuple" (xV 2)))) (tOrM (tV (x2 (xB oLen (aC (xV 2) aN)) (xC (.int 2)) opLt)) (tV (x2 (xV 3) (xC (.int 0)) opEq)))) (sRet (xC (.bool false))) sPass)
    (sSeq (sUnp (xSl (xV 2) oN (oS (xC (.int 2)))) (gT (gsC (gN 4) (gsC (gN 5) gsN))))
    (sSeq (sIf (tV (x2 (xV 4) (xC (.str "same")) opEq)) (sRet (xAnd (x2 (xB oLen (aC (xV 2) aN)) (xC (.int 2)) opEq) (xAnd (x2 (xV 5) (xV 0) opInA) (xOr (x2 (xV 5) (xV 1) opInA) (x2 (xV 5) (xC c_NONE) opEq))))) sPass)
    (sSeq (sIf (tOrM (tV (x2 (xV 4) (xTup (aC (xC (.str "left")) (aC (xC (.str "right")) aN))) opNotInA)) (tV (x2 (xV 5) (xIf (tV (x2 (xV 4) (xC (.str "left")) opEq)) (xV 0) (xV 1)) opNotInA))) (sRet (xC (.bool false))) sPass)
    (sSeq (sIf (tV (x2 (x2i (xV 5) (xC (.int 0)) opIx) (xTup (aC (xC (.str "word")) (aC (xC (.str "none")) aN))) opInA)) (sRet (xC (.bool false))) sPass)
    (sSeq (sSet 6 (xCall R.premises (aC (xV 4) (aC (xV 5) (aC (xV 0) (aC (xV 1) aN))))))
    (sSeq (sIf (tV (x2 (xB oLen (aC (xV 2) aN)) (x2 (xC (.int 2)) (xB oLen (aC (xV 6) aN)) opAdd) opNe)) (sRet (xC (.bool false))) sPass)
    (sRet (x2 (xC (.bool false)) (zE R) opNotInA)))))))) := rfl
theorem nin_trues {α : Type} (l : List α) : opNotInA (.bool false) (.list (l.map fun _ => PyData.bool true)) = some (.bool true) := by
  rw [nin_all l fun _ => true]; simp
theorem nin_Tc {c : Cl} (h : ext c ≤ 48) (l : List Cl) : opNotInA (enc c) (encL l) = some (.bool (!decide (c ∈ l))) := by
  have := in_T h l
  unfold opInA at this
  unfold opNotInA
  cases e : anyIn (enc c) (encL l) with
  | none => rw [e] at this; cases this
  | some b =>
    rw [e] at this
    have : b = decide (c ∈ l) := by injection this with h; injection h
    rw [this]; rfl
theorem is_shown_ok {G : List (Bool × Cl)} (b : Bd G) : ∀ {h : Nat} {l r : List Cl} {d : PyData}, Pf h l r d → ∀ (M n : Nat) (T : Int), Ok G M l r → (h : Int) ≤ T → h + 3 ≤ n → (lvl n).is_shown [(.shr, encL l), (.shr, encL r), (.shr, d), (.shr, .int T)] = some (.kept (.bool true), none) := by
  intro h l r d p
  induction p with
  | same hl hr =>
    rename_i h l r c
    intro M n T o hT hn
    obtain ⟨j, rfl⟩ : ∃ j, n = j + 3 := ⟨n - 3, by omega⟩
    obtain ⟨b1, b2, b3, b4⟩ := b.l o
    rw [show (lvl (j + 3)).is_shown = runF 4 10 (m_is_shown (lvl (j + 2))) from rfl]
    refine run_ex rfl (fun _ => rfl) ?_
    show endR (m_is_shown (lvl (j + 2)) (stT l r (.tuple [.str "same", enc c]) T none none none none none none)) = _
    have hc := b1 c hl
    have i1 := in_T (c := c) (by omega) l
    have i2 := in_T (c := c) (by omega) r
    have i3 := eq_no (a := c) (by omega)
    have i4 := cutHd (.str "same") (enc c) []
    have hT0 : (T == 0) = false := by simp; omega
    rw [decide_eq_true hl] at i1
    have ty : isSub (tyD (.tuple [.str "same", enc c])) "tuple" = true := rfl
    unfold m_is_shown stT
    generalize encL l = L at *
    generalize encL r = Rr at *
    by_cases h2 : c ∈ r
    · rw [decide_eq_true h2] at i2
      generalize enc c = dc at *
      simp [ty, hT0, i4, i1, i2]
    · rw [decide_eq_false h2] at i2
      rw [decide_eq_true (hr.resolve_left h2)] at i3
      generalize enc c = dc at *
      simp [ty, hT0, i4, i1, i2, i3]
  | rule hc hn' he _ ih =>
    rename_i h l r s c ps _
    intro M n T o hT hn
    obtain ⟨j, rfl⟩ : ∃ j, n = j + 3 := ⟨n - 3, by omega⟩
    obtain ⟨b1, b2, b3, b4⟩ := b.l o
    rw [show (lvl (j + 3)).is_shown = runF 4 10 (m_is_shown (lvl (j + 2))) from rfl]
    refine run_ex rfl (fun _ => rfl) ?_
    show endR (m_is_shown (lvl (j + 2)) (stT l r (.tuple (.str (sdS s) :: enc c :: ps)) T none none none none none none)) = _
    have sub : ∀ z ∈ (prem s c l r).zip ps, (lvl (j + 2)).is_shown [(.shr, encL z.1.1), (.shr, encL z.1.2), (.shr, z.2), (.shr, .int (T - 1))] = some (.kept (.bool true), none) := fun z hz => by
      obtain ⟨i, hi, rfl⟩ := List.getElem_of_mem hz
      have hi1 : i < (prem s c l r).length := by rw [List.length_zip] at hi; omega
      have hi2 : i < ps.length := by rw [List.length_zip] at hi; omega
      rw [List.getElem_zip]
      have oo : ∃ M', Ok G M' (prem s c l r)[i].1 (prem s c l r)[i].2 := by
        cases hj : jump s c with
        | false => exact ⟨M, o.prem b.cl hc hj _ (List.getElem_mem hi1)⟩
        | true =>
          cases s with
          | true => cases hj
          | false =>
            cases c with
            | kn x a =>
              have e : ∀ p ∈ prem false (.kn x a) l r, p = (addC [] (knb x l), [a]) := fun p hp => by simpa [prem] using hp
              rw [e _ (List.getElem_mem hi1)]
              exact ⟨M - 1, (o.jump b.cl (x := x) (a := a) hc).2⟩
            | _ => cases hj
      obtain ⟨M', oo⟩ := oo
      exact ih i _ _ (List.getElem?_eq_getElem hi1) (List.getElem?_eq_getElem hi2) M' (j + 2) (T - 1) oo (by omega) (by omega)
    have hcx : ext c ≤ 46 := by
      cases s with
      | false => exact b2 c hc
      | true => exact b1 c hc
    have i1 : opNotInA (enc c) (encL (side s l r)) = some (.bool false) := by rw [nin_Tc (by omega)]; simp [hc]
    have i2 := nin2 (sdS s) "left" "right"
    have i2' : opNotInA (.str (sdS s)) (.tuple [.str "left", .str "right"]) = some (.bool false) := by rw [i2]; cases s <;> simp [sdS]
    have i3 := in2 (hdS c) "word" "none"
    rw [hd_lit, hn'] at i3
    have i4 := cutHd (.str (sdS s)) (enc c) ps
    have i5 := ix0 c
    have pr := prem_lvl b o j s c hc hn'
    have zo := fun v4 v5 => zE_ok (lvl (j + 2)) l r (.str (sdS s)) (enc c) ps T v4 v5 (prem s c l r) (Nat.le_trans (prem_two s c l r) (by decide)) sub
    have nt := nin_trues ((prem s c l r).zip ps)
    have hT0 : (T == 0) = false := by simp; omega
    have ty : isSub (tyD (.tuple (.str (sdS s) :: enc c :: ps))) "tuple" = true := rfl
    have hsame : (sdS s == ("same" : Str)) = false := by cases s <;> simp [sdS]
    have hlen : ¬ ((ps.length : Int) + 1 + 1 < 2) := by omega
    have hne : ((ps.length : Int) + 1 + 1 == 2 + ((prem s c l r).length : Int)) = true := by rw [he]; simp; omega
    rw [m_is_shown_eq]
    unfold stT at zo ⊢
    generalize zE (lvl (j + 2)) = ZE at *
    have ln : (List.map encS (prem s c l r)).length = (prem s c l r).length := List.length_map ..
    cases s with
    | true =>
      have i1 : opNotInA (enc c) (encL l) = some (.bool false) := i1
      have i6 : (sdS true == ("left" : Str)) = true := by simp [sdS]
      generalize encL l = L at *
      generalize encL r = Rr at *
      generalize enc c = dc at *
      generalize List.map encS (prem true c l r) = PL at *
      simp [ty, hT0, i4, hsame, i2', i1, i3, i5, pr, hlen, hne, ln, zo, nt, i6]
    | false =>
      have i1 : opNotInA (enc c) (encL r) = some (.bool false) := i1
      have i6 : (sdS false == ("left" : Str)) = false := by simp [sdS]
      generalize encL l = L at *
      generalize encL r = Rr at *
      generalize enc c = dc at *
      generalize List.map encS (prem false c l r) = PL at *
      simp [ty, hT0, i4, hsame, i2', i1, i3, i5, pr, hlen, hne, ln, zo, nt, i6]
end PyK77

/-! is_so -/
namespace PyK77
open PySem PySem.Spec L2 PyI
noncomputable def bv (P : Prop) : Bool := @decide P (Classical.propDecidable P)
theorem bv_t {P : Prop} (h : P) : bv P = true := @decide_eq_true P (Classical.propDecidable P) h
theorem bv_f {P : Prop} (h : ¬ P) : bv P = false := @decide_eq_false P (Classical.propDecidable P) h
theorem bv_iff {P : Prop} : bv P = true ↔ P := @decide_eq_true_iff P (Classical.propDecidable P)
theorem bv_eq {P : Prop} {b : Bool} (h : b = true ↔ P) : bv P = b := by
  by_cases p : P
  · rw [bv_t p, h.mpr p]
  · rw [bv_f p]; cases b with
    | false => rfl
    | true => exact absurd (h.mp rfl) p
theorem rng_map (n : Nat) : rngD 0 n = (List.range n).map fun i : Nat => PyData.int (i : Int) := by
  apply List.ext_getElem?
  intro i
  by_cases h : i < n
  · rw [rngD_get n 0 i h, List.getElem?_map, List.getElem?_range h]; simp
  · rw [List.getElem?_eq_none (by rw [rngD_len]; omega), List.getElem?_eq_none (by simp; omega)]
/-- which views are left -/
def lfA : (PyData → Prop) → List Cl → PyData → Prop
  | L, [] => L
  | L, c :: T => lfA (fun u => L u ∧ So c L u) T
def leftOf (T : List Cl) : PyData → Prop := lfA All T
theorem lfA_app (c : Cl) : ∀ (T : List Cl) (L : PyData → Prop), lfA L (T ++ [c]) = fun u => lfA L T u ∧ So c (lfA L T) u
  | [], L => rfl
  | d :: T, L => lfA_app c T _
theorem lfA_iff (u : PyData) : ∀ (T : List Cl) (L : PyData → Prop), lfA L T u ↔ L u ∧ ∀ i c, T[i]? = some c → So c (lfA L (T.take i)) u
  | [], L => ⟨fun h => ⟨h, fun i c h => by simp at h⟩, fun h => h.1⟩
  | d :: T, L => by
    rw [lfA, lfA_iff u T]
    constructor
    · rintro ⟨⟨h1, h2⟩, h3⟩
      refine ⟨h1, fun i c h => ?_⟩
      cases i with
      | zero => simp at h; subst h; exact h2
      | succ i => exact h3 i c (by simpa using h)
    · rintro ⟨h1, h2⟩
      exact ⟨⟨h1, h2 0 d (by simp)⟩, fun i c h => h2 (i + 1) c (by simpa using h)⟩
def sz (T : List Cl) : Nat := (T.map ext).sum
theorem sz_app (T : List Cl) (c : Cl) : sz (T ++ [c]) = sz T + ext c := by simp [sz]
theorem sz_take : ∀ {T : List Cl} {i : Nat} {c : Cl}, T[i]? = some c → sz (T.take i) + ext c ≤ sz T
  | [], i, c, h => by simp at h
  | d :: T, 0, c, h => by simp at h; subst h; simp [sz]
  | d :: T, i + 1, c, h => by
    have := sz_take (T := T) (i := i) (c := c) (by simpa using h)
    simp only [sz, List.take_succ_cons, List.map_cons, List.sum_cons] at this ⊢
    omega
theorem len_sz : ∀ T : List Cl, T.length ≤ sz T
  | [] => Nat.zero_le _
  | c :: T => by
    have h1 := len_sz T
    have h2 := ext_pos c
    simp only [sz, List.map_cons, List.sum_cons, List.length_cons] at h1 ⊢
    omega
theorem in_strsT (w : Str) (xs : List Str) : opInA (.str w) (.tuple (xs.map .str)) = some (.bool (decide (w ∈ xs))) := by
  have h := in_strs w xs
  have e : anyIn (.str w) (.tuple (xs.map .str)) = anyIn (.str w) (.list (xs.map .str)) := rfl
  unfold opInA at h ⊢
  rw [e]; exact h
theorem wf_form {m : Nat} {v : PyData} (w : Wf m v) : ∃ ws ks k, v = vD ws ks ∧ m = k + 1 ∧ sortS (dedupS ws) = ws ∧ ws.length ≤ 50 ∧ ks.length ≤ 100 ∧ ∀ p ∈ ks, Wf k p.2 := by
  cases w with
  | mk a b c d => exact ⟨_, _, _, rfl, rfl, a, b, c, d⟩
def SoR (R : Fns) (N : Nat) : Prop := ∀ (c : Cl) (T : List Cl) (m : Nat) (v : PyData), ext c + sz T ≤ N → Wf m v → R.is_so [(.shr, v), (.shr, enc c), (.shr, encL T)] = some (.kept (.bool (bv (So c (leftOf T) v))), none)
def LfR (R : Fns) (N : Nat) : Prop := ∀ (T : List Cl) (m : Nat) (v : PyData), sz T ≤ N → Wf m v → R.is_left [(.shr, v), (.shr, encL T)] = some (.kept (.bool (bv (leftOf T v))), none)
theorem take_enc (T : List Cl) (i : Nat) (h : i ≤ T.length) : opSl (encL T) none (some (i : Int)) = some (encL (T.take i)) := by
  show some (PyData.tuple (cutD (T.map enc) none (some (i : Int)))) = _
  have : HT.sIx (T.map enc).length (T.map enc).length (some (i : Int)) = i := by rw [HT.sIx_nat, List.length_map]; omega
  unfold cutD
  rw [this]
  simp [HT.sIx, encL, List.map_take]
theorem left_ok (R : Fns) {N : Nat} (hN : N ≤ 100) (S : SoR R N) (T : List Cl) (m : Nat) (v : PyData) (hT : sz T ≤ N) (w : Wf m v) : runF 2 3 (m_is_left R) [(.shr, v), (.shr, encL T)] = some (.kept (.bool (bv (leftOf T v))), none) := by
  refine run_ex rfl (fun _ => rfl) ?_
  show endR (m_is_left R [some (.shr, v), some (.shr, encL T), none]) = _
  have hl := len_sz T
  have ir : ∀ ρ, irb (some (.int (T.length : Int))) ρ = some ((List.range T.length).map fun i : Nat => PyData.int (i : Int), ρ) := fun ρ => by rw [e_irb _ _ (by omega), rng_map]
  have src : iR1 (xB oLen (aC (xV 1) aN)) [some (.shr, v), some (.shr, encL T), none] = some ((List.range T.length).map fun i : Nat => PyData.int (i : Int), [some (.shr, v), some (.shr, encL T), none]) := by
    unfold encL
    simp [ir]
  have lc := lc_evalT (vs := [2]) (fi := iR1 (xB oLen (aC (xV 1) aN))) (g := gN 2) (t := tYesM) (fe := xCall R.is_so (aC (xV 0) (aC (x2i (xV 1) (xV 2) opIx) (aC (xSl (xV 1) oN (oS (xV 2))) aN))))
    (ρ := [some (.shr, v), some (.shr, encL T), none]) (ρ1 := [some (.shr, v), some (.shr, encL T), none]) (l := List.range T.length) (e := fun i : Nat => PyData.int (i : Int)) (fun _ => true) (fun i => .bool (bv (∀ c, T[i]? = some c → So c (leftOf (T.take i)) v))) src (by rw [List.length_range]; exact Nat.le_trans (show T.length ≤ 100 by omega) (by decide)) (fun i hi => ?_)
  · unfold m_is_left
    have ni := nin_all (List.range T.length) fun i => bv (∀ c, T[i]? = some c → So c (leftOf (T.take i)) v)
    rw [List.filter_eq_self.mpr fun _ _ => rfl] at lc
    simp only [wipeE, restE] at lc
    have e : (List.range T.length).all (fun i => bv (∀ c, T[i]? = some c → So c (leftOf (T.take i)) v)) = bv (leftOf T v) := by
      symm
      apply bv_eq
      rw [List.all_eq_true]
      show _ ↔ lfA All T v
      rw [lfA_iff]
      constructor
      · intro h
        exact ⟨trivial, fun i c hc => bv_iff.mp (h i (List.mem_range.mpr (List.getElem?_eq_some_iff.mp hc).1)) c hc⟩
      · intro h i _
        exact bv_t (h.2 i)
    rw [e] at ni
    generalize List.map (fun i => PyData.bool (bv (∀ c, T[i]? = some c → So c (leftOf (T.take i)) v))) (List.range T.length) = BL at *
    generalize encL T = TT at *
    generalize (xLc [2] _ _ _ _) = LC at *
    simp [lc, ni]
  · have hi := List.mem_range.mp hi
    have hg : T[i]? = some T[i] := List.getElem?_eq_getElem hi
    have hs := S T[i] (T.take i) m v (by have := sz_take hg; omega) w
    have hb : bv (∀ c, T[i]? = some c → So c (leftOf (T.take i)) v) = bv (So T[i] (leftOf (T.take i)) v) := bv_eq (by
      rw [bv_iff]
      exact ⟨fun h c hc => by rw [hg] at hc; cases hc; exact h, fun h => h _ hg⟩)
    have hx : opIx (encL T) (.int (i : Int)) = some (enc T[i]) := by
      unfold encL
      rw [o_ixT, List.getElem?_map, hg]; rfl
    have hsl := take_enc T i (by omega)
    rw [hb]
    have hTI : encL (T.take i) = .tuple ((T.take i).map enc) := rfl
    rw [hTI] at hsl hs
    generalize encL T = TT at *
    generalize (T.take i).map enc = TI at *
    generalize enc T[i] = CI at *
    refine ⟨[some (.shr, v), some (.shr, TT), some (.shr, .int (i : Int))], by simp [wipeE], _, rfl, fun z => (by cases z), fun _ => ⟨.kept (.bool (bv (So T[i] (leftOf (T.take i)) v))), [some (.shr, v), some (.shr, TT), some (.shr, .int (i : Int))], [some (.shr, v), some (.shr, TT), some (.shr, .int (i : Int))], by simp [hx, hsl, hs], by simp, by simp [wipeE]⟩⟩
end PyK77

/-! is_so, the rest -/
namespace PyK77
open PySem PySem.Spec L2 PyI
def oth (x : Str) (ks : List (Str × PyData)) : List PyData := (ks.filter fun p => p.1 == x).map (·.2)
theorem mem_oth {x : Str} {ks : List (Str × PyData)} {u : PyData} : u ∈ oth x ks ↔ (x, u) ∈ ks := by
  unfold oth
  rw [List.mem_map]
  constructor
  · rintro ⟨⟨y, w⟩, h, rfl⟩
    rw [List.mem_filter] at h
    have : y = x := beq_iff_eq.mp h.2
    subst this; exact h.1
  · intro h
    exact ⟨(x, u), List.mem_filter.mpr ⟨h, by simp⟩, rfl⟩
def stO (v cd td : PyData) (v3 v4 v5 v6 v7 : Sl) : Rho := [some (.shr, v), some (.shr, cd), some (.shr, td), v3, v4, v5, v6, v7]
def oE1 : Mo Rs := xLc [6, 7] (iS (x2i (xV 0) (xC (.int 1)) opIx)) (gT (gsC (gN 6) (gsC (gN 7) gsN))) (tV (x2 (xV 6) (x2i (xV 1) (xC (.int 1)) opIx) opEq)) (xV 7)
def oE2 (R : Fns) : Mo Rs := xLc [7] (iS (xV 5)) (gN 7) (tV (xCall R.is_left (aC (xV 7) (aC (xV 2) aN)))) (xCall R.is_so (aC (xV 7) (aC (x2i (xV 1) (xC (.int 2)) opIx) (aC (xV 2) aN))))
theorem vd1 (ws : List Str) (ks : List (Str × PyData)) : opIx (vD ws ks) (.int 1) = some (.tuple (ks.map wayD)) := by unfold vD; simp
theorem vd0 (ws : List Str) (ks : List (Str × PyData)) : opIx (vD ws ks) (.int 0) = some (.tuple (ws.map .str)) := by unfold vD; simp
theorem oE1_ok (ws : List Str) (ks : List (Str × PyData)) (x : Str) (ad td : PyData) (v3 v4 : Sl) (h : ks.length ≤ 100) : oE1 (stO (vD ws ks) (.tuple [.str "knows", .str x, ad]) td v3 v4 none none none) = some (.fresh (.list (oth x ks)), stO (vD ws ks) (.tuple [.str "knows", .str x, ad]) td v3 v4 none none none) := by
  have v1 := vd1 ws ks
  have lc := lc_evalT (vs := [6, 7]) (fi := iS (x2i (xV 0) (xC (.int 1)) opIx)) (g := gT (gsC (gN 6) (gsC (gN 7) gsN))) (t := tV (x2 (xV 6) (x2i (xV 1) (xC (.int 1)) opIx) opEq)) (fe := xV 7)
    (ρ := stO (vD ws ks) (.tuple [.str "knows", .str x, ad]) td v3 v4 none none none) (ρ1 := stO (vD ws ks) (.tuple [.str "knows", .str x, ad]) td v3 v4 none none none) (l := ks) (e := wayD) (fun p => p.1 == x) (fun p => p.2)
    (by unfold stO; generalize vD ws ks = V at *; simp [v1]) (Nat.le_trans h (by decide)) (fun p hp => ?_)
  · unfold oE1
    rw [lc]
    unfold stO oth
    simp [wipeE, restE]
  · generalize vD ws ks = V at *
    refine ⟨stO V (.tuple [.str "knows", .str x, ad]) td v3 v4 none (some (.shr, .str p.1)) (some (.shr, p.2)), by unfold stO wayD; simp [wipeE], stO V (.tuple [.str "knows", .str x, ad]) td v3 v4 none (some (.shr, .str p.1)) (some (.shr, p.2)), by unfold stO; simp, fun _ => by unfold stO; simp [wipeE], fun _ => ⟨.slot 7, stO V (.tuple [.str "knows", .str x, ad]) td v3 v4 none (some (.shr, .str p.1)) (some (.shr, p.2)), stO V (.tuple [.str "knows", .str x, ad]) td v3 v4 none (some (.shr, .str p.1)) (some (.shr, p.2)), by unfold stO; simp, by unfold stO; simp, by unfold stO; simp [wipeE]⟩⟩
theorem oE2_ok (R : Fns) (V : PyData) (x : Str) (a : Cl) (T : List Cl) (v3 v4 : Sl) (us : List PyData) (h : us.length ≤ 1000) (hl : ∀ u ∈ us, R.is_left [(.shr, u), (.shr, encL T)] = some (.kept (.bool (bv (leftOf T u))), none)) (hs : ∀ u ∈ us, R.is_so [(.shr, u), (.shr, enc a), (.shr, encL T)] = some (.kept (.bool (bv (So a (leftOf T) u))), none)) :
    oE2 R (stO V (enc (.kn x a)) (encL T) v3 v4 (some (.own, .list us)) none none) = some (.fresh (.list ((us.filter fun u => bv (leftOf T u)).map fun u => .bool (bv (So a (leftOf T) u)))), stO V (enc (.kn x a)) (encL T) v3 v4 (some (.shr, .list us)) none none) := by
  have e : us.map (fun u => u) = us := List.map_id' us
  generalize encL T = TT at *
  have lc := lc_evalT (vs := [7]) (fi := iS (xV 5)) (g := gN 7) (t := tV (xCall R.is_left (aC (xV 7) (aC (xV 2) aN)))) (fe := xCall R.is_so (aC (xV 7) (aC (x2i (xV 1) (xC (.int 2)) opIx) (aC (xV 2) aN))))
    (ρ := stO V (enc (.kn x a)) TT v3 v4 (some (.own, .list us)) none none) (ρ1 := stO V (enc (.kn x a)) TT v3 v4 (some (.shr, .list us)) none none) (l := us) (e := fun u => u) (fun u => bv (leftOf T u)) (fun u => .bool (bv (So a (leftOf T) u)))
    (by rw [e]; unfold stO; generalize enc (.kn x a) = C; simp) (Nat.le_trans h (by decide)) (fun u hu => ?_)
  · unfold oE2
    rw [lc]
    unfold stO
    simp [wipeE, restE]
  · have hl := hl u hu
    have hs := hs u hu
    refine ⟨stO V (enc (.kn x a)) TT v3 v4 (some (.shr, .list us)) none (some (.shr, u)), by unfold stO; simp [wipeE], stO V (enc (.kn x a)) TT v3 v4 (some (.shr, .list us)) none (some (.shr, u)), by unfold stO; generalize enc (.kn x a) = C; simp [hl], fun _ => by unfold stO; simp [wipeE], fun _ => ⟨.kept (.bool (bv (So a (leftOf T) u))), stO V (enc (.kn x a)) TT v3 v4 (some (.shr, .list us)) none (some (.shr, u)), stO V (enc (.kn x a)) TT v3 v4 (some (.shr, .list us)) none (some (.shr, u)), by unfold stO; simp [enc, hs], by simp, by unfold stO; simp [wipeE]⟩⟩
theorem m_is_so_eq (R : Fns) : m_is_so R = sSeq (sSet 3 (x2i (xV 1) (xC (.int 0)) opIx))
    (sSeq (sIf (tV (x2 (xV 3) (xC (.str "word")) opEq)) (sRet (x2 (x2i (xV 1) (xC (.int 1)) opIx) (x2i (xV 0) (xC (.int 0)) opIx) opInA)) sPass)
    (sSeq (sIf (tV (x2 (xV 3) (xC (.str "none")) opEq)) (sRet (xC (.bool false))) sPass)
    (sSeq (sIf (tV (x2 (xV 3) (xC (.str "knows")) opEq)) (sSeq (sSet 5 (x2 (xLst (aC (xV 0) aN)) oE1 opAdd))
    (sRet (x2 (xC (.bool false)) (oE2 R) opNotInA))) sPass)
    (sSeq (sSet 4 (xCall R.is_so (aC (xV 0) (aC (x2i (xV 1) (xC (.int 1)) opIx) (aC (xV 2) aN)))))
    (sSeq (sIf (tV (x2 (xV 3) (xC (.str "told")) opEq)) (sRet (xOr (xNot (xV 4)) (xCall R.is_so (aC (xV 0) (aC (x2i (xV 1) (xC (.int 2)) opIx) (aC (x2 (xV 2) (xTup (aC (x2i (xV 1) (xC (.int 1)) opIx) aN)) opAdd) aN)))))) sPass)
    (sSeq (sIf (tV (x2 (xV 3) (xC (.str "and")) opEq)) (sRet (xAnd (xV 4) (xCall R.is_so (aC (xV 0) (aC (x2i (xV 1) (xC (.int 2)) opIx) (aC (xV 2) aN)))))) sPass)
    (sSeq (sIf (tV (x2 (xV 3) (xC (.str "or")) opEq)) (sRet (xOr (xV 4) (xCall R.is_so (aC (xV 0) (aC (x2i (xV 1) (xC (.int 2)) opIx) (aC (xV 2) aN)))))) sPass)
    (sRet (xOr (xNot (xV 4)) (xCall R.is_so (aC (xV 0) (aC (x2i (xV 1) (xC (.int 2)) opIx) (aC (xV 2) aN))))))))))))) := rfl
theorem so_ok (R : Fns) {N : Nat} (hN : N ≤ 100) (S : SoR R N) (Lf : ∀ T, 1 + sz T ≤ N → ∀ m v, Wf m v → R.is_left [(.shr, v), (.shr, encL T)] = some (.kept (.bool (bv (leftOf T v))), none)) (c : Cl) (T : List Cl) (m : Nat) (v : PyData) (hc : ext c + sz T ≤ N + 1) (w : Wf m v) :
    runF 3 8 (m_is_so R) [(.shr, v), (.shr, enc c), (.shr, encL T)] = some (.kept (.bool (bv (So c (leftOf T) v))), none) := by
  refine run_ex rfl (fun _ => rfl) ?_
  show endR (m_is_so R (stO v (enc c) (encL T) none none none none none)) = _
  rw [m_is_so_eq]
  cases c with
  | w x =>
    obtain ⟨ws, ks, k, rfl, rfl, w1, w2, w3, w4⟩ := wf_form w
    have v0 := vd0 ws ks
    have hi := in_strsT x ws
    have e : bv (So (.w x) (leftOf T) (vD ws ks)) = decide (x ∈ ws) := bv_eq (by simp only [So]; rw [ws_vD]; exact decide_eq_true_iff)
    rw [e]
    unfold stO
    generalize encL T = TT
    generalize vD ws ks = V at *
    generalize ws.map PyData.str = WL at *
    simp [enc, v0, hi]
  | no =>
    have e : bv (So .no (leftOf T) v) = false := bv_f fun z => z
    rw [e]
    unfold stO
    generalize encL T = TT
    simp [enc]
  | kn x a =>
    obtain ⟨ws, ks, k, rfl, rfl, w1, w2, w3, w4⟩ := wf_form w
    simp only [ext] at hc
    have hlen : (oth x ks).length ≤ 100 := by unfold oth; rw [List.length_map]; exact Nat.le_trans (List.length_filter_le _ _) w3
    have wu : ∀ u ∈ vD ws ks :: oth x ks, ∃ m', Wf m' u := fun u hu => by
      rcases List.mem_cons.mp hu with rfl | hu
      · exact ⟨_, w⟩
      · exact ⟨_, w4 _ (mem_oth.mp hu)⟩
    have e1 := oE1_ok ws ks x (enc a) (encL T) (some (.shr, .str "knows")) none w3
    have e2 := oE2_ok R (vD ws ks) x a T (some (.shr, .str "knows")) none (vD ws ks :: oth x ks) (by rw [List.length_cons]; omega) (fun u hu => by
      obtain ⟨m', h⟩ := wu u hu
      exact Lf T (by have := ext_pos a; omega) m' u h) (fun u hu => by
      obtain ⟨m', h⟩ := wu u hu
      exact S a T m' u (by omega) h)
    have ni := nin_all ((vD ws ks :: oth x ks).filter fun u => bv (leftOf T u)) fun u => bv (So a (leftOf T) u)
    have ea : (((vD ws ks :: oth x ks).filter fun u => bv (leftOf T u)).all fun u => bv (So a (leftOf T) u)) = bv (So (.kn x a) (leftOf T) (vD ws ks)) := by
      symm
      apply bv_eq
      rw [List.all_eq_true]
      simp only [So]
      constructor
      · intro h u hu hl
        refine bv_iff.mp (h u (List.mem_filter.mpr ⟨?_, bv_t hl⟩))
        rcases hu with rfl | hu
        · exact List.mem_cons_self
        · rw [ks_vD] at hu
          exact List.mem_cons_of_mem _ (mem_oth.mpr hu)
      · intro h u hu
        obtain ⟨h1, h2⟩ := List.mem_filter.mp hu
        refine bv_t (h u ?_ (bv_iff.mp h2))
        rcases List.mem_cons.mp h1 with rfl | h1
        · exact .inl rfl
        · exact .inr (by rw [ks_vD]; exact mem_oth.mp h1)
    rw [ea] at ni
    have ad : opAdd (.list [vD ws ks]) (.list (oth x ks)) = some (.list (vD ws ks :: oth x ks)) := (if_pos (Nat.le_trans (show 1 + (oth x ks).length ≤ 1000 by omega) (by decide)) : (if 1 + (oth x ks).length ≤ sizeLine then some (PyData.list ([vD ws ks] ++ oth x ks)) else none) = _)
    unfold stO at *
    generalize oE1 = O1 at *
    generalize oE2 R = O2 at *
    generalize encL T = TT at *
    generalize (List.map (fun u => PyData.bool (bv (So a (leftOf T) u))) _) = BL at *
    simp only [enc] at e1 e2 ⊢
    generalize vD ws ks = V at *
    generalize oth x ks = OL at *
    simp [e1, ad, e2, ni]
  | to s a =>
    simp only [ext] at hc
    have h1 := S s T m v (by omega) w
    have h2 := S a (T ++ [s]) m v (by rw [sz_app]; omega) w
    have hl := len_sz T
    have lo : leftOf (T ++ [s]) = fun u => leftOf T u ∧ So s (leftOf T) u := lfA_app s T All
    rw [lo] at h2
    have ad : opAdd (.tuple (T.map enc)) (.tuple [enc s]) = some (.tuple ((T ++ [s]).map enc)) := by
      rw [List.map_append]
      exact (if_pos (Nat.le_trans (show (T.map enc).length + 1 ≤ 1000 by rw [List.length_map]; omega) (by decide)) : (if (T.map enc).length + 1 ≤ sizeLine then some (PyData.tuple (T.map enc ++ [enc s])) else none) = _)
    unfold encL at *
    unfold stO
    generalize T.map enc = TT at *
    generalize (T ++ [s]).map enc = TT2 at *
    by_cases hs : So s (leftOf T) v
    · rw [bv_t hs] at h1
      have e : bv (So (.to s a) (leftOf T) v) = bv (So a (fun u => leftOf T u ∧ So s (leftOf T) u) v) := bv_eq (by rw [bv_iff]; exact ⟨fun h _ => h, fun h => h hs⟩)
      rw [e]
      simp [enc, h1, h2, ad]
    · rw [bv_f hs] at h1
      have e : bv (So (.to s a) (leftOf T) v) = true := bv_t fun z => absurd z hs
      rw [e]
      simp [enc, h1, h2, ad]
  | bi o a b =>
    simp only [ext] at hc
    have h1 := S a T m v (by omega) w
    have h2 := S b T m v (by omega) w
    unfold stO
    generalize encL T = TT at *
    by_cases ha : So a (leftOf T) v
    · rw [bv_t ha] at h1
      cases o with
      | an =>
        have e : bv (So (.bi .an a b) (leftOf T) v) = bv (So b (leftOf T) v) := bv_eq (by rw [bv_iff]; exact ⟨fun h => ⟨ha, h⟩, fun h => h.2⟩)
        rw [e]; simp [enc, Op.str, h1, h2]
      | ei =>
        have e : bv (So (.bi .ei a b) (leftOf T) v) = true := bv_t (.inl ha)
        rw [e]; simp [enc, Op.str, h1, h2]
      | im =>
        have e : bv (So (.bi .im a b) (leftOf T) v) = bv (So b (leftOf T) v) := bv_eq (by rw [bv_iff]; exact ⟨fun h _ => h, fun h => h ha⟩)
        rw [e]; simp [enc, Op.str, h1, h2]
    · rw [bv_f ha] at h1
      cases o with
      | an =>
        have e : bv (So (.bi .an a b) (leftOf T) v) = false := bv_f fun z => ha z.1
        rw [e]; simp [enc, Op.str, h1, h2]
      | ei =>
        have e : bv (So (.bi .ei a b) (leftOf T) v) = bv (So b (leftOf T) v) := bv_eq (by rw [bv_iff]; exact ⟨fun h => .inr h, fun h => h.resolve_left ha⟩)
        rw [e]; simp [enc, Op.str, h1, h2]
      | im =>
        have e : bv (So (.bi .im a b) (leftOf T) v) = true := bv_t fun z => absurd z ha
        rw [e]; simp [enc, Op.str, h1, h2]
theorem so_lvl : ∀ N : Nat, N ≤ 100 → ∀ n, 2 * N + 1 ≤ n → SoR (lvl n) N
  | 0, _, n, _ => fun c T m v h => by have := ext_pos c; omega
  | N + 1, hN, n, hn => fun c T m v hc w => by
    obtain ⟨j, rfl⟩ : ∃ j, n = j + 2 := ⟨n - 2, by omega⟩
    rw [show (lvl (j + 2)).is_so = runF 3 8 (m_is_so (lvl (j + 1))) from rfl]
    refine so_ok (lvl (j + 1)) (N := N) (by omega) (so_lvl N (by omega) (j + 1) (by omega)) (fun T hT m v w => ?_) c T m v hc w
    rw [show (lvl (j + 1)).is_left = runF 2 3 (m_is_left (lvl j)) from rfl]
    cases N with
    | zero => omega
    | succ N => exact left_ok (lvl j) (N := N) (by omega) (so_lvl N (by omega) j (by omega)) T m v (by omega) w
end PyK77

/-! is_view; law_extent -/
namespace PyK77
open PySem PySem.Spec L2 PyI
theorem ne_self (ws : List Str) : opNe (.list (ws.map .str)) (.list (ws.map .str)) = some (.bool false) := by
  have pl : (PyData.list (ws.map .str)).plain = true := by
    have : ∀ xs : List Str, PyData.plainAll (xs.map .str) = true := fun xs => by
      induction xs with
      | nil => rfl
      | cons x r ih => rw [List.map_cons, PyData.plainAll, ih]; rfl
    simp only [PyData.plain]; exact this ws
  have dp : PyData.depthAll (ws.map .str) = 0 := by
    induction ws with
    | nil => rfl
    | cons x r ih => rw [List.map_cons, PyData.depthAll, ih (by simp only [List.map_cons, PyData.plain, PyData.plainAll, Bool.true_and] at pl ⊢; exact pl)]; rfl
  have : eqD (.list (ws.map .str)) (.list (ws.map .str)) = some true := by
    show (if (PyData.list (ws.map .str)).plain = true ∧ (PyData.list (ws.map .str)).plain = true ∧ min (PyData.list (ws.map .str)).depth (PyData.list (ws.map .str)).depth ≤ 60 then some (PyData.eqv (.list (ws.map .str)) (.list (ws.map .str))) else none) = _
    rw [if_pos ⟨pl, pl, Nat.le_trans (Nat.min_le_left _ _) (by simp only [PyData.depth]; omega)⟩, SeqAt.eqv_refl_plain _ pl]
  unfold opNe; rw [this]; rfl
theorem so_T (ws : List Str) (h : ws.length ≤ 50) (e : sortS (dedupS ws) = ws) : soSetT (.tuple (ws.map .str)) = some (.list (ws.map .str)) := by
  show (strsD (ws.map .str)).bind _ = _
  rw [strsD_map]
  have := dedup_len ws
  show (if (dedupS ws).length < 64 ∧ ws.length < 1000 then some (PyData.list ((sortS (dedupS ws)).map .str)) else none) = _
  rw [if_pos ⟨by omega, by omega⟩, e]
theorem in_trues {α : Type} (l : List α) (p : α → Bool) (h : ∀ a ∈ l, p a = true) : opInA (.bool false) (.list (l.map fun a => PyData.bool (p a))) = some (.bool false) := by
  rw [in_all l p, List.all_eq_true.mpr h]; rfl
def vE1 : Mo Rs := xLc [3] (iS (xV 0)) (gN 3) tYesM (xIsi "tuple" (xV 3))
def vE2 : Mo Rs := xLc [4] (iS (x2i (xV 0) (xC (.int 0)) opIx)) (gN 4) tYesM (xIsi "str" (xV 4))
def bVw (R : Fns) : Mo Fl := sIf (tOrM (tNotM (tV (xIsi "tuple" (xV 2)))) (tOrM (tV (x2 (xB oLen (aC (xV 2) aN)) (xC (.int 2)) opNe)) (tOrM (tNotM (tV (xIsi "str" (x2i (xV 2) (xC (.int 0)) opIx)))) (tNotM (tV (xCall R.is_view (aC (x2i (xV 2) (xC (.int 1)) opIx) (aC (x2 (xV 1) (xC (.int 1)) opSub) aN)))))))) (sRet (xC (.bool false))) sPass
theorem m_is_view_eq (R : Fns) : m_is_view R = sSeq (sIf (tOrM (tNotM (tV (xIsi "tuple" (xV 0)))) (tOrM (tV (x2 (xB oLen (aC (xV 0) aN)) (xC (.int 2)) opNe)) (tV (x2 (xC (.bool false)) vE1 opInA)))) (sRet (xC (.bool false))) sPass)
    (sSeq (sIf (tOrM (tV (x2 (xV 1) (xC (.int 0)) opEq)) (tOrM (tV (x2 (xC (.bool false)) vE2 opInA)) (tV (x2 (xB oListA (aC (x2i (xV 0) (xC (.int 0)) opIx) aN)) (xSoSetT (x2i (xV 0) (xC (.int 0)) opIx)) opNe)))) (sRet (xC (.bool false))) sPass)
    (sSeq (sFor (iS (x2i (xV 0) (xC (.int 1)) opIx)) (gN 2) (bVw R))
    (sRet (xC (.bool true))))) := rfl
def stV (v : PyData) (T : Int) (v2 v3 v4 : Sl) : Rho := [some (.shr, v), some (.shr, .int T), v2, v3, v4]
theorem vE1_ok (a b : List PyData) (T : Int) : vE1 (stV (.tuple [.tuple a, .tuple b]) T none none none) = some (.fresh (.list [.bool true, .bool true]), stV (.tuple [.tuple a, .tuple b]) T none none none) := by
  have ty : ∀ l : List PyData, isSub (tyD (.tuple l)) "tuple" = true := fun _ => rfl
  have lc := lc_evalT (vs := [3]) (fi := iS (xV 0)) (g := gN 3) (t := tYesM) (fe := xIsi "tuple" (xV 3)) (ρ := stV (.tuple [.tuple a, .tuple b]) T none none none) (ρ1 := stV (.tuple [.tuple a, .tuple b]) T none none none) (l := [PyData.tuple a, .tuple b]) (e := fun u => u) (fun _ => true) (fun _ => .bool true)
    (by unfold stV; simp) (show 2 ≤ LIM by decide) (fun u hu => ?_)
  · unfold vE1
    rw [lc]
    unfold stV
    simp [wipeE, restE]
  · have hu' : isSub (tyD u) "tuple" = true := by
      rcases List.mem_cons.mp hu with rfl | hu
      · rfl
      · rw [List.mem_singleton] at hu; subst hu; rfl
    exact ⟨stV (.tuple [.tuple a, .tuple b]) T none (some (.shr, u)) none, by unfold stV; simp [wipeE], _, rfl, fun z => (by cases z), fun _ => ⟨.kept (.bool true), stV (.tuple [.tuple a, .tuple b]) T none (some (.shr, u)) none, stV (.tuple [.tuple a, .tuple b]) T none (some (.shr, u)) none, by unfold stV; simp [hu'], by simp, by unfold stV; simp [wipeE]⟩⟩
theorem vE2_ok (ws : List Str) (ks : List (Str × PyData)) (T : Int) (h : ws.length ≤ 50) : vE2 (stV (vD ws ks) T none none none) = some (.fresh (.list (ws.map fun _ => .bool true)), stV (vD ws ks) T none none none) := by
  have v0 := vd0 ws ks
  have ty : ∀ x : Str, isSub (tyD (.str x)) "str" = true := fun _ => rfl
  generalize vD ws ks = V at *
  have lc := lc_evalT (vs := [4]) (fi := iS (x2i (xV 0) (xC (.int 0)) opIx)) (g := gN 4) (t := tYesM) (fe := xIsi "str" (xV 4)) (ρ := stV V T none none none) (ρ1 := stV V T none none none) (l := ws) (e := .str) (fun _ => true) (fun _ => .bool true)
    (by unfold stV; simp [v0]) (Nat.le_trans h (by decide)) (fun u hu => ?_)
  · unfold vE2
    rw [lc, List.filter_eq_self.mpr fun _ _ => rfl]
    unfold stV
    simp [wipeE, restE]
  · exact ⟨stV V T none none (some (.shr, .str u)), by unfold stV; simp [wipeE], _, rfl, fun z => (by cases z), fun _ => ⟨.kept (.bool true), stV V T none none (some (.shr, .str u)), stV V T none none (some (.shr, .str u)), by unfold stV; simp [ty], by simp, by unfold stV; simp [wipeE]⟩⟩
theorem vw_loop (R : Fns) (v : PyData) (T : Int) : ∀ (ks : List (Str × PyData)) (v2 : Sl), (∀ p ∈ ks, R.is_view [(.shr, p.2), (.shr, .int (T - 1))] = some (.kept (.bool true), none)) → ∃ y2, forM (ks.map wayD) (gN 2) (bVw R) (stV v T v2 none none) = some (.nx, stV v T y2 none none)
  | [], v2, _ => ⟨v2, forM_nil _ _ _⟩
  | p :: ks, v2, h => by
    obtain ⟨y2, e⟩ := vw_loop R v T ks (some (.shr, wayD p)) fun q hq => h q (List.mem_cons_of_mem _ hq)
    have hp := h p List.mem_cons_self
    have t1 : ∀ l : List PyData, isSub (tyD (.tuple l)) "tuple" = true := fun _ => rfl
    have t2 : ∀ x : Str, isSub (tyD (.str x)) "str" = true := fun _ => rfl
    refine ⟨y2, ?_⟩
    rw [List.map_cons, forM_cons (ρ1 := stV v T (some (.shr, wayD p)) none none) (ρ2 := stV v T (some (.shr, wayD p)) none none) _ _ _ _ (by unfold stV; simp) (by unfold bVw stV wayD; simp [t1, t2, hp]), e]
theorem is_view_ok : ∀ (m : Nat) (v : PyData), Wf m v → ∀ (n : Nat) (T : Int), m ≤ n → (m : Int) ≤ T → (lvl n).is_view [(.shr, v), (.shr, .int T)] = some (.kept (.bool true), none)
  | 0, v, w, n, T, hn, hT => by obtain ⟨_, _, _, _, h, _⟩ := wf_form w; omega
  | m + 1, v, w, n, T, hn, hT => by
    obtain ⟨ws, ks, k, rfl, hk, w1, w2, w3, w4⟩ := wf_form w
    obtain rfl : k = m := by omega
    obtain ⟨j, rfl⟩ : ∃ j, n = j + 1 := ⟨n - 1, by omega⟩
    rw [show (lvl (j + 1)).is_view = runF 2 5 (m_is_view (lvl j)) from rfl]
    refine run_ex rfl (fun _ => rfl) ?_
    show endR (m_is_view (lvl j) (stV (vD ws ks) T none none none)) = _
    obtain ⟨y2, e3⟩ := vw_loop (lvl j) (vD ws ks) T ks none fun p hp => is_view_ok k p.2 (w4 p hp) j (T - 1) (by omega) (by omega)
    have e1 := vE1_ok (ws.map .str) (ks.map wayD) T
    have e2 := vE2_ok ws ks T w2
    have v0 := vd0 ws ks
    have v1 := vd1 ws ks
    have hT0 : (T == 0) = false := by simp; omega
    have n1 : opInA (.bool false) (.list [.bool true, .bool true]) = some (.bool false) := in_trues [true, true] (fun b => b) (by simp)
    have n2 := in_trues ws (fun _ => true) fun _ _ => rfl
    have n3 := ne_self ws
    have n4 := so_T ws w2 w1
    have ty : isSub (tyD (vD ws ks)) "tuple" = true := rfl
    have ln : oLen [vD ws ks] = some (.int 2) := rfl
    replace e1 : vE1 (stV (vD ws ks) T none none none) = some (.fresh (.list [.bool true, .bool true]), stV (vD ws ks) T none none none) := e1
    rw [m_is_view_eq]
    unfold stV at *
    generalize vE1 = E1 at *
    generalize vE2 = E2 at *
    generalize bVw (lvl j) = BV at *
    generalize vD ws ks = V at *
    generalize List.map PyData.str ws = WL at *
    generalize List.map wayD ks = KL at *
    generalize List.map (fun _ => PyData.bool true) ws = TL at *
    simp [ty, ln, e1, e2, n1, n2, n3, n4, hT0, v0, v1, e3]
/-! ### the law's own extent -/
theorem cut1 (a : PyData) (l : List PyData) : opSl (.tuple (a :: l)) (some 1) none = some (.tuple l) := by
  show some (PyData.tuple (cutD (a :: l) (some 1) none)) = _
  have : HT.sIx (a :: l).length 0 (some 1) = 1 := by
    simp only [HT.sIx, List.length_cons]
    first | omega | (split <;> omega)
  unfold cutD
  rw [this]
  simp [HT.sIx]
def exE (R : Fns) : Mo Rs := xLc [1] (iS (xSl (xV 0) (oS (xC (.int 1))) oN)) (gN 1) (tV (xIsi "tuple" (xV 1))) (xCall R.law_extent (aC (xV 1) aN))
theorem m_law_extent_eq (R : Fns) : m_law_extent R = sSeq (sIf (tV (x2 (x2i (xV 0) (xC (.int 0)) opIx) (xLst (aC (xC (.str "word")) (aC (xC (.str "none")) aN))) opInA)) (sRet (xC (.int 1))) sPass)
    (sRet (x2 (xC (.int 1)) (xB oSum (aC (exE R) aN)) opAdd)) := rfl
def getI : Option (Rs × Option PyData) → Int
  | some (.kept (.int i), _) => i
  | _ => 0
theorem exE_ok (R : Fns) (a : PyData) (l : List PyData) (hl : l.length ≤ 10) (h : ∀ d ∈ l, isSub (tyD d) "tuple" = true → ∃ i : Int, R.law_extent [(.shr, d)] = some (.kept (.int i), none)) :
    exE R [some (.shr, .tuple (a :: l)), none] = some (.fresh (.list (((l.filter fun d => isSub (tyD d) "tuple").map fun d => getI (R.law_extent [(.shr, d)])).map .int)), [some (.shr, .tuple (a :: l)), none]) := by
  have lc := lc_evalT (vs := [1]) (fi := iS (xSl (xV 0) (oS (xC (.int 1))) oN)) (g := gN 1) (t := tV (xIsi "tuple" (xV 1))) (fe := xCall R.law_extent (aC (xV 1) aN)) (ρ := [some (.shr, .tuple (a :: l)), none]) (ρ1 := [some (.shr, .tuple (a :: l)), none]) (l := l) (e := fun u => u) (fun d => isSub (tyD d) "tuple") (fun d => .int (getI (R.law_extent [(.shr, d)])))
    (by simp [cut1]) (Nat.le_trans hl (by decide)) (fun u hu => ?_)
  · unfold exE
    rw [lc, List.map_map]
    simp [wipeE, restE, Function.comp_def]
  · refine ⟨[some (.shr, .tuple (a :: l)), some (.shr, u)], by simp [wipeE], [some (.shr, .tuple (a :: l)), some (.shr, u)], by simp, fun _ => by simp [wipeE], fun hp => ?_⟩
    obtain ⟨i, e⟩ := h u hu hp
    exact ⟨.kept (.int i), [some (.shr, .tuple (a :: l)), some (.shr, u)], [some (.shr, .tuple (a :: l)), some (.shr, u)], by simp [e], by simp [e, getI], by simp [wipeE]⟩
theorem in2L (x a b : Str) : opInA (.str x) (.list [.str a, .str b]) = some (.bool (x == a || x == b)) := in2 x a b
theorem oSum_ints (l : List Int) : oSum [.list (l.map .int)] = some (.int l.sum) := by
  show (intsD (l.map .int)).map _ = _
  rw [intsD_map]; rfl
theorem ty_enc (a : Cl) : isSub (tyD (enc a)) "tuple" = true := by cases a <;> rfl
theorem ty_str (x : Str) : isSub (tyD (.str x)) "tuple" = false := rfl
theorem law_ext_ok : ∀ (n : Nat) (c : Cl), ext c ≤ n → (lvl n).law_extent [(.shr, enc c)] = some (.kept (.int (ext c)), none)
  | 0, c, h => by have := ext_pos c; omega
  | n + 1, c, h => by
    rw [show (lvl (n + 1)).law_extent = runF 1 2 (m_law_extent (lvl n)) from rfl]
    refine run_ex rfl (fun _ => rfl) ?_
    show endR (m_law_extent (lvl n) [some (.shr, enc c), none]) = _
    rw [m_law_extent_eq]
    cases c with
    | w x => simp [enc, in2L, ext]
    | no => simp [enc, in2L, ext]
    | kn x a =>
      have i := law_ext_ok n a (by simp only [ext] at h; omega)
      have e := exE_ok (lvl n) (.str "knows") [.str x, enc a] (by simp) (fun d hd ht => by
        simp only [List.mem_cons, List.not_mem_nil, or_false] at hd
        rcases hd with rfl | rfl
        · cases ht
        · exact ⟨_, i⟩)
      have es : (List.map (fun d => getI ((lvl n).law_extent [(.shr, d)])) (List.filter (fun d => isSub (tyD d) "tuple") [.str x, enc a])) = [(ext a : Int)] := by
        simp [List.filter_cons, ty_enc, ty_str, i, getI]
      rw [es] at e
      have su := oSum_ints [(ext a : Int)]
      generalize exE (lvl n) = EX at *
      generalize hk : List.map PyData.int [(ext a : Int)] = KK at *
      simp only [enc]
      simp [in2L, e, su, ext]
    | to s a =>
      have i := law_ext_ok n a (by simp only [ext] at h; omega)
      have i2 := law_ext_ok n s (by simp only [ext] at h; omega)
      have e := exE_ok (lvl n) (.str "told") [enc s, enc a] (by simp) (fun d hd ht => by
        simp only [List.mem_cons, List.not_mem_nil, or_false] at hd
        rcases hd with rfl | rfl
        · exact ⟨_, i2⟩
        · exact ⟨_, i⟩)
      have es : (List.map (fun d => getI ((lvl n).law_extent [(.shr, d)])) (List.filter (fun d => isSub (tyD d) "tuple") [enc s, enc a])) = [(ext s : Int), (ext a : Int)] := by
        simp [List.filter_cons, ty_enc, i, i2, getI]
      rw [es] at e
      have su := oSum_ints [(ext s : Int), (ext a : Int)]
      generalize exE (lvl n) = EX at *
      generalize hk : List.map PyData.int [(ext s : Int), (ext a : Int)] = KK at *
      simp only [enc]
      simp [in2L, e, su, ext]
      omega
    | bi o s a =>
      have i := law_ext_ok n a (by simp only [ext] at h; omega)
      have i2 := law_ext_ok n s (by simp only [ext] at h; omega)
      have e := exE_ok (lvl n) (.str o.str) [enc s, enc a] (by simp) (fun d hd ht => by
        simp only [List.mem_cons, List.not_mem_nil, or_false] at hd
        rcases hd with rfl | rfl
        · exact ⟨_, i2⟩
        · exact ⟨_, i⟩)
      have es : (List.map (fun d => getI ((lvl n).law_extent [(.shr, d)])) (List.filter (fun d => isSub (tyD d) "tuple") [enc s, enc a])) = [(ext s : Int), (ext a : Int)] := by
        simp [List.filter_cons, ty_enc, i, i2, getI]
      rw [es] at e
      have su := oSum_ints [(ext s : Int), (ext a : Int)]
      generalize exE (lvl n) = EX at *
      generalize hk : List.map PyData.int [(ext s : Int), (ext a : Int)] = KK at *
      simp only [enc]
      simp [in2L, e, su, ext, (op_w o).1, (op_w o).2.2.1]
      omega
end PyK77

/-! known, judge_known -/
namespace PyK77
open PySem PySem.Spec L2 PyI
/-- notes: the dict's data, its names in order, what they say, what they say in the dict's order -/
structure Nt (D : List (PyData × PyData)) (ks : List Str) (val : Str → Cl) (al : List Cl) : Prop where
  m : isM D = false
  so : oSorted [.dict D] = some (.list (ks.map .str))
  lk : ∀ k ∈ ks, lookD (.str k) D = some (enc (val k))
  sv : selD .vals D = al.map enc
  dc : oDictP [.dict D] = some (.dict D)
  mem : ∀ c, c ∈ al ↔ c ∈ ks.map val
  sm : (al.map ext).sum = ((ks.map val).map ext).sum
  ln : ks.length ≤ 2 ∧ al.length ≤ 2
def lE : Mo Rs := xLc [4] (iS (xB oSorted (aC (xV 0) aN))) (gN 4) tYesM (x2i (xV 0) (xV 4) opIx)
theorem lE_ok {D : List (PyData × PyData)} {ks : List Str} {val : Str → Cl} {al : List Cl} (N : Nt D ks val al) (v1 v2 v3 : Sl) (rest : List Sl) : lE (some (.shr, .dict D) :: v1 :: v2 :: v3 :: none :: rest) = some (.fresh (.list ((ks.map val).map enc)), some (.shr, .dict D) :: v1 :: v2 :: v3 :: none :: rest) := by
  have so := N.so
  have lc := lc_evalT (vs := [4]) (fi := iS (xB oSorted (aC (xV 0) aN))) (g := gN 4) (t := tYesM) (fe := x2i (xV 0) (xV 4) opIx) (ρ := some (.shr, .dict D) :: v1 :: v2 :: v3 :: none :: rest) (ρ1 := some (.shr, .dict D) :: v1 :: v2 :: v3 :: none :: rest) (l := ks) (e := .str) (fun _ => true) (fun k => enc (val k))
    (by simp [so]) (Nat.le_trans N.ln.1 (by decide)) (fun k hk => ?_)
  · unfold lE
    rw [lc, List.filter_eq_self.mpr fun _ _ => rfl, List.map_map]
    simp [wipeE, restE, Function.comp_def]
  · have lk := N.lk k hk
    exact ⟨some (.shr, .dict D) :: v1 :: v2 :: v3 :: some (.shr, .str k) :: rest, by simp [wipeE], _, rfl, fun z => (by cases z), fun _ => ⟨.kept (enc (val k)), some (.shr, .dict D) :: v1 :: v2 :: v3 :: some (.shr, .str k) :: rest, some (.shr, .dict D) :: v1 :: v2 :: v3 :: some (.shr, .str k) :: rest, by simp [lk], by simp, by simp [wipeE]⟩⟩
def xE (R : Fns) : Mo Rs := xLc [5] (iS (xV 2)) (gN 5) tYesM (xCall R.extent (aC (xV 5) aN))
theorem xE_ok (R : Fns) (d cd : PyData) (l : List Cl) (hl : l.length ≤ 100) (h : ∀ a ∈ l, R.extent [(.shr, enc a)] = some (.kept (.int (ext a)), none)) : xE R [some (.shr, d), some (.shr, cd), some (.shr, encL l), none, none, none] = some (.fresh (.list ((l.map fun a => (ext a : Int)).map .int)), [some (.shr, d), some (.shr, cd), some (.shr, encL l), none, none, none]) := by
  have lc := lc_evalT (vs := [5]) (fi := iS (xV 2)) (g := gN 5) (t := tYesM) (fe := xCall R.extent (aC (xV 5) aN)) (ρ := [some (.shr, d), some (.shr, cd), some (.shr, encL l), none, none, none]) (ρ1 := [some (.shr, d), some (.shr, cd), some (.shr, encL l), none, none, none]) (l := l) (e := enc) (fun _ => true) (fun a => .int (ext a : Int))
    (by unfold encL; simp) (Nat.le_trans hl (by decide)) (fun a ha => ?_)
  · unfold xE
    rw [lc, List.filter_eq_self.mpr fun _ _ => rfl, List.map_map]
    simp [wipeE, restE, Function.comp_def]
  · have h := h a ha
    generalize encL l = L
    exact ⟨[some (.shr, d), some (.shr, cd), some (.shr, L), none, none, some (.shr, enc a)], by simp [wipeE], _, rfl, fun z => (by cases z), fun _ => ⟨.kept (.int (ext a)), [some (.shr, d), some (.shr, cd), some (.shr, L), none, none, some (.shr, enc a)], [some (.shr, d), some (.shr, cd), some (.shr, L), none, none, some (.shr, enc a)], by simp [h], by simp, by simp [wipeE]⟩⟩
theorem sum_cast (l : List Cl) : (l.map fun a => (ext a : Int)).sum = (((l.map ext).sum : Nat) : Int) := by
  induction l with
  | nil => rfl
  | cons a l ih => rw [List.map_cons, List.sum_cons, ih, List.map_cons, List.sum_cons]; omega
theorem sum_app (l m : List Cl) : ((l ++ m).map ext).sum = (l.map ext).sum + (m.map ext).sum := by simp
theorem sum_addC : ∀ (m l : List Cl), ((addC l m).map ext).sum ≤ (l.map ext).sum + (m.map ext).sum
  | [], l => by simp [addC]
  | c :: m, l => by
    rw [addC, List.map_cons, List.sum_cons]
    by_cases h : c ∈ l
    · rw [if_pos h]; have := sum_addC m l; omega
    · rw [if_neg h]
      have := sum_addC m (l ++ [c])
      rw [sum_app] at this
      simp only [List.map_cons, List.map_nil, List.sum_cons, List.sum_nil] at this
      omega
theorem ext_sum {l : List Cl} {a : Cl} (h : a ∈ l) : ext a ≤ (l.map ext).sum := by
  induction l with
  | nil => cases h
  | cons b l ih =>
    rw [List.map_cons, List.sum_cons]
    rcases List.mem_cons.mp h with rfl | h
    · omega
    · have := ih h; omega
theorem m_known_eq (R : Fns) : m_known R = sSeq (sSet 2 (xCall R.added (aC (xTup aN) (aC lE aN))))
    (sSeq (sIf (tV (x2 (x2 (xB oSum (aC (xE R) aN)) (xCall R.extent (aC (xV 1) aN)) opAdd) (xC (.int 24)) opGt)) sFail sPass)
    (sSeq (sSet 3 (xCall R.shown (aC (xV 2) (aC (xTup (aC (xV 1) aN)) aN))))
    (sSeq (sIf (tNotM (tV (xCall R.judge_known (aC (xV 0) (aC (xV 1) (aC (xV 3) aN)))))) sFail sPass)
    (sRet (xV 3))))) := rfl
theorem known_ok (R : Fns) (A : AddR R) {D : List (PyData × PyData)} {ks : List Str} {val : Str → Cl} {al : List Cl} (N : Nt D ks val al) (c : Cl) (hx : ∀ a, ext a ≤ 24 → R.extent [(.shr, enc a)] = some (.kept (.int (ext a)), none)) (hs : (al.map ext).sum + ext c ≤ 24) {d : PyData}
    (sh : R.shown [(.shr, encL (addC [] (ks.map val))), (.shr, .tuple [enc c])] = some (.kept d, none)) (jd : R.judge_known [(.shr, .dict D), (.shr, enc c), (.shr, d)] = some (.kept (.bool true), none)) :
    runF 2 6 (m_known R) [(.shr, .dict D), (.shr, enc c)] = some (.kept d, none) := by
  refine run_ex rfl (fun _ => rfl) ?_
  show endR (m_known R [some (.shr, .dict D), some (.shr, enc c), none, none, none, none]) = _
  rw [m_known_eq]
  have hsum : ((addC [] (ks.map val)).map ext).sum + ext c ≤ 24 := by
    have := sum_addC (ks.map val) []
    have := N.sm
    simp only [List.map_nil, List.sum_nil] at *
    omega
  have hle : ∀ a ∈ addC [] (ks.map val), ext a ≤ 24 := fun a ha => by have := ext_sum ha; omega
  have hle2 : ∀ a ∈ ks.map val, ext a ≤ 24 := fun a ha => hle a (mem_addC.mpr (.inr ha))
  have hlen : (addC [] (ks.map val)).length ≤ 100 := by
    have : ∀ l : List Cl, l.length ≤ (l.map ext).sum := fun l => len_sz l
    have := this (addC [] (ks.map val))
    omega
  have l1 := lE_ok N (some (.shr, enc c)) none none [none]
  have ad := A [] (ks.map val) .shr (.inl rfl) (by have := N.ln.1; simp; omega) (fun a ha => by have := hle2 a ha; omega)
  have x1 := xE_ok R (.dict D) (enc c) (addC [] (ks.map val)) hlen fun a ha => hx a (hle a ha)
  have su := oSum_ints ((addC [] (ks.map val)).map fun a => (ext a : Int))
  rw [sum_cast] at su
  have hc := hx c (by omega)
  have hgt : ¬ (24 : Int) < (((addC [] (ks.map val)).map ext).sum : Int) + (ext c : Int) := by omega
  have e0 : encL [] = .tuple [] := rfl
  rw [e0] at ad
  generalize lE = L0 at *
  generalize xE R = X0 at *
  generalize encL (addC [] (ks.map val)) = LL at *
  generalize List.map PyData.int _ = IL at *
  generalize (((addC [] (ks.map val)).map ext).sum : Int) = S0 at *
  generalize (ks.map val).map enc = VL at *
  simp [l1, ad, x1, su, hc, hgt, sh, jd]
def jE (R : Fns) : Mo Rs := xLc [3] (iDict .vals 0) (gN 3) tYesM (xCall (withD R.is_so dd_is_so) (aC (x2i (xV 2) (xC (.int 1)) opIx) (aC (xV 3) aN)))
theorem jE_ok (R : Fns) {D : List (PyData × PyData)} {ks : List Str} {val : Str → Cl} {al : List Cl} (N : Nt D ks val al) (cd V : PyData) (h : ∀ a ∈ al, R.is_so [(.shr, V), (.shr, enc a), (.shr, .tuple [])] = some (.kept (.bool true), none)) :
    jE R [some (.shr, .dict D), some (.shr, cd), some (.shr, vwD V), none, none] = some (.fresh (.list (al.map fun _ => .bool true)), [some (.shr, .dict D), some (.shr, cd), some (.shr, vwD V), none, none]) := by
  have m := N.m
  have sv := N.sv
  have lc := lc_evalT (vs := [3]) (fi := iDict .vals 0) (g := gN 3) (t := tYesM) (fe := xCall (withD R.is_so dd_is_so) (aC (x2i (xV 2) (xC (.int 1)) opIx) (aC (xV 3) aN))) (ρ := [some (.shr, .dict D), some (.shr, cd), some (.shr, vwD V), none, none]) (ρ1 := [some (.shr, .dict D), some (.shr, cd), some (.shr, vwD V), none, none]) (l := al) (e := enc) (fun _ => true) (fun _ => .bool true)
    (by simp [m, sv]) (Nat.le_trans N.ln.2 (by decide)) (fun a ha => ?_)
  · unfold jE
    rw [lc, List.filter_eq_self.mpr fun _ _ => rfl]
    simp [wipeE, restE]
  · have h := h a ha
    exact ⟨[some (.shr, .dict D), some (.shr, cd), some (.shr, vwD V), some (.shr, enc a), none], by simp [wipeE], _, rfl, fun z => (by cases z), fun _ => ⟨.kept (.bool true), [some (.shr, .dict D), some (.shr, cd), some (.shr, vwD V), some (.shr, enc a), none], [some (.shr, .dict D), some (.shr, cd), some (.shr, vwD V), some (.shr, enc a), none], by simp [withD, dd_is_so, vwD, h], by simp, by simp [wipeE]⟩⟩
theorem m_judge_known_eq (R : Fns) : m_judge_known R = sSeq (sIf (tOrM (tNotM (tV (xIsi "tuple" (xV 2)))) (tV (x2 (xB oLen (aC (xV 2) aN)) (xC (.int 2)) opNe))) (sRet (xC (.bool false))) sPass)
    (sSeq (sIf (tV (x2 (x2i (xV 2) (xC (.int 0)) opIx) (xC (.str "shown")) opEq)) (sRet (xCall (withD R.is_shown dd_is_shown) (aC (xCall R.added (aC (xTup aN) (aC lE aN))) (aC (xTup (aC (xV 1) aN)) (aC (x2i (xV 2) (xC (.int 1)) opIx) aN))))) sPass)
    (sSeq (sIf (tOrM (tV (x2 (x2i (xV 2) (xC (.int 0)) opIx) (xC (.str "view")) opNe)) (tOrM (tNotM (tV (xCall (withD R.is_view dd_is_view) (aC (x2i (xV 2) (xC (.int 1)) opIx) aN)))) (tV (xCall (withD R.is_so dd_is_so) (aC (x2i (xV 2) (xC (.int 1)) opIx) (aC (xV 1) aN)))))) (sRet (xC (.bool false))) sPass)
    (sRet (x2 (xC (.bool false)) (jE R) opNotInA)))) := rfl
theorem judge_ok (R : Fns) (A : AddR R) {D : List (PyData × PyData)} {ks : List Str} {val : Str → Cl} {al : List Cl} (N : Nt D ks val al) (c : Cl) (hs : ∀ a ∈ ks.map val, ext a ≤ 46) {d : PyData}
    (hd : (∃ pf, d = shD pf ∧ R.is_shown [(.shr, encL (addC [] (ks.map val))), (.shr, .tuple [enc c]), (.shr, pf), (.shr, .int 200)] = some (.kept (.bool true), none)) ∨
      ∃ V, d = vwD V ∧ R.is_view [(.shr, V), (.shr, .int 60)] = some (.kept (.bool true), none) ∧ R.is_so [(.shr, V), (.shr, enc c), (.shr, .tuple [])] = some (.kept (.bool false), none) ∧ ∀ a ∈ al, R.is_so [(.shr, V), (.shr, enc a), (.shr, .tuple [])] = some (.kept (.bool true), none)) :
    runF 3 5 (m_judge_known R) [(.shr, .dict D), (.shr, enc c), (.shr, d)] = some (.kept (.bool true), none) := by
  refine run_ex rfl (fun _ => rfl) ?_
  show endR (m_judge_known R [some (.shr, .dict D), some (.shr, enc c), some (.shr, d), none, none]) = _
  rw [m_judge_known_eq]
  have t1 : ∀ l : List PyData, isSub (tyD (.tuple l)) "tuple" = true := fun _ => rfl
  rcases hd with ⟨pf, rfl, h⟩ | ⟨V, rfl, h1, h2, h3⟩
  · have l1 := lE_ok N (some (.shr, enc c)) (some (.shr, shD pf)) none []
    have ad := A [] (ks.map val) .shr (.inl rfl) (by have := N.ln.1; simp; omega) (fun a ha => by have := hs a ha; omega)
    have e0 : encL [] = .tuple [] := rfl
    rw [e0] at ad
    unfold shD at *
    generalize lE = L0 at *
    generalize encL (addC [] (ks.map val)) = LL at *
    generalize (ks.map val).map enc = VL at *
    simp [t1, l1, ad, withD, dd_is_shown, h]
  · have l1 := jE_ok R N (enc c) V h3
    have nt := nin_trues al
    unfold vwD at *
    generalize jE R = L0 at *
    generalize List.map (fun _ => PyData.bool true) al = TL at *
    simp [t1, l1, nt, withD, dd_is_view, dd_is_so, h1, h2]
end PyK77

/-! _law_so -/
namespace PyK77
open PySem PySem.Spec L2 PyI
def wsum (vs : List Cl) : Nat := (vs.map wt).sum
/-- small enough for the search -/
def Fit (vs : List Cl) (c : Cl) : Prop := ∃ M, wsum vs + wt c ≤ 45 ∧ (∀ a ∈ vs, md a ≤ M) ∧ md c ≤ M ∧ M * (wsum vs + wt c + 1) + (wsum vs + wt c) + 1 ≤ 100
def rows (vs : List Cl) (c : Cl) : List (Bool × Cl) := vs.flatMap (fun a => clo (wt a) true a) ++ clo (wt c) false c
theorem wt_sum {l : List Cl} {a : Cl} (h : a ∈ l) : wt a ≤ wsum l := by
  unfold wsum
  induction l with
  | nil => cases h
  | cons b l ih =>
    rw [List.map_cons, List.sum_cons]
    rcases List.mem_cons.mp h with rfl | h
    · omega
    · have := ih h; omega
theorem rows_len (vs : List Cl) (c : Cl) : (rows vs c).length ≤ wsum vs + wt c := by
  have h1 := clo_len (wt c) false c
  have h2 : (vs.flatMap fun a => clo (wt a) true a).length ≤ wsum vs := by
    unfold wsum
    induction vs with
    | nil => simp
    | cons a l ih =>
      have := clo_len (wt a) true a
      rw [List.flatMap_cons, List.length_append, List.map_cons, List.sum_cons]
      omega
  unfold rows
  rw [List.length_append]
  omega
theorem rows_bd {vs : List Cl} {c : Cl} (h : wsum vs + wt c ≤ 45) : Bd (rows vs c) := by
  refine ⟨Closed.app ?_ (clo_closed _ _ _ (Nat.le_refl _)), by have := rows_len vs c; omega, fun p hp => ?_⟩
  · intro p hp q hq
    obtain ⟨a, h1, h2⟩ := List.mem_flatMap.mp hp
    exact List.mem_flatMap.mpr ⟨a, h1, clo_closed _ _ _ (Nat.le_refl _) p h2 q hq⟩
  · rcases List.mem_append.mp hp with hp | hp
    · obtain ⟨a, h1, h2⟩ := List.mem_flatMap.mp hp
      have := clo_wt _ _ _ p h2
      have := wt_sum h1
      omega
    · have := clo_wt _ _ _ p hp
      omega
theorem rows_ok {vs : List Cl} {c : Cl} {M : Nat} (h1 : ∀ a ∈ vs, md a ≤ M) (h2 : md c ≤ M) : Ok (rows vs c) M (addC [] vs) [c] := by
  refine ⟨addC_nd List.nodup_nil, List.nodup_cons.mpr ⟨List.not_mem_nil, List.nodup_nil⟩, fun a ha => ?_, all1 ?_, fun a ha => ?_, all1 h2⟩
  · rcases mem_addC.mp ha with ha | ha
    · cases ha
    · exact List.mem_append_left _ (List.mem_flatMap.mpr ⟨a, ha, clo_self (Nat.le_refl _)⟩)
  · exact List.mem_append_right _ (clo_self (Nat.le_refl _))
  · rcases mem_addC.mp ha with ha | ha
    · cases ha
    · exact h1 a ha
theorem valid_add {vs al : List Cl} {c : Cl} (h : ∀ a, a ∈ al ↔ a ∈ vs) : Valid (addC [] vs) [c] ↔ Valid al [c] := by
  have e : ∀ a, a ∈ addC [] vs ↔ a ∈ al := fun a => by rw [mem_addC, h a]; simp
  exact ⟨fun g v hv => g v fun a ha => hv a ((e a).mp ha), fun g v hv => g v fun a ha => hv a ((e a).mpr ha)⟩
theorem judge_lvl {D : List (PyData × PyData)} {ks : List Str} {val : Str → Cl} {al : List Cl} (N : Nt D ks val al) {c : Cl} {M : Nat} (hS : wsum (ks.map val) + wt c ≤ 45) (o : Ok (rows (ks.map val) c) M (addC [] (ks.map val)) [c]) (hM : M ≤ 50) {d : PyData} (w : W0 100 M (addC [] (ks.map val)) [c] d) (k : Nat) (hk : 150 ≤ k) :
    (lvl (k + 1)).judge_known [(.shr, .dict D), (.shr, enc c), (.shr, d)] = some (.kept (.bool true), none) := by
  obtain ⟨j, rfl⟩ : ∃ j, k = j + 1 := ⟨k - 1, by omega⟩
  rw [show (lvl (j + 1 + 1)).judge_known = runF 3 5 (m_judge_known (lvl (j + 1))) from rfl]
  have wv : ∀ a ∈ ks.map val, ext a ≤ 46 := fun a ha => by have := wt_sum ha; have := ext_wt a; omega
  refine judge_ok (lvl (j + 1)) (addR_lvl j) N c wv ?_
  have so := so_lvl 46 (by omega) (j + 1) (by omega)
  have bd := rows_bd hS
  rcases w with ⟨pf, rfl, p⟩ | ⟨V, rfl, cm, wf⟩
  · refine .inl ⟨pf, rfl, ?_⟩
    have := is_shown_ok bd p M (j + 1) 200 o (by decide) (by omega)
    exact this
  · refine .inr ⟨V, rfl, is_view_ok (M + 1) V wf (j + 1) 60 (by omega) (by omega), ?_, fun a ha => ?_⟩
    · have h := so c [] (M + 1) V (by have := ext_wt c; simp [sz]; omega) wf
      have e : bv (So c (leftOf []) V) = false := bv_f (cm.2 c (by simp))
      rw [e] at h
      exact h
    · have hm := (N.mem a).mp ha
      have h := so a [] (M + 1) V (by have := wv a hm; simp [sz]; omega) wf
      have e : bv (So a (leftOf []) V) = true := bv_t (cm.1 a (mem_addC.mpr (.inr hm)))
      rw [e] at h
      exact h
theorem known_lvl {D : List (PyData × PyData)} {ks : List Str} {val : Str → Cl} {al : List Cl} (N : Nt D ks val al) {c : Cl} (F : Fit (ks.map val) c) (hs : (al.map ext).sum + ext c ≤ 24) (k : Nat) (hk : 210 ≤ k) :
    ∃ d, (lvl (k + 1)).known [(.shr, .dict D), (.shr, enc c)] = some (.kept d, none) ∧ (lvl (k + 1)).judge_known [(.shr, .dict D), (.shr, enc c), (.shr, d)] = some (.kept (.bool true), none) ∧
      (((∃ pf, d = shD pf) ∧ Valid al [c]) ∨ ((∃ v, d = vwD v) ∧ ¬ Valid al [c])) := by
  obtain ⟨M, f1, f2, f3, f4⟩ := F
  have o := rows_ok f2 f3
  have bd := rows_bd f1
  have hl := rows_len (ks.map val) c
  have hh : ht (rows (ks.map val) c) M (addC [] (ks.map val)) [c] ≤ 100 := by
    unfold ht
    have : M * ((rows (ks.map val) c).length + 1) ≤ M * (wsum (ks.map val) + wt c + 1) := Nat.mul_le_mul_left M (by omega)
    omega
  have hM : M ≤ 50 := by
    have h1 := wt_pos c
    have : M * 2 ≤ M * (wsum (ks.map val) + wt c + 1) := Nat.mul_le_mul_left M (by omega)
    omega
  obtain ⟨d, e, w⟩ := search bd 100 k M _ _ o hh (by omega)
  have j1 := judge_lvl N f1 o hM w k (by omega)
  refine ⟨d, ?_, j1, ?_⟩
  · obtain ⟨i, rfl⟩ : ∃ i, k = i + 1 := ⟨k - 1, by omega⟩
    rw [show (lvl (i + 1 + 1)).known = runF 2 6 (m_known (lvl (i + 1))) from rfl]
    refine known_ok (lvl (i + 1)) (addR_lvl i) N c (fun a ha => extent_ok (i + 1) a (by omega)) hs (d := d) e ?_
    exact judge_lvl N f1 o hM w i (by omega)
  · rcases w with ⟨pf, rfl, p⟩ | ⟨v, rfl, cm, _⟩
    · exact .inl ⟨⟨pf, rfl⟩, (valid_add N.mem).mp p.valid⟩
    · exact .inr ⟨⟨v, rfl⟩, fun g => cm.not ((valid_add N.mem).mpr g)⟩
def aE (R : Fns) : Mo Rs := xLc [3] (iDict .vals 0) (gN 3) tYesM (xCall R.law_extent (aC (xV 3) aN))
theorem aE_ok (R : Fns) {D : List (PyData × PyData)} {ks : List Str} {val : Str → Cl} {al : List Cl} (N : Nt D ks val al) (cd : PyData) (h : ∀ a ∈ al, R.law_extent [(.shr, enc a)] = some (.kept (.int (ext a)), none)) :
    aE R [some (.shr, .dict D), some (.shr, cd), none, none] = some (.fresh (.list ((al.map fun a => (ext a : Int)).map .int)), [some (.shr, .dict D), some (.shr, cd), none, none]) := by
  have m := N.m
  have sv := N.sv
  have lc := lc_evalT (vs := [3]) (fi := iDict .vals 0) (g := gN 3) (t := tYesM) (fe := xCall R.law_extent (aC (xV 3) aN)) (ρ := [some (.shr, .dict D), some (.shr, cd), none, none]) (ρ1 := [some (.shr, .dict D), some (.shr, cd), none, none]) (l := al) (e := enc) (fun _ => true) (fun a => .int (ext a : Int))
    (by simp [m, sv]) (Nat.le_trans N.ln.2 (by decide)) (fun a ha => ?_)
  · unfold aE
    rw [lc, List.filter_eq_self.mpr fun _ _ => rfl, List.map_map]
    simp [wipeE, restE, Function.comp_def]
  · have h := h a ha
    exact ⟨[some (.shr, .dict D), some (.shr, cd), none, some (.shr, enc a)], by simp [wipeE], _, rfl, fun z => (by cases z), fun _ => ⟨.kept (.int (ext a)), [some (.shr, .dict D), some (.shr, cd), none, some (.shr, enc a)], [some (.shr, .dict D), some (.shr, cd), none, some (.shr, enc a)], by simp [h], by simp, by simp [wipeE]⟩⟩
theorem m_law_so_eq (R : Fns) : m_law_so R = sSeq (sIf (tV (x2 (x2 (xB oSum (aC (aE R) aN)) (xCall R.law_extent (aC (xV 1) aN)) opAdd) (xC (.int 24)) opGt)) (sRet (xC .none)) sPass)
    (sSeq (sSet 2 (xCall R.known (aC (xB oDictP (aC (xV 0) aN)) (aC (xV 1) aN))))
    (sRet (xAnd (x2 (x2i (xV 2) (xC (.int 0)) opIx) (xC (.str "shown")) opEq) (x2 (xCall R.judge_known (aC (xB oDictP (aC (xV 0) aN)) (aC (xV 1) (aC (xV 2) aN)))) (xC (.bool true)) opIsB)))) := rfl
/-- what _law_so says -/
noncomputable def ansD (al : List Cl) (c : Cl) : PyData := if 24 < (al.map ext).sum + ext c then .none else .bool (bv (Valid al [c]))
theorem law_so_ok {D : List (PyData × PyData)} {ks : List Str} {val : Str → Cl} {al : List Cl} (N : Nt D ks val al) {c : Cl} (F : (al.map ext).sum + ext c ≤ 24 → Fit (ks.map val) c) (hw : ∀ a ∈ al, ext a ≤ 45) (hwc : ext c ≤ 45) (k : Nat) (hk : 220 ≤ k) :
    (lvl (k + 1)).law_so [(.shr, .dict D), (.shr, enc c)] = some (.kept (ansD al c), none) := by
  rw [show (lvl (k + 1)).law_so = runF 2 4 (m_law_so (lvl k)) from rfl]
  refine run_ex rfl (fun _ => rfl) ?_
  show endR (m_law_so (lvl k) [some (.shr, .dict D), some (.shr, enc c), none, none]) = _
  rw [m_law_so_eq]
  have a1 := aE_ok (lvl k) N (enc c) fun a ha => law_ext_ok k a (by have := hw a ha; omega)
  have su := oSum_ints (al.map fun a => (ext a : Int))
  rw [sum_cast] at su
  have hc := law_ext_ok k c (by omega)
  have dc := N.dc
  unfold ansD
  by_cases hs : 24 < (al.map ext).sum + ext c
  · rw [if_pos hs]
    have hgt : (24 : Int) < ((al.map ext).sum : Int) + (ext c : Int) := by omega
    generalize aE (lvl k) = A0 at *
    generalize List.map PyData.int _ = IL at *
    generalize ((al.map ext).sum : Int) = S0 at *
    simp [a1, su, hc, hgt]
  · rw [if_neg hs]
    have hgt : ¬ (24 : Int) < ((al.map ext).sum : Int) + (ext c : Int) := by omega
    obtain ⟨j, rfl⟩ : ∃ j, k = j + 1 := ⟨k - 1, by omega⟩
    obtain ⟨d, e1, e2, e3⟩ := known_lvl N (F (by omega)) (by omega) j (by omega)
    rcases e3 with ⟨⟨pf, rfl⟩, v⟩ | ⟨⟨v, rfl⟩, nv⟩
    · rw [bv_t v]
      generalize aE (lvl (j + 1)) = A0 at *
      generalize List.map PyData.int _ = IL at *
      generalize ((al.map ext).sum : Int) = S0 at *
      unfold shD at *
      simp [a1, su, hc, hgt, dc, e1, e2]
    · rw [bv_f nv]
      generalize aE (lvl (j + 1)) = A0 at *
      generalize List.map PyData.int _ = IL at *
      generalize ((al.map ext).sum : Int) = S0 at *
      unfold vwD at *
      simp [a1, su, hc, hgt, dc, e1, e2]
end PyK77

/-! the draws -/
namespace PyK77
open PySem PySem.Spec L2 PyI
/-- the state of the draws -/
def stD (ns : List Int) (p : Nat) (v s : Int) : PyData := .list [.list (ns.map .int), .int p, .int v, .int s]
theorem pow18 : opPow (.int 10) (.int 18) = some (.int 1000000000000000000) := by
  show (if (0 : Int) ≤ 18 ∧ (18 : Int) ≤ 1000000 ∧ (10 : Int).natAbs < 18446744073709551616 then some (PyData.int (10 ^ (18 : Int).toNat)) else none) = _
  rw [if_pos (by decide)]
  rfl
theorem next_ok (R : Fns) (ns : List Int) (p : Nat) (v s limit : Int) (hl : 0 < limit) (hl2 : limit < 1000) (hs : 0 ≤ s) (hs2 : s < 2147483647) (hv : 0 ≤ v) :
    ∃ out p' v' s', 0 ≤ out ∧ out < limit ∧ 0 ≤ s' ∧ s' < 2147483647 ∧ 0 ≤ v' ∧ runF 2 4 (m_law_next R) [(.lent, stD ns p v s), (.shr, .int limit)] = some (.kept (.int out), some (stD ns p' v' s')) := by
  have hmod : ∀ x : Int, 0 ≤ x % limit ∧ x % limit < limit := fun x => ⟨Int.emod_nonneg _ (by omega), Int.emod_lt_of_pos _ hl⟩
  have hmod2 : ∀ x : Int, 0 ≤ x % 2147483647 ∧ x % 2147483647 < 2147483647 := fun x => ⟨Int.emod_nonneg _ (by omega), Int.emod_lt_of_pos _ (by omega)⟩
  have hm1 : ∀ x : Int, opMod (.int x) (.int limit) = some (.int (x % limit)) := fun x => o_mod1 hl
  have hm2 : ∀ x : Int, opMod (.int x) (.int 2147483647) = some (.int (x % 2147483647)) := fun x => o_mod1 (by omega)
  have hf1 : ∀ x : Int, opFdiv (.int x) (.int limit) = some (.int (x / limit)) := fun x => o_fdiv1 hl (by omega)
  have hf2 : ∀ x : Int, opFdiv (.int x) (.int 7) = some (.int (x / 7)) := fun x => o_fdiv1 (by omega) (by omega)
  have hu1 : ∀ x : Int, opMul (.int x) (.int 48271) = some (.int (x * 48271)) := fun x => o_mul1 (.inr (by omega))
  have hu2 : ∀ x : Int, opMul (.int x) (.int 69621) = some (.int (x * 69621)) := fun x => o_mul1 (.inr (by omega))
  -- the second half
  have half : ∀ (p : Nat) (v s : Int) (c2 : Option (Stt × PyData)), 0 ≤ v → 0 ≤ s → s < 2147483647 → ∃ out p' v' s', 0 ≤ out ∧ out < limit ∧ 0 ≤ s' ∧ s' < 2147483647 ∧ 0 ≤ v' ∧ ∃ y z, 
      sSeq (sIf (tV (x2 (x2i (xV 0) (xC (.int 2)) opIx) (xC (.int 0)) opGt)) (sSeq (sSet 3 (x2 (xB oInt (aC (x2i (xV 0) (xC (.int 2)) opIx) aN)) (xV 1) opMod))
    (sSeq (sPut 0 (xC (.int 2)) (x2 (x2i (xV 0) (xC (.int 2)) opIx) (xV 1) opFdiv))
    (sRet (xV 3)))) sPass)
    (sSeq (sPut 0 (xC (.int 3)) (x2 (xB oInt (aC (x2 (x2 (x2i (xV 0) (xC (.int 3)) opIx) (xC (.int 69621)) opMul) (xC (.int 12345)) opAdd) aN)) (xC (.int 2147483647)) opMod))
    (sRet (x2 (xB oInt (aC (x2 (x2i (xV 0) (xC (.int 3)) opIx) (xC (.int 7)) opFdiv) aN)) (xV 1) opMod))) [some (.lent, stD ns p v s), some (.shr, .int limit), c2, none] = some (.ret y, [some (.lent, stD ns p' v' s'), some (.shr, .int limit), c2, z]) ∧ (y = .kept (.int out) ∨ (y = .slot 3 ∧ z = some (.shr, .int out))) := by
    intro p v s c2 hv hs hs2
    unfold stD
    by_cases h0 : 0 < v
    · refine ⟨v % limit, p, v / limit, s, (hmod v).1, (hmod v).2, hs, hs2, Int.ediv_nonneg hv (by omega), .slot 3, some (.shr, .int (v % limit)), ?_, .inr ⟨rfl, rfl⟩⟩
      simp [h0, hm1, hf1, setD_2]
    · refine ⟨((s * 69621 + 12345) % 2147483647 / 7) % limit, p, v, (s * 69621 + 12345) % 2147483647, (hmod _).1, (hmod _).2, (hmod2 _).1, (hmod2 _).2, hv, .kept (.int (((s * 69621 + 12345) % 2147483647 / 7) % limit)), none, ?_, .inl rfl⟩
      simp [h0, hm1, hm2, hf2, hu2, setD_3]
  rw [runF_def (by rfl)]
  have fin : ∀ (q : Nat) (v' s' : Int) (c2 : Option (Stt × PyData)), 0 ≤ v' → 0 ≤ s' → s' < 2147483647 →
      (sIf (tAndM (tV (x2 (x2i (xV 0) (xC (.int 2)) opIx) (xC (.int 0)) opEq)) (tV (x2 (x2i (xV 0) (xC (.int 1)) opIx) (xB oLen (aC (x2i (xV 0) (xC (.int 0)) opIx) aN)) opLt))) (sSeq (sSet 2 (x2i (x2i (xV 0) (xC (.int 0)) opIx) (x2i (xV 0) (xC (.int 1)) opIx) opIx))
    (sSeq (sAugS 0 (fun i j => i + j) (xC (.int 1)) (xC (.int 1)))
    (sIf (tV (x2 (xV 2) (x2 (xC (.int 10)) (xC (.int 18)) opPow) opGe)) (sPut 0 (xC (.int 2)) (xV 2)) (sPut 0 (xC (.int 3)) (x2 (xB oInt (aC (x2 (x2 (x2 (x2i (xV 0) (xC (.int 3)) opIx) (xC (.int 48271)) opMul) (x2 (xB oInt (aC (xV 2) aN)) (xC (.int 2147483647)) opMod) opAdd) (xC (.int 7)) opAdd) aN)) (xC (.int 2147483647)) opMod))))) sPass) [some (.lent, stD ns p v s), some (.shr, .int limit), none, none] = some (.nx, [some (.lent, stD ns q v' s'), some (.shr, .int limit), c2, none]) →
      ∃ out p' v' s', 0 ≤ out ∧ out < limit ∧ 0 ≤ s' ∧ s' < 2147483647 ∧ 0 ≤ v' ∧ (match m_law_next R ([(.lent, stD ns p v s), (.shr, .int limit)].map some ++ List.replicate (4 - [(Stt.lent, stD ns p v s), (.shr, .int limit)].length) none) with
    | some (fl, ρ') => match retOf ρ' fl with
      | some r => match lentOf ρ' [(.lent, stD ns p v s), (.shr, .int limit)] with
        | some l => some (r, l)
        | none => none
      | none => none
    | none => none) = some (.kept (.int out), some (stD ns p' v' s')) := by
    intro q v' s' c2 h1 h2 h3 e
    obtain ⟨out, p', v2, s2, a1, a2, a3, a4, a5, y, z, e2, hy⟩ := half q v' s' c2 h1 h2 h3
    refine ⟨out, p', v2, s2, a1, a2, a3, a4, a5, ?_⟩
    have e3 : m_law_next R ([(.lent, stD ns p v s), (.shr, .int limit)].map some ++ List.replicate (4 - [(Stt.lent, stD ns p v s), (.shr, .int limit)].length) none) = some (.ret y, [some (.lent, stD ns p' v2 s2), some (.shr, .int limit), c2, z]) := by
      unfold m_law_next
      show sSeq _ _ [some (.lent, stD ns p v s), some (.shr, .int limit), none, none] = _
      rw [e_sq, e, e_sqn]
      exact e2
    rw [e3]
    rcases hy with rfl | ⟨rfl, rfl⟩
    · rfl
    · rfl
  by_cases h0 : v = 0 ∧ p < ns.length
  · obtain ⟨rfl, hp⟩ := h0
    have hp' : (p : Int) < (ns.length : Int) := by omega
    have hget : (ns.map PyData.int)[p]? = some (.int ns[p]) := by rw [List.getElem?_map, List.getElem?_eq_getElem hp]; rfl
    have hp1 : (p : Int) + 1 = ((p + 1 : Nat) : Int) := by omega
    by_cases hc : (1000000000000000000 : Int) ≤ ns[p]
    · refine fin (p + 1) ns[p] s (some (.shr, .int ns[p])) (by omega) hs hs2 ?_
      unfold stD
      simp [hp', hget, pow18, hc, setD_1, setD_2, hp]
    · refine fin (p + 1) 0 ((s * 48271 + ns[p] % 2147483647 + 7) % 2147483647) (some (.shr, .int ns[p])) (by omega) (hmod2 _).1 (hmod2 _).2 ?_
      unfold stD
      simp [hp', hget, pow18, hc, setD_1, setD_3, hp, hm2, hu1]
  · refine fin p v s none hv hs hs2 ?_
    unfold stD
    by_cases h1 : v = 0
    · have hp : ¬ (p : Int) < (ns.length : Int) := fun z => h0 ⟨h1, by omega⟩
      simp [h1, hp]
    · have hb : (v == 0) = false := by simp [h1]
      simp [hb]
def Dr (ns : List Int) (d : PyData) : Prop := ∃ p v s, d = stD ns p v s ∧ 0 ≤ s ∧ s < 2147483647 ∧ 0 ≤ v
def NextOk (R : Fns) (ns : List Int) : Prop := ∀ d, Dr ns d → ∀ limit : Nat, 0 < limit → limit < 1000 → ∃ (out : Nat) (d' : PyData), out < limit ∧ Dr ns d' ∧ R.law_next [(.lent, d), (.shr, .int (limit : Int))] = some (.kept (.int (out : Int)), some d')
theorem str_len_app (x y : Str) : (x ++ y).length = x.length + y.length := by
  show (x.cps ++ y.cps).size = x.cps.size + y.cps.size
  exact Array.size_append
def yy : Nat → Str → Str
  | 0, w => w
  | n + 1, w => yy n (w ++ "y")
theorem yy_len : ∀ (n : Nat) (w : Str), (yy n w).length = w.length + n
  | 0, w => rfl
  | n + 1, w => by
    show (yy n (w ++ "y")).length = _
    rw [yy_len n, str_len_app]
    have : ("y" : Str).length = 1 := by decide
    omega
theorem yy_out (W : List Str) (w : Str) : ∃ j, j ≤ W.length ∧ yy j w ∉ W := by
  refine Classical.byContradiction fun h => ?_
  have hall : ∀ j, j ≤ W.length → yy j w ∈ W := fun j hj => Classical.byContradiction fun z => h ⟨j, hj, z⟩
  have nd : ((List.range (W.length + 1)).map fun j => yy j w).Nodup := by
    refine List.Pairwise.map _ (fun a b hab z => hab ?_) (List.nodup_range (n := W.length + 1))
    have := congrArg Str.length z
    rw [yy_len, yy_len] at this
    omega
  have := nodup_le nd fun a ha => by
    obtain ⟨j, hj, rfl⟩ := List.mem_map.mp ha
    exact hall j (by have := List.mem_range.mp hj; omega)
  rw [List.length_map, List.length_range] at this
  omega
theorem add_str {x y : Str} (h : x.length + y.length ≤ 1000) : opAdd (.str x) (.str y) = some (.str (x ++ y)) := if_pos (Nat.le_trans h (by rw [sizeLine_eq]; decide))
def tW : Mo Bool := tV (x2 (xV 4) (xV 2) opInA)
def bW : Mo Fl := sSet 4 (x2 (xV 4) (xC (.str "y")) opAdd)
def stW (d1 : Sl) (d : PyData) (W : List Str) (x3 : Sl) (w : Str) : Rho := [some (.lent, d), d1, some (.own, .list (W.map .str)), x3, some (.shr, .str w)]
theorem while_ok (d1 : Sl) (d : PyData) (W : List Str) (x3 : Sl) : ∀ (n : Nat) (w : Str), w.length + n ≤ 900 → (∃ j, j < n ∧ yy j w ∉ W) → ∃ w', whileM n tW bW (stW d1 d W x3 w) = some (.nx, stW d1 d W x3 w') ∧ w' ∉ W
  | 0, w, _, ⟨j, hj, _⟩ => absurd hj (Nat.not_lt_zero _)
  | n + 1, w, hl, ⟨j, hj, hn⟩ => by
    have et : tW (stW d1 d W x3 w) = some (decide (w ∈ W), stW d1 d W x3 w) := by
      unfold tW stW
      simp [in_strs]
    unfold whileM
    rw [et]
    by_cases hw : w ∈ W
    · have : decide (w ∈ W) = true := by simpa using hw
      rw [this]
      dsimp only
      have h1 : ("y" : Str).length = 1 := by decide
      have ea := add_str (x := w) (y := "y") (by omega)
      have eb : bW (stW d1 d W x3 w) = some (.nx, stW d1 d W x3 (w ++ "y")) := by
        unfold bW stW
        simp [ea]
      rw [eb]
      dsimp only
      cases j with
      | zero => exact absurd hw hn
      | succ j => exact while_ok d1 d W x3 n (w ++ "y") (by rw [str_len_app]; omega) ⟨j, by omega, hn⟩
    · have : decide (w ∈ W) = false := by simpa using hw
      rw [this]
      exact ⟨w, rfl, hw⟩
def abc : Str := "abcdefghijklmnopqrstuvwxyz"
theorem abc_ix : ∀ o : Nat, o < 26 → opIx (.str abc) (.int (o : Int)) = some (.str ⟨#[abc.cps.toList.getD o 0]⟩) := by
  intro o ho
  show (if abc.length ≤ sizeLine then (atI abc.cps.toList (o : Int)).map fun c => PyData.str ⟨#[c]⟩ else none) = _
  rw [if_pos (Nat.le_trans (show abc.length ≤ 26 by decide) (by rw [sizeLine_eq]; decide))]
  have hl : abc.cps.toList.length = 26 := by decide
  rw [atI_nat' abc.cps.toList o, List.getElem?_eq_getElem (by omega), List.getD_eq_getElem?_getD, List.getElem?_eq_getElem (by omega)]
  rfl
def tails : List Str := ["", "_1", "x9", "b"]
def nw (R : Fns) : Mo Rs := x2 (x2i (xC (.str "abcdefghijklmnopqrstuvwxyz")) (xCallL R.law_next (aC (xV 0) (aC (xC (.int 26)) aN))) opIx) (x2i (xLst (aC (xC (.str "")) (aC (xC (.str "_1")) (aC (xC (.str "x9")) (aC (xC (.str "b")) aN))))) (xCallL R.law_next (aC (xV 0) (aC (xC (.int 4)) aN))) opIx) opAdd
theorem nw_ok (R : Fns) {ns : List Int} (N : NextOk R ns) (d : PyData) (hd : Dr ns d) (ρ : Rho) : ∃ d' w, Dr ns d' ∧ w.length ≤ 10 ∧ nw R (some (.lent, d) :: ρ) = some (.kept (.str w), some (.lent, d') :: ρ) := by
  obtain ⟨o, d1, ho, hd1, e1⟩ := N d hd 26 (by decide) (by decide)
  obtain ⟨o2, d2, ho2, hd2, e2⟩ := N d1 hd1 4 (by decide) (by decide)
  have e1' : R.law_next [(.lent, d), (.shr, .int 26)] = some (.kept (.int (o : Int)), some d1) := e1
  have e2' : R.law_next [(.lent, d1), (.shr, .int 4)] = some (.kept (.int (o2 : Int)), some d2) := e2
  have i1 := abc_ix o ho
  have tl : ∀ t ∈ tails, t.length ≤ 2 := by decide
  have ht : tails.length = 4 := rfl
  have i2 : opIx (.list [.str "", .str "_1", .str "x9", .str "b"]) (.int (o2 : Int)) = some (.str tails[o2]) := by
    have : (([.str "", .str "_1", .str "x9", .str "b"] : List PyData)) = tails.map .str := rfl
    rw [this, o_ixL, List.getElem?_map, List.getElem?_eq_getElem (by omega)]; rfl
  have l2 := tl _ (List.getElem_mem (show o2 < tails.length by omega))
  have l1 : (⟨#[abc.cps.toList.getD o 0]⟩ : Str).length = 1 := rfl
  generalize (⟨#[abc.cps.toList.getD o 0]⟩ : Str) = a at *
  generalize tails[o2] = b at *
  have ia := add_str (x := a) (y := b) (by omega)
  refine ⟨d2, a ++ b, hd2, by rw [str_len_app]; omega, ?_⟩
  unfold nw
  unfold abc at i1
  simp [e1', e2', i1, i2, ia]
def bD (R : Fns) : Mo Fl := sSeq (sSet 4 (nw R)) (sSeq (whileM FUEL tW bW) (sDrop (xMut "list" 2 mAppend (aC (xV 4) aN))))
theorem m_words_drawn_eq (R : Fns) : m_law_words_drawn R = sSeq (sSet 2 (xLst aN)) (sSeq (sFor (iR1 (xV 1)) (gN 3) (bD R)) (sRet (xV 2))) := rfl
theorem bD_ok (R : Fns) {ns : List Int} (N : NextOk R ns) (d : PyData) (hd : Dr ns d) (d1 : Sl) (W : List Str) (hW : W.length ≤ 100) (nd : W.Nodup) (x3 x4 : Sl) : ∃ d' w, Dr ns d' ∧ w ∉ W ∧ bD R [some (.lent, d), d1, some (.own, .list (W.map .str)), x3, x4] = some (.nx, stW d1 d' (W ++ [w]) x3 w) := by
  obtain ⟨d', w, hd', hl, e⟩ := nw_ok R N d hd [d1, some (.own, .list (W.map .str)), x3, x4]
  obtain ⟨j, hj, hn⟩ := yy_out W w
  obtain ⟨w', ew, hw⟩ := while_ok d1 d' W x3 FUEL w (by show _ + 200 ≤ 900; omega) ⟨j, by show j < 200; omega, hn⟩
  refine ⟨d', w', hd', hw, ?_⟩
  have ap : mAppend (.list (W.map .str)) [.str w'] = some (.list ((W ++ [w']).map .str), .none) := by
    rw [List.map_append]
    exact if_pos (by rw [List.length_map]; exact Nat.lt_of_le_of_lt hW (by decide))
  have e1 : sSet 4 (nw R) [some (.lent, d), d1, some (.own, .list (W.map .str)), x3, x4] = some (.nx, stW d1 d' W x3 w) := by
    generalize nw R = z at *
    unfold stW
    simp [e]
  have e3 : sDrop (xMut "list" 2 mAppend (aC (xV 4) aN)) (stW d1 d' W x3 w') = some (.nx, stW d1 d' (W ++ [w']) x3 w') := by
    unfold stW
    generalize (W ++ [w']).map PyData.str = z at *
    simp [ap]
  unfold bD
  rw [e_sq, e1, e_sqn, e_sq, ew, e_sqn, e3]
theorem words_drawn_ok (R : Fns) {ns : List Int} (N : NextOk R ns) (d : PyData) (hd : Dr ns d) (n : Nat) (hn : n ≤ 10) : ∃ (d' : PyData) (W : List Str), Dr ns d' ∧ W.Nodup ∧ W.length = n ∧ runF 2 5 (m_law_words_drawn R) [(.lent, d), (.shr, .int (n : Int))] = some (.fresh (.list (W.map .str)), some d') := by
  have loop := for_all (ds := rngD 0 n) (g := gN 3) (b := bD R) (fun i ρ => i ≤ n → ∃ (d' : PyData) (W : List Str) (x3 x4 : Sl), Dr ns d' ∧ W.Nodup ∧ W.length = i ∧ ρ = [some (.lent, d'), some (.shr, .int (n : Int)), some (.own, .list (W.map .str)), x3, x4])
    (fun i x ρ hx hI => by
      have hi := (rngD_at hx).2
      obtain ⟨d', W, x3, x4, g1, g2, g3, rfl⟩ := hI (by omega)
      obtain ⟨d2, w, k1, k2, k3⟩ := bD_ok R N d' g1 (some (.shr, .int (n : Int))) W (by omega) g2 (some (.shr, x)) x4
      exact ⟨_, _, rfl, k3, fun _ => ⟨d2, W ++ [w], some (.shr, x), some (.shr, .str w), k1, List.nodup_append.mpr ⟨g2, by simp, fun a ha b hb z => by rw [List.mem_singleton] at hb; exact k2 (hb ▸ z ▸ ha)⟩, by rw [List.length_append]; simp [g3], rfl⟩⟩)
    (ρ := [some (.lent, d), some (.shr, .int (n : Int)), some (.own, .list []), none, none]) (fun _ => ⟨d, [], none, none, hd, List.nodup_nil, rfl, rfl⟩)
  obtain ⟨ρ', e, hI⟩ := loop
  rw [rngD_len] at hI
  obtain ⟨d', W, x3, x4, g1, g2, g3, rfl⟩ := hI (Nat.le_refl _)
  refine ⟨d', W, g1, g2, g3, ?_⟩
  have ir : ∀ ρ, irb (some (.int (n : Int))) ρ = some (rngD 0 n, ρ) := fun ρ => e_irb n ρ (by omega)
  have ev : m_law_words_drawn R [some (.lent, d), some (.shr, .int (n : Int)), none, none, none] = some (.ret (.slot 2), [some (.lent, d'), some (.shr, .int (n : Int)), some (.own, .list (W.map .str)), x3, x4]) := by
    rw [m_words_drawn_eq]
    generalize bD R = B at *
    simp [ir, e]
  rw [runF_def rfl]
  have : ([(Stt.lent, d), (Stt.shr, PyData.int (n : Int))].map some ++ List.replicate (5 - [(Stt.lent, d), (Stt.shr, PyData.int (n : Int))].length) none : Rho) = [some (.lent, d), some (.shr, .int (n : Int)), none, none, none] := rfl
  rw [this, ev]
  rfl

theorem next_lvl (ns : List Int) (j : Nat) : NextOk (lvl (j + 1)) ns := fun d hd limit h0 h1 => by
  obtain ⟨p, v, s, rfl, a, b, c⟩ := hd
  obtain ⟨out, p', v', s', g1, g2, g3, g4, g5, e⟩ := next_ok (lvl j) ns p v s limit (by omega) (by omega) a b c
  obtain ⟨o, rfl⟩ := Int.eq_ofNat_of_zero_le g1
  exact ⟨o, stD ns p' v' s', by omega, ⟨p', v', s', rfl, g3, g4, g5⟩, by rw [show (lvl (j + 1)).law_next = runF 2 4 (m_law_next (lvl j)) from rfl]; exact e⟩
end PyK77

/-! the drawn claims -/
namespace PyK77
open PySem PySem.Spec L2 PyI
def endL (x : Option (Fl × Rho)) : Option (Rs × Option PyData) := x.bind fun p => (retOf p.2 p.1).bind fun r => match gi p.2 0 with
  | some (some (.lent, d)) => some (r, some d)
  | _ => none
@[simp] theorem endL_k (x d : PyData) (ρ : Rho) : endL (some (.ret (.kept x), some (.lent, d) :: ρ)) = some (.kept x, some d) := rfl
theorem run_lent {np n : Nat} {body : Mo Fl} {d : PyData} {rest : List (Stt × PyData)} (hf : argsFit np ((.lent, d) :: rest) = true) : runF np n body ((.lent, d) :: rest) = endL (body (((Stt.lent, d) :: rest).map some ++ List.replicate (n - ((Stt.lent, d) :: rest).length) none)) := by
  rw [runF_def hf]
  unfold endL
  cases body (((Stt.lent, d) :: rest).map some ++ List.replicate (n - ((Stt.lent, d) :: rest).length) none) with
  | none => rfl
  | some p =>
    obtain ⟨fl, ρ'⟩ := p
    dsimp only [Option.bind_some]
    cases retOf ρ' fl with
    | none => rfl
    | some r =>
      dsimp only [Option.bind_some]
      show (match (match ρ'[(0 : Nat)]? with
        | some (some (Stt.lent, d)) => some (some d)
        | _ => none) with
        | some l => some (r, l)
        | none => none) = _
      unfold gi
      split <;> split <;> simp_all
theorem opposite_ok (R : Fns) (c : Cl) : runF 1 1 (m_law_opposite R) [(.shr, enc c)] = some (.kept (enc (.bi .im c .no)), none) := by
  refine run_ex rfl (fun _ => rfl) ?_
  show endR (m_law_opposite R [some (.shr, enc c)]) = _
  unfold m_law_opposite
  generalize hc : enc c = d
  simp [enc, Op.str, hc]
theorem o_ixL4 (l : List PyData) : opIx (.list l) (.int 4) = l[4]? := atI_nat' l 4
theorem e_l5 (a b c d e : PyData) (ρ : Rho) : dsb true (some ([a, b, c, d, e], ρ)) = some (.fresh (.list [a, b, c, d, e]), ρ) := e_dsbt _ _ (by simp)
def nX (R : Fns) (i : Nat) (l : Int) : Mo Rs := xCallL R.law_next (aC (xV i) (aC (xC (.int l)) aN))
def wX (R : Fns) : Mo Rs := x2i (xV 1) (xCallL R.law_next (aC (xV 0) (aC (xB oLen (aC (xV 1) aN)) aN))) opIx
def whoX (R : Fns) (i : Nat) : Mo Rs := x2i (xLst (aC (xC (.str "ann")) (aC (xC (.str "bo")) aN))) (nX R i 2) opIx
def opX (R : Fns) : Mo Rs := x2i (xLst (aC (xC (.str "and")) (aC (xC (.str "or")) (aC (xC (.str "if")) aN)))) (nX R 0 3) opIx
def wsD (a b : Str) : PyData := .list [.str a, .str b]
section
variable (R : Fns) {ns : List Int} (N : NextOk R ns)
include N
theorem nX_ok (l : Nat) (h : 0 < l) (h2 : l < 1000) {d : PyData} (hd : Dr ns d) (ρ : Rho) : ∃ (o : Nat) (d' : PyData), o < l ∧ Dr ns d' ∧ nX R 0 (l : Int) (some (.lent, d) :: ρ) = some (.kept (.int (o : Int)), some (.lent, d') :: ρ) := by
  obtain ⟨o, d', ho, hd', e⟩ := N d hd l h h2
  refine ⟨o, d', ho, hd', ?_⟩
  unfold nX
  simp [e]
theorem nX1_ok (l : Nat) (h : 0 < l) (h2 : l < 1000) {d : PyData} (hd : Dr ns d) (v0 : Sl) (ρ : Rho) : ∃ (o : Nat) (d' : PyData), o < l ∧ Dr ns d' ∧ nX R 1 (l : Int) (v0 :: some (.own, d) :: ρ) = some (.kept (.int (o : Int)), v0 :: some (.own, d') :: ρ) := by
  obtain ⟨o, d', ho, hd', e⟩ := N d hd l h h2
  refine ⟨o, d', ho, hd', ?_⟩
  unfold nX
  simp [e]
theorem wX_ok {d : PyData} (hd : Dr ns d) (a b : Str) (st : Stt) (hs : Rdg st) (ρ : Rho) : ∃ (x : Str) (d' : PyData), Dr ns d' ∧ wX R (some (.lent, d) :: some (st, wsD a b) :: ρ) = some (.kept (.str x), some (.lent, d') :: some (st, wsD a b) :: ρ) := by
  obtain ⟨o, d', ho, hd', e⟩ := N d hd 2 (by decide) (by decide)
  have e : R.law_next [(.lent, d), (.shr, .int 2)] = some (.kept (.int (o : Int)), some d') := e
  have : o = 0 ∨ o = 1 := by omega
  rcases this with rfl | rfl
  · refine ⟨a, d', hd', ?_⟩
    unfold wX wsD
    rcases hs with rfl | rfl <;> simp [e]
  · refine ⟨b, d', hd', ?_⟩
    unfold wX wsD
    rcases hs with rfl | rfl <;> simp [e]
theorem whoX_ok {d : PyData} (hd : Dr ns d) (ρ : Rho) : ∃ (x : Str) (d' : PyData), Dr ns d' ∧ whoX R 0 (some (.lent, d) :: ρ) = some (.kept (.str x), some (.lent, d') :: ρ) := by
  obtain ⟨o, d', ho, hd', e⟩ := nX_ok R N 2 (by decide) (by decide) hd ρ
  have e : nX R 0 2 (some (.lent, d) :: ρ) = some (.kept (.int (o : Int)), some (.lent, d') :: ρ) := e
  have : o = 0 ∨ o = 1 := by omega
  unfold whoX
  generalize nX R 0 2 = n0 at *
  rcases this with rfl | rfl
  · exact ⟨"ann", d', hd', by simp [e]⟩
  · exact ⟨"bo", d', hd', by simp [e]⟩
theorem whoX1_ok {d : PyData} (hd : Dr ns d) (v0 : Sl) (ρ : Rho) : ∃ (x : Str) (d' : PyData), Dr ns d' ∧ whoX R 1 (v0 :: some (.own, d) :: ρ) = some (.kept (.str x), v0 :: some (.own, d') :: ρ) := by
  obtain ⟨o, d', ho, hd', e⟩ := nX1_ok R N 2 (by decide) (by decide) hd v0 ρ
  have e : nX R 1 2 (v0 :: some (.own, d) :: ρ) = some (.kept (.int (o : Int)), v0 :: some (.own, d') :: ρ) := e
  have : o = 0 ∨ o = 1 := by omega
  unfold whoX
  generalize nX R 1 2 = n0 at *
  rcases this with rfl | rfl
  · exact ⟨"ann", d', hd', by simp [e]⟩
  · exact ⟨"bo", d', hd', by simp [e]⟩
theorem opX_ok {d : PyData} (hd : Dr ns d) (ρ : Rho) : ∃ (o : Op) (d' : PyData), Dr ns d' ∧ opX R (some (.lent, d) :: ρ) = some (.kept (.str o.str), some (.lent, d') :: ρ) := by
  obtain ⟨o, d', ho, hd', e⟩ := nX_ok R N 3 (by decide) (by decide) hd ρ
  have e : nX R 0 3 (some (.lent, d) :: ρ) = some (.kept (.int (o : Int)), some (.lent, d') :: ρ) := e
  have : o = 0 ∨ o = 1 ∨ o = 2 := by omega
  unfold opX
  generalize nX R 0 3 = n0 at *
  rcases this with rfl | rfl | rfl
  · exact ⟨.an, d', hd', by simp [e, Op.str]⟩
  · exact ⟨.ei, d', hd', by simp [e, Op.str]⟩
  · exact ⟨.im, d', hd', by simp [e, Op.str]⟩
end
/-- a drawn claim with what people know -/
def Mx (k : Nat) (c : Cl) : Prop := wt c = ext c ∧ md c ≤ k ∧ ext c + 1 ≤ 2 ^ (k + 1)
def MixR (R : Fns) (ns : List Int) (k : Nat) : Prop := ∀ (a b : Str) (st : Stt) (d : PyData), Rdg st → Dr ns d → ∃ (c : Cl) (d' : PyData), Dr ns d' ∧ Mx k c ∧ R.law_mixed [(.lent, d), (st, wsD a b), (.shr, .int (k : Int))] = some (.kept (enc c), some d')
def mX (R : Fns) : Mo Rs := xCallL R.law_mixed (aC (xV 0) (aC (xV 1) (aC (x2 (xV 2) (xC (.int 1)) opSub) aN)))
theorem mX_ok (R : Fns) {ns : List Int} {k : Nat} (M : MixR R ns k) {d : PyData} (hd : Dr ns d) (a b : Str) (st : Stt) (hs : Rdg st) (v3 : Sl) : ∃ (c : Cl) (d' : PyData), Dr ns d' ∧ Mx k c ∧ mX R [some (.lent, d), some (st, wsD a b), some (.shr, .int ((k + 1 : Nat) : Int)), v3] = some (.kept (enc c), [some (.lent, d'), some (st, wsD a b), some (.shr, .int ((k + 1 : Nat) : Int)), v3]) := by
  obtain ⟨c, d', hd', hm, e⟩ := M a b st d hs hd
  refine ⟨c, d', hd', hm, ?_⟩
  have hk : ((k + 1 : Nat) : Int) - 1 = (k : Int) := by omega
  unfold mX
  generalize ((k + 1 : Nat) : Int) = K at *
  generalize (k : Int) = K' at *
  generalize wsD a b = W at *
  rcases hs with rfl | rfl <;> simp [hk, e]
theorem m_law_mixed_eq (R : Fns) : m_law_mixed R = sSeq (sSet 3 (nX R 0 5))
    (sSeq (sIf (tOrM (tV (x2 (xV 2) (xC (.int 0)) opEq)) (tV (x2 (xV 3) (xC (.int 0)) opEq))) (sRet (xTup (aC (xC (.str "word")) (aC (wX R) aN)))) sPass)
    (sSeq (sIf (tV (x2 (xV 3) (xC (.int 1)) opEq)) (sRet (xTup (aC (xC (.str "knows")) (aC (whoX R 0) (aC (mX R) aN))))) sPass)
    (sSeq (sIf (tV (x2 (xV 3) (xC (.int 2)) opEq)) (sRet (xCall R.law_opposite (aC (mX R) aN))) sPass)
    (sRet (xTup (aC (opX R) (aC (mX R) (aC (mX R) aN)))))))) := rfl
theorem mx_w (k : Nat) (x : Str) : Mx k (.w x) := ⟨rfl, Nat.zero_le _, by
  have : 2 ^ 1 ≤ 2 ^ (k + 1) := Nat.pow_le_pow_right (by decide) (by omega)
  simpa [ext] using this⟩
theorem mx_kn {k : Nat} {x : Str} {c : Cl} (h : Mx k c) : Mx (k + 1) (.kn x c) := by
  obtain ⟨h1, h2, h3⟩ := h
  have : 2 ^ (k + 1 + 1) = 2 ^ (k + 1) + 2 ^ (k + 1) := by rw [Nat.pow_succ]; omega
  exact ⟨by simp only [wt, ext]; omega, by simp only [md]; omega, by simp only [ext]; omega⟩
theorem mx_bi {k : Nat} {o : Op} {a b : Cl} (h : Mx k a) (g : Mx k b) : Mx (k + 1) (.bi o a b) := by
  obtain ⟨h1, h2, h3⟩ := h
  obtain ⟨g1, g2, g3⟩ := g
  have : 2 ^ (k + 1 + 1) = 2 ^ (k + 1) + 2 ^ (k + 1) := by rw [Nat.pow_succ]; omega
  exact ⟨by simp only [wt, ext]; omega, by simp only [md]; omega, by simp only [ext]; omega⟩
theorem mx_no (k : Nat) : Mx k .no := ⟨rfl, Nat.zero_le _, by
  have : 2 ^ 1 ≤ 2 ^ (k + 1) := Nat.pow_le_pow_right (by decide) (by omega)
  simpa [ext] using this⟩
theorem mixed_ok (R : Fns) {ns : List Int} (N : NextOk R ns) (Op' : ∀ c, R.law_opposite [(.shr, enc c)] = some (.kept (enc (.bi .im c .no)), none)) (k : Nat) (M : ∀ j, k = j + 1 → MixR R ns j) (a b : Str) (st : Stt) (d : PyData) (hs : Rdg st) (hd : Dr ns d) :
    ∃ (c : Cl) (d' : PyData), Dr ns d' ∧ Mx k c ∧ runF 3 4 (m_law_mixed R) [(.lent, d), (st, wsD a b), (.shr, .int (k : Int))] = some (.kept (enc c), some d') := by
  have fit : argsFit 3 [(.lent, d), (st, wsD a b), (.shr, .int (k : Int))] = true := by rcases hs with rfl | rfl <;> rfl
  rw [run_lent fit]
  show ∃ (c : Cl) (d' : PyData), Dr ns d' ∧ Mx k c ∧ endL (m_law_mixed R [some (.lent, d), some (st, wsD a b), some (.shr, .int (k : Int)), none]) = _
  rw [m_law_mixed_eq]
  obtain ⟨o, d1, ho, hd1, e1⟩ := nX_ok R N 5 (by decide) (by decide) hd [some (st, wsD a b), some (.shr, .int (k : Int)), none]
  have e1 : nX R 0 5 [some (.lent, d), some (st, wsD a b), some (.shr, .int (k : Int)), none] = some (.kept (.int (o : Int)), [some (.lent, d1), some (st, wsD a b), some (.shr, .int (k : Int)), none]) := e1
  obtain ⟨x, d2, hd2, e2⟩ := wX_ok R N hd1 a b st hs [some (.shr, .int (k : Int)), some (.shr, .int (o : Int))]
  by_cases h0 : k = 0 ∨ o = 0
  · refine ⟨.w x, d2, hd2, mx_w k x, ?_⟩
    have hor : ((k : Int) == 0) = true ∨ (((k : Int) == 0) = false ∧ ((o : Int) == 0) = true) := by
      by_cases hk : k = 0
      · exact .inl (by simp [hk])
      · exact .inr ⟨by simp [hk], by simp [h0.resolve_left hk]⟩
    generalize nX R 0 5 = n0 at *
    generalize wX R = w0 at *
    generalize whoX R 0 = o0 at *
    generalize mX R = m0 at *
    generalize opX R = p0 at *
    generalize wsD a b = W at *
    generalize (k : Int) = K at *
    generalize (o : Int) = O at *
    rcases hor with hk | ⟨hk, ho⟩
    · rcases hs with rfl | rfl <;> simp [hk, e1, e2, enc]
    · rcases hs with rfl | rfl <;> simp [hk, ho, e1, e2, enc]
  · obtain ⟨j, rfl⟩ : ∃ j, k = j + 1 := ⟨k - 1, by omega⟩
    have M := M j rfl
    have hk : (((j + 1 : Nat) : Int) == 0) = false := by simp; omega
    have ho0 : ((o : Int) == 0) = false := by simp; omega
    obtain ⟨x1, d3, hd3, e3⟩ := whoX_ok R N hd1 [some (st, wsD a b), some (.shr, .int ((j + 1 : Nat) : Int)), some (.shr, .int (o : Int))]
    obtain ⟨c4, d4, hd4, m4, e4⟩ := mX_ok R M hd3 a b st hs (some (.shr, .int (o : Int)))
    obtain ⟨c5, d5, hd5, m5, e5⟩ := mX_ok R M hd1 a b st hs (some (.shr, .int (o : Int)))
    obtain ⟨p6, d6, hd6, e6⟩ := opX_ok R N hd1 [some (st, wsD a b), some (.shr, .int ((j + 1 : Nat) : Int)), some (.shr, .int (o : Int))]
    obtain ⟨c7, d7, hd7, m7, e7⟩ := mX_ok R M hd6 a b st hs (some (.shr, .int (o : Int)))
    obtain ⟨c8, d8, hd8, m8, e8⟩ := mX_ok R M hd7 a b st hs (some (.shr, .int (o : Int)))
    have op5 := Op' c5
    by_cases h1 : o = 1
    · refine ⟨.kn x1 c4, d4, hd4, mx_kn m4, ?_⟩
      have ho1 : ((o : Int) == 1) = true := by simp [h1]
      generalize nX R 0 5 = n0 at *
      generalize wX R = w0 at *
      generalize whoX R 0 = o0 at *
      generalize mX R = m0 at *
      generalize opX R = p0 at *
      generalize wsD a b = W at *
      generalize ((j + 1 : Nat) : Int) = K at *
      generalize (o : Int) = O at *
      simp only [enc]
      rcases hs with rfl | rfl <;> simp [hk, ho0, ho1, e1, e3, e4]
    · have ho1 : ((o : Int) == 1) = false := by simp; omega
      by_cases h2 : o = 2
      · refine ⟨.bi .im c5 .no, d5, hd5, mx_bi m5 (mx_no j), ?_⟩
        have ho2 : ((o : Int) == 2) = true := by simp [h2]
        generalize nX R 0 5 = n0 at *
        generalize wX R = w0 at *
        generalize whoX R 0 = o0 at *
        generalize mX R = m0 at *
        generalize opX R = p0 at *
        generalize wsD a b = W at *
        generalize ((j + 1 : Nat) : Int) = K at *
        generalize (o : Int) = O at *
        rcases hs with rfl | rfl <;> simp [hk, ho0, ho1, ho2, e1, e5, op5]
      · refine ⟨.bi p6 c7 c8, d8, hd8, mx_bi m7 m8, ?_⟩
        have ho2 : ((o : Int) == 2) = false := by simp; omega
        generalize nX R 0 5 = n0 at *
        generalize wX R = w0 at *
        generalize whoX R 0 = o0 at *
        generalize mX R = m0 at *
        generalize opX R = p0 at *
        generalize wsD a b = W at *
        generalize ((j + 1 : Nat) : Int) = K at *
        generalize (o : Int) = O at *
        simp only [enc]
        rcases hs with rfl | rfl <;> simp [hk, ho0, ho1, ho2, e1, e6, e7, e8]
theorem mixed_lvl (ns : List Int) : ∀ (k n : Nat), k + 2 ≤ n → MixR (lvl n) ns k
  | k, n, hn => fun a b st d hs hd => by
    obtain ⟨j, rfl⟩ : ∃ j, n = j + 2 := ⟨n - 2, by omega⟩
    rw [show (lvl (j + 2)).law_mixed = runF 3 4 (m_law_mixed (lvl (j + 1))) from rfl]
    exact mixed_ok (lvl (j + 1)) (next_lvl ns j) (fun c => opposite_ok (lvl j) c) k (fun i hi => mixed_lvl ns i (j + 1) (by omega)) a b st d hs hd
end PyK77

/-! drawn plain claims -/
namespace PyK77
open PySem PySem.Spec L2 PyI
/-- a plain claim -/
structure Pc (k : Nat) (c : Cl) : Prop where
  w : wt c = ext c
  m : md c = 0
  e : ext c + 1 ≤ 2 ^ (k + 1)
  t : ∀ n, tw c n ≤ ext c * (n + 3)
  s : ∀ L L' v, So c L v ↔ So c L' v
theorem pc_w (k : Nat) (x : Str) : Pc k (.w x) := ⟨rfl, rfl, (mx_w k x).2.2, fun n => by simp only [tw, ext]; omega, fun _ _ _ => Iff.rfl⟩
theorem pc_no (k : Nat) : Pc k .no := ⟨rfl, rfl, (mx_no k).2.2, fun n => by simp only [tw, ext]; omega, fun _ _ _ => Iff.rfl⟩
theorem pc_bi {k : Nat} {o : Op} {a b : Cl} (h : Pc k a) (g : Pc k b) : Pc (k + 1) (.bi o a b) := by
  have h3 := h.e
  have g3 := g.e
  have : 2 ^ (k + 1 + 1) = 2 ^ (k + 1) + 2 ^ (k + 1) := by rw [Nat.pow_succ]; omega
  refine ⟨by simp only [wt, ext, h.w, g.w], by simp only [md, h.m, g.m]; rfl, by simp only [ext]; omega, fun n => ?_, fun L L' v => ?_⟩
  · have := h.t n
    have := g.t n
    simp only [tw, ext, Nat.add_mul]
    omega
  · simp only [So, h.s L L' v, g.s L L' v]
def ClR (R : Fns) (ns : List Int) (k : Nat) : Prop := ∀ (a b : Str) (st : Stt) (d : PyData), Rdg st → Dr ns d → ∃ (c : Cl) (d' : PyData), Dr ns d' ∧ Pc k c ∧ R.law_claim [(.lent, d), (st, wsD a b), (.shr, .int (k : Int))] = some (.kept (enc c), some d')
def cX (R : Fns) : Mo Rs := xCallL R.law_claim (aC (xV 0) (aC (xV 1) (aC (x2 (xV 2) (xC (.int 1)) opSub) aN)))
theorem cX_ok (R : Fns) {ns : List Int} {k : Nat} (M : ClR R ns k) {d : PyData} (hd : Dr ns d) (a b : Str) (st : Stt) (hs : Rdg st) (v3 v4 : Sl) : ∃ (c : Cl) (d' : PyData), Dr ns d' ∧ Pc k c ∧ cX R [some (.lent, d), some (st, wsD a b), some (.shr, .int ((k + 1 : Nat) : Int)), v3, v4] = some (.kept (enc c), [some (.lent, d'), some (st, wsD a b), some (.shr, .int ((k + 1 : Nat) : Int)), v3, v4]) := by
  obtain ⟨c, d', hd', hm, e⟩ := M a b st d hs hd
  refine ⟨c, d', hd', hm, ?_⟩
  have hk : ((k + 1 : Nat) : Int) - 1 = (k : Int) := by omega
  unfold cX
  generalize ((k + 1 : Nat) : Int) = K at *
  generalize (k : Int) = K' at *
  generalize wsD a b = W at *
  rcases hs with rfl | rfl <;> simp [hk, e]
def iX : Mo Rs := x2i (xLst (aC (xC (.str "and")) (aC (xC (.str "or")) (aC (xC (.str "if")) (aC (xC (.str "if")) (aC (xC (.str "or")) aN)))))) (x2 (xV 3) (xC (.int 3)) opSub) opIx
theorem iX_ok (v0 v1 v2 v4 : Sl) (o : Nat) (h : 3 ≤ o) (h2 : o ≤ 7) : ∃ p : Op, iX [v0, v1, v2, some (.shr, .int (o : Int)), v4] = some (.kept (.str p.str), [v0, v1, v2, some (.shr, .int (o : Int)), v4]) := by
  have : o = 3 ∨ o = 4 ∨ o = 5 ∨ o = 6 ∨ o = 7 := by omega
  unfold iX
  rcases this with rfl | rfl | rfl | rfl | rfl
  · exact ⟨.an, by simp [Op.str, e_l5]⟩
  · exact ⟨.ei, by simp [Op.str, e_l5]⟩
  · exact ⟨.im, by simp [Op.str, e_l5]⟩
  · exact ⟨.im, by simp [Op.str, e_l5]⟩
  · exact ⟨.ei, by simp [Op.str, e_l5, o_ixL4]⟩
theorem m_law_claim_eq (R : Fns) : m_law_claim R = sSeq (sSet 3 (nX R 0 9))
    (sSeq (sIf (tOrM (tV (x2 (xV 2) (xC (.int 0)) opEq)) (tV (x2 (xV 3) (xC (.int 3)) opLt))) (sRet (xIf (tOrM (tV (x2 (nX R 0 6) (xC (.int 0)) opEq)) (tV (x2 (xV 1) (xLst aN) opEq))) (xTup (aC (xC (.str "none")) aN)) (xTup (aC (xC (.str "word")) (aC (wX R) aN))))) sPass)
    (sSeq (sSet 4 (cX R))
    (sSeq (sIf (tV (x2 (xV 3) (xC (.int 8)) opEq)) (sRet (xTup (aC (xC (.str "if")) (aC (xV 4) (aC (xTup (aC (xC (.str "none")) aN)) aN))))) sPass)
    (sRet (xTup (aC iX (aC (xV 4) (aC (cX R) aN)))))))) := rfl
theorem ws_ne (a b : Str) : opEq (wsD a b) (.list []) = some (.bool false) := by
  have : eqD (wsD a b) (.list []) = some false := by
    show (if (wsD a b).plain = true ∧ (PyData.list []).plain = true ∧ min (wsD a b).depth (PyData.list []).depth ≤ 60 then some (PyData.eqv (wsD a b) (.list [])) else none) = _
    rw [if_pos ⟨rfl, rfl, by simp [wsD, PyData.depth, PyData.depthAll]⟩]
    simp [wsD, PyData.eqv, PyData.eqvAll]
  unfold opEq; rw [this]; rfl
theorem claim_ok (R : Fns) {ns : List Int} (N : NextOk R ns) (k : Nat) (M : ∀ j, k = j + 1 → ClR R ns j) (a b : Str) (st : Stt) (d : PyData) (hs : Rdg st) (hd : Dr ns d) :
    ∃ (c : Cl) (d' : PyData), Dr ns d' ∧ Pc k c ∧ runF 3 5 (m_law_claim R) [(.lent, d), (st, wsD a b), (.shr, .int (k : Int))] = some (.kept (enc c), some d') := by
  have fit : argsFit 3 [(.lent, d), (st, wsD a b), (.shr, .int (k : Int))] = true := by rcases hs with rfl | rfl <;> rfl
  rw [run_lent fit]
  show ∃ (c : Cl) (d' : PyData), Dr ns d' ∧ Pc k c ∧ endL (m_law_claim R [some (.lent, d), some (st, wsD a b), some (.shr, .int (k : Int)), none, none]) = _
  rw [m_law_claim_eq]
  obtain ⟨o, d1, ho, hd1, e1⟩ := nX_ok R N 9 (by decide) (by decide) hd [some (st, wsD a b), some (.shr, .int (k : Int)), none, none]
  have e1 : nX R 0 9 [some (.lent, d), some (st, wsD a b), some (.shr, .int (k : Int)), none, none] = some (.kept (.int (o : Int)), [some (.lent, d1), some (st, wsD a b), some (.shr, .int (k : Int)), none, none]) := e1
  have we := ws_ne a b
  by_cases h0 : k = 0 ∨ o < 3
  · obtain ⟨o2, d2, ho2, hd2, e2⟩ := nX_ok R N 6 (by decide) (by decide) hd1 [some (st, wsD a b), some (.shr, .int (k : Int)), some (.shr, .int (o : Int)), none]
    have e2 : nX R 0 6 [some (.lent, d1), some (st, wsD a b), some (.shr, .int (k : Int)), some (.shr, .int (o : Int)), none] = some (.kept (.int (o2 : Int)), [some (.lent, d2), some (st, wsD a b), some (.shr, .int (k : Int)), some (.shr, .int (o : Int)), none]) := e2
    obtain ⟨x, d3, hd3, e3⟩ := wX_ok R N hd2 a b st hs [some (.shr, .int (k : Int)), some (.shr, .int (o : Int)), none]
    have hor : ((k : Int) == 0) = true ∨ (((k : Int) == 0) = false ∧ (o : Int) < 3) := by
      by_cases hk : k = 0
      · exact .inl (by simp [hk])
      · exact .inr ⟨by simp [hk], by have := h0.resolve_left hk; omega⟩
    by_cases hz : o2 = 0
    · refine ⟨.no, d2, hd2, pc_no k, ?_⟩
      have hz' : ((o2 : Int) == 0) = true := by simp [hz]
      generalize nX R 0 9 = n0 at *
      generalize nX R 0 6 = n1 at *
      generalize wX R = w0 at *
      generalize cX R = m0 at *
      generalize wsD a b = W at *
      generalize (k : Int) = K at *
      generalize (o : Int) = O at *
      generalize (o2 : Int) = O2 at *
      rcases hor with hk | ⟨hk, ho⟩
      · rcases hs with rfl | rfl <;> simp [hk, e1, e2, e3, hz', enc]
      · rcases hs with rfl | rfl <;> simp [hk, ho, e1, e2, e3, hz', enc]
    · refine ⟨.w x, d3, hd3, pc_w k x, ?_⟩
      have hz' : ((o2 : Int) == 0) = false := by simp [hz]
      generalize nX R 0 9 = n0 at *
      generalize nX R 0 6 = n1 at *
      generalize wX R = w0 at *
      generalize cX R = m0 at *
      generalize wsD a b = W at *
      generalize (k : Int) = K at *
      generalize (o : Int) = O at *
      generalize (o2 : Int) = O2 at *
      rcases hor with hk | ⟨hk, ho⟩
      · rcases hs with rfl | rfl <;> simp [hk, e1, e2, e3, hz', we, enc]
      · rcases hs with rfl | rfl <;> simp [hk, ho, e1, e2, e3, hz', we, enc]
  · obtain ⟨j, rfl⟩ : ∃ j, k = j + 1 := ⟨k - 1, by omega⟩
    have M := M j rfl
    have hk : (((j + 1 : Nat) : Int) == 0) = false := by simp; omega
    have ho3 : ¬ (o : Int) < 3 := by omega
    obtain ⟨c4, d4, hd4, m4, e4⟩ := cX_ok R M hd1 a b st hs (some (.shr, .int (o : Int))) none
    by_cases h8 : o = 8
    · refine ⟨.bi .im c4 .no, d4, hd4, pc_bi m4 (pc_no j), ?_⟩
      have ho8 : ((o : Int) == 8) = true := by simp [h8]
      generalize nX R 0 9 = n0 at *
      generalize nX R 0 6 = n1 at *
      generalize wX R = w0 at *
      generalize cX R = m0 at *
      generalize wsD a b = W at *
      generalize ((j + 1 : Nat) : Int) = K at *
      generalize (o : Int) = O at *
      simp only [enc, Op.str]
      rcases hs with rfl | rfl <;> simp [hk, ho3, ho8, e1, e4]
    · have ho8 : ((o : Int) == 8) = false := by simp; omega
      obtain ⟨p, e5⟩ := iX_ok (some (.lent, d4)) (some (st, wsD a b)) (some (.shr, .int ((j + 1 : Nat) : Int))) (some (.shr, enc c4)) o (by omega) (by omega)
      obtain ⟨c6, d6, hd6, m6, e6⟩ := cX_ok R M hd4 a b st hs (some (.shr, .int (o : Int))) (some (.shr, enc c4))
      refine ⟨.bi p c4 c6, d6, hd6, pc_bi m4 m6, ?_⟩
      generalize nX R 0 9 = n0 at *
      generalize nX R 0 6 = n1 at *
      generalize wX R = w0 at *
      generalize cX R = m0 at *
      generalize iX = i0 at *
      generalize wsD a b = W at *
      generalize ((j + 1 : Nat) : Int) = K at *
      generalize (o : Int) = O at *
      simp only [enc]
      rcases hs with rfl | rfl <;> simp [hk, ho3, ho8, e1, e4, e5, e6]
theorem claim_lvl (ns : List Int) : ∀ (k n : Nat), k + 2 ≤ n → ClR (lvl n) ns k
  | k, n, hn => fun a b st d hs hd => by
    obtain ⟨j, rfl⟩ : ∃ j, n = j + 2 := ⟨n - 2, by omega⟩
    rw [show (lvl (j + 2)).law_claim = runF 3 5 (m_law_claim (lvl (j + 1))) from rfl]
    exact claim_ok (lvl (j + 1)) (next_lvl ns j) k (fun i hi => claim_lvl ns i (j + 1) (by omega)) a b st d hs hd
end PyK77

/-! what the law asks -/
namespace PyK77
open PySem PySem.Spec L2 PyI
theorem nt0 : Nt [] [] (fun _ => .no) [] := ⟨rfl, rfl, fun k h => (nomatch h), rfl, rfl, fun c => Iff.rfl, rfl, by decide⟩
theorem nt1 (a : Cl) : Nt [(.str "n", enc a)] ["n"] (fun _ => a) [a] :=
  ⟨rfl, rfl, fun k h => by rw [List.mem_singleton] at h; subst h; simp [lookD, keyEq], rfl, rfl, fun c => Iff.rfl, rfl, by simp⟩
theorem nt2 (a b : Cl) : Nt [(.str "n", enc a), (.str "m", enc b)] ["m", "n"] (fun k => if k = ("m" : Str) then b else a) [a, b] := by
  have nm : ¬ ("n" : Str) = "m" := by decide
  have mn : (("n" : Str) == "m") = false := by decide
  have mn2 : (("m" : Str) == "n") = false := by decide
  have so : sortS ["n", "m"] = (["m", "n"] : List Str) := by decide
  refine ⟨rfl, ?_, fun k h => ?_, rfl, rfl, fun c => ?_, ?_, by simp⟩
  · show (match strsD [.str "n", .str "m"] with
      | some xs => if xs.length < 64 then some (PyData.list ((sortS xs).map .str)) else none
      | none => none) = _
    have : strsD [.str "n", .str "m"] = some (["n", "m"] : List Str) := rfl
    rw [this]
    dsimp only
    rw [so]; rfl
  · simp only [List.mem_cons, List.not_mem_nil, or_false] at h
    rcases h with rfl | rfl
    · simp [lookD, keyEq, mn, mn2]
    · simp [lookD, keyEq, nm]
  · simp only [List.map_cons, List.map_nil, if_true, if_neg nm, List.mem_cons, List.not_mem_nil, or_false]
    exact Or.comm
  · simp only [List.map_cons, List.map_nil, if_true, if_neg nm, List.sum_cons, List.sum_nil]
    omega
theorem sum_wt {l : List Cl} (h : ∀ a ∈ l, wt a = ext a) : wsum l = (l.map ext).sum := by
  unfold wsum
  induction l with
  | nil => rfl
  | cons a l ih => rw [List.map_cons, List.map_cons, List.sum_cons, List.sum_cons, h a List.mem_cons_self, ih fun x hx => h x (List.mem_cons_of_mem _ hx)]
/-- nothing is told, three deep -/
theorem fit3 {D : List (PyData × PyData)} {ks : List Str} {val : Str → Cl} {al : List Cl} (N : Nt D ks val al) {c : Cl} (h1 : ∀ a ∈ al, wt a = ext a ∧ md a ≤ 3) (h2 : wt c = ext c ∧ md c ≤ 3) (h : (al.map ext).sum + ext c ≤ 24) : Fit (ks.map val) c := by
  have e := sum_wt (l := ks.map val) fun a ha => (h1 a ((N.mem a).mpr ha)).1
  have := N.sm
  exact ⟨3, by omega, fun a ha => (h1 a ((N.mem a).mpr ha)).2, h2.2, by omega⟩
section
variable (w : Str) (a b : Cl)
theorem v1 : Valid [.kn w (.bi .an a b)] [.bi .an (.kn w a) (.kn w b)] := fun v h => by
  have h := h _ (List.mem_singleton.mpr rfl)
  exact ⟨_, List.mem_singleton.mpr rfl, fun u hu hl => (h u hu hl).1, fun u hu hl => (h u hu hl).2⟩
theorem v2 : Valid [.bi .an (.kn w a) (.kn w b)] [.kn w (.bi .an a b)] := fun v h => by
  have h := h _ (List.mem_singleton.mpr rfl)
  exact ⟨_, List.mem_singleton.mpr rfl, fun u hu hl => ⟨h.1 u hu hl, h.2 u hu hl⟩⟩
theorem v3 : Valid [.kn w a] [a] := fun v h => ⟨_, List.mem_singleton.mpr rfl, h _ (List.mem_singleton.mpr rfl) v (.inl rfl) trivial⟩
theorem v4 : Valid [.kn w (.bi .im a b), .kn w a] [.kn w b] := fun v h => by
  have h1 := h _ List.mem_cons_self
  have h2 := h _ (List.mem_cons_of_mem _ List.mem_cons_self)
  exact ⟨_, List.mem_singleton.mpr rfl, fun u hu hl => h1 u hu hl (h2 u hu hl)⟩
theorem v5 {k : Nat} {p : Cl} (hp : Pc k p) : Valid [] [.to p (.kn w p)] := fun v _ => ⟨_, List.mem_singleton.mpr rfl, fun _ u _ hl => (hp.s _ _ u).mp hl.2⟩
theorem told_eq (p : Cl) (y : Str) (e : Cl) (v : PyData) : So (.to p (.to (.w y) e)) All v ↔ So (.to (.bi .an p (.w y)) e) All v := by
  simp only [So, opP]
  have f : (fun u => (All u ∧ So p All u) ∧ y ∈ wsOf u) = fun u => All u ∧ So p All u ∧ y ∈ wsOf u := by
    funext u
    exact propext and_assoc
  rw [f]
  exact ⟨fun h ⟨h1, h2⟩ => h h1 h2, fun h h1 h2 => h ⟨h1, h2⟩⟩
theorem v6 (p : Cl) (y : Str) (e : Cl) : Valid [.to p (.to (.w y) e)] [.to (.bi .an p (.w y)) e] := fun v h => ⟨_, List.mem_singleton.mpr rfl, (told_eq p y e v).mp (h _ (List.mem_singleton.mpr rfl))⟩
theorem v7 (p : Cl) (y : Str) (e : Cl) : Valid [.to (.bi .an p (.w y)) e] [.to p (.to (.w y) e)] := fun v h => ⟨_, List.mem_singleton.mpr rfl, (told_eq p y e v).mpr (h _ (List.mem_singleton.mpr rfl))⟩
theorem v8 : Valid [] [a] ↔ Valid [] [.kn w a] := by
  constructor
  · intro h v _
    refine ⟨_, List.mem_singleton.mpr rfl, fun u _ _ => ?_⟩
    obtain ⟨b, hb, s⟩ := h u fun _ z => nomatch z
    rw [List.mem_singleton] at hb; subst hb; exact s
  · intro h v _
    obtain ⟨b, hb, s⟩ := h v fun _ z => nomatch z
    rw [List.mem_singleton] at hb; subst hb
    exact ⟨_, List.mem_singleton.mpr rfl, s v (.inl rfl) trivial⟩
theorem v9 (h : Valid [a] [b]) : Valid [.kn w a] [.kn w b] := fun v hv => by
  have hv := hv _ (List.mem_singleton.mpr rfl)
  refine ⟨_, List.mem_singleton.mpr rfl, fun u hu hl => ?_⟩
  obtain ⟨c, hc, s⟩ := h u fun d hd => by rw [List.mem_singleton] at hd; subst hd; exact hv u hu hl
  rw [List.mem_singleton] at hc; subst hc; exact s
end
/-- an ask that the law is content with -/
def GoodA (R : Fns) (q : List (PyData × PyData) × Cl) : Prop := ∃ r, R.law_so [(.shr, .dict q.1), (.shr, enc q.2)] = some (.kept r, none) ∧ (r = .none ∨ r = .bool true)
theorem good_of {D : List (PyData × PyData)} {ks : List Str} {val : Str → Cl} {al : List Cl} (N : Nt D ks val al) {c : Cl} (F : (al.map ext).sum + ext c ≤ 24 → Fit (ks.map val) c) (hw : ∀ a ∈ al, ext a ≤ 45) (hwc : ext c ≤ 45) (V : Valid al [c]) (k : Nat) (hk : 220 ≤ k) : GoodA (lvl (k + 1)) (D, c) := by
  refine ⟨_, law_so_ok N F hw hwc k hk, ?_⟩
  unfold ansD
  split
  · exact .inl rfl
  · rw [bv_t V]; exact .inr rfl
theorem tell_fit {D : List (PyData × PyData)} {ks : List Str} {val : Str → Cl} {al : List Cl} (N : Nt D ks val al) {c : Cl} (h : wsum (ks.map val) + wt c ≤ 45) (h1 : ∀ a ∈ ks.map val, md a ≤ 1) (h2 : md c ≤ 1) : Fit (ks.map val) c := ⟨1, h, h1, h2, by omega⟩
section
variable (w y z : Str) {p : Cl} (hp : Pc 1 p)
include hp
theorem p3 : ext p ≤ 3 := by have := hp.e; omega
theorem wt_twice : wt (.to p (.to (.w y) (.kn w (.w z)))) ≤ 27 := by
  have := p3 hp
  have := hp.w
  simp only [wt, tw]
  omega
theorem wt_once : wt (.to (.bi .an p (.w y)) (.kn w (.w z))) ≤ 16 := by
  have := p3 hp
  have := hp.w
  simp only [wt, tw]
  omega
theorem wt_tell : wt (.to p (.kn w p)) ≤ 24 := by
  have h1 := p3 hp
  have h2 := hp.w
  have h3 := hp.t (wt p)
  have h4 : ext p * (wt p + 3) ≤ 3 * (3 + 3) := Nat.mul_le_mul h1 (by omega)
  simp only [wt, tw]
  omega
theorem md_twice : md (.to p (.to (.w y) (.kn w (.w z)))) ≤ 1 := by simp [md, hp.m]
theorem md_once : md (.to (.bi .an p (.w y)) (.kn w (.w z))) ≤ 1 := by simp [md, hp.m]
theorem md_tell : md (.to p (.kn w p)) ≤ 1 := by simp [md, hp.m]
end
end PyK77

/-! the law -/
namespace PyK77
open PySem PySem.Spec L2 PyI
def P1 (R : Fns) : Mo Fl := sSet 1 (xLst (aC (xScr 0) (aC (xC (.int 0)) (aC (xC (.int 0)) (aC (xC (.int 1)) aN)))))
def P2 (R : Fns) : Mo Fl := sSet 2 (xCallL R.law_words_drawn (aC (xV 1) (aC (xC (.int 2)) aN)))
def P3 (R : Fns) : Mo Fl := sSet 3 (xCallL R.law_mixed (aC (xV 1) (aC (xV 2) (aC (xC (.int 2)) aN))))
def P4 (R : Fns) : Mo Fl := sSet 4 (xCallL R.law_mixed (aC (xV 1) (aC (xV 2) (aC (xC (.int 1)) aN))))
def P5 (R : Fns) : Mo Fl := sSet 5 (x2i (xLst (aC (xC (.str "ann")) (aC (xC (.str "bo")) aN))) (xCallL R.law_next (aC (xV 1) (aC (xC (.int 2)) aN))) opIx)
def P6 (R : Fns) : Mo Fl := sSet 6 (xTup (aC (xC (.str "knows")) (aC (xV 5) (aC (xV 3) aN))))
def P7 (R : Fns) : Mo Fl := sSet 7 (xTup (aC (xC (.str "and")) (aC (xV 6) (aC (xTup (aC (xC (.str "knows")) (aC (xV 5) (aC (xV 4) aN)))) aN))))
def P8 (R : Fns) : Mo Fl := sSet 8 (xCallL R.law_claim (aC (xV 1) (aC (xV 2) (aC (xC (.int 1)) aN))))
def P9 (R : Fns) : Mo Fl := sSet 9 (xTup (aC (xC (.str "word")) (aC (x2i (xV 2) (xCallL R.law_next (aC (xV 1) (aC (xC (.int 2)) aN))) opIx) aN)))
def P10 (R : Fns) : Mo Fl := sSet 10 (xTup (aC (xC (.str "knows")) (aC (xV 5) (aC (xTup (aC (xC (.str "word")) (aC (x2i (xV 2) (xCallL R.law_next (aC (xV 1) (aC (xC (.int 2)) aN))) opIx) aN))) aN))))
def P11 (R : Fns) : Mo Fl := sSet 11 (xTup (aC (xC (.str "told")) (aC (xV 8) (aC (xTup (aC (xC (.str "told")) (aC (xV 9) (aC (xV 10) aN)))) aN))))
def P12 (R : Fns) : Mo Fl := sSet 12 (xTup (aC (xC (.str "told")) (aC (xTup (aC (xC (.str "and")) (aC (xV 8) (aC (xV 9) aN)))) (aC (xV 10) aN))))
def P13 (R : Fns) : Mo Fl := sSet 13 (xLst (aC (xTup (aC (xDisp [((xC (.str "n")), (xTup (aC (xC (.str "knows")) (aC (xV 5) (aC (xTup (aC (xC (.str "and")) (aC (xV 3) (aC (xV 4) aN)))) aN)))))]) (aC (xV 7) aN))) (aC (xTup (aC (xDisp [((xC (.str "n")), (xV 7))]) (aC (xTup (aC (xC (.str "knows")) (aC (xV 5) (aC (xTup (aC (xC (.str "and")) (aC (xV 3) (aC (xV 4) aN)))) aN)))) aN))) (aC (xTup (aC (xDisp [((xC (.str "n")), (xV 6))]) (aC (xV 3) aN))) aN))))
def P14 (R : Fns) : Mo Fl := sSet 13 (x2 (xV 13) (xLst (aC (xTup (aC (xDisp [((xC (.str "n")), (xTup (aC (xC (.str "knows")) (aC (xV 5) (aC (xTup (aC (xC (.str "if")) (aC (xV 3) (aC (xV 4) aN)))) aN))))), ((xC (.str "m")), (xV 6))]) (aC (xTup (aC (xC (.str "knows")) (aC (xV 5) (aC (xV 4) aN)))) aN))) (aC (xTup (aC xDict0 (aC (xTup (aC (xC (.str "told")) (aC (xV 8) (aC (xTup (aC (xC (.str "knows")) (aC (xV 5) (aC (xV 8) aN)))) aN)))) aN))) aN))) opAdd)
def P15 (R : Fns) : Mo Fl := sSet 13 (x2 (xV 13) (xLst (aC (xTup (aC (xDisp [((xC (.str "n")), (xV 11))]) (aC (xV 12) aN))) (aC (xTup (aC (xDisp [((xC (.str "n")), (xV 12))]) (aC (xV 11) aN))) aN))) opAdd)
def P16 (R : Fns) : Mo Fl := sIf (tV (x2 (xLc [14] (iS (xV 13)) (gN 14) (tV (x2 (xCall R.law_so (aC (x2i (xV 14) (xC (.int 0)) opIx) (aC (x2i (xV 14) (xC (.int 1)) opIx) aN))) (xC (.bool false)) opIsF)) (xV 14)) (xLst aN) opNe)) (sRet (xC (.bool false))) sPass
def P17 (R : Fns) : Mo Fl := sIf (tV (x2 (xCall R.law_so (aC xDict0 (aC (xV 3) aN))) (xCall R.law_so (aC xDict0 (aC (xV 6) aN))) opNe)) (sRet (xC (.bool false))) sPass
def P18 (R : Fns) : Mo Fl := sRet (xOr (x2 (xCall R.law_so (aC (xDisp [((xC (.str "n")), (xV 3))]) (aC (xV 4) aN))) (xC (.bool true)) opNotB) (x2 (xCall R.law_so (aC (xDisp [((xC (.str "n")), (xV 6))]) (aC (xTup (aC (xC (.str "knows")) (aC (xV 5) (aC (xV 4) aN)))) aN))) (xC (.bool false)) opNotB))
theorem m_law_eq (R : Fns) : m_law R = sSeq (P1 R) (sSeq (P2 R) (sSeq (P3 R) (sSeq (P4 R) (sSeq (P5 R) (sSeq (P6 R) (sSeq (P7 R) (sSeq (P8 R) (sSeq (P9 R) (sSeq (P10 R) (sSeq (P11 R) (sSeq (P12 R) (sSeq (P13 R) (sSeq (P14 R) (sSeq (P15 R) (sSeq (P16 R) (sSeq (P17 R) (P18 R))))))))))))))))) := rfl
def stG (d0 : Sl) (d : PyData) (v2 v3 v4 v5 v6 v7 v8 v9 v10 v11 v12 v13 v14 : Sl) : Rho := [d0, some (.own, d), v2, v3, v4, v5, v6, v7, v8, v9, v10, v11, v12, v13, v14]
def askD (q : List (PyData × PyData) × Cl) : PyData := .tuple [.dict q.1, enc q.2]
theorem merge1 (k : Str) (x : PyData) : mergeD [] [(.str k, x)] = [(.str k, x)] := rfl
theorem merge2 (x y : PyData) : mergeD [] [(.str "n", x), (.str "m", y)] = [(.str "n", x), (.str "m", y)] := by
  have nm : (("n" : Str) == "m") = false := by decide
  have mn : (("m" : Str) == "n") = false := by decide
  simp [mergeD, putD, hasD, lookD, keyEq, nm, mn]
theorem e_de2 (a b : PyData × PyData) (ρ : Rho) : dec (some [a, b]) ρ = some (.fresh (.dict (mergeD [] [a, b])), ρ) := (rfl)
theorem add_ll (a b : List PyData) (h : a.length + b.length ≤ 1000) : opAdd (.list a) (.list b) = some (.list (a ++ b)) := if_pos (Nat.le_trans h (by rw [sizeLine_eq]; decide))
/-- a word of the drawn ones, in the law -/
theorem wd_ok (R : Fns) {ns : List Int} (N : NextOk R ns) {d : PyData} (hd : Dr ns d) (a b : Str) (v0 : Sl) (ρ : Rho) : ∃ (x : Str) (d' : PyData), Dr ns d' ∧ x2i (xV 2) (nX R 1 2) opIx (v0 :: some (.own, d) :: some (.own, wsD a b) :: ρ) = some (.kept (.str x), v0 :: some (.own, d') :: some (.own, wsD a b) :: ρ) := by
  obtain ⟨o, d', ho, hd', e⟩ := nX1_ok R N 2 (by decide) (by decide) hd v0 (some (.own, wsD a b) :: ρ)
  have e : nX R 1 2 (v0 :: some (.own, d) :: some (.own, wsD a b) :: ρ) = some (.kept (.int (o : Int)), v0 :: some (.own, d') :: some (.own, wsD a b) :: ρ) := e
  have : o = 0 ∨ o = 1 := by omega
  generalize nX R 1 2 = n0 at *
  rcases this with rfl | rfl
  · exact ⟨a, d', hd', by unfold wsD at *; simp [e]⟩
  · exact ⟨b, d', hd', by unfold wsD at *; simp [e]⟩
theorem law_ok (R : Fns) {ns : List Int} (N : NextOk R ns) (Wo : ∀ d, Dr ns d → ∃ (d' : PyData) (a b : Str), Dr ns d' ∧ R.law_words_drawn [(.lent, d), (.shr, .int 2)] = some (.fresh (wsD a b), some d')) (M2 : MixR R ns 2) (M1 : MixR R ns 1) (C1 : ClR R ns 1)
    (G : ∀ (w y z : Str) (one other p : Cl), Mx 2 one → Mx 1 other → Pc 1 p →
      (∀ q ∈ [([(.str "n", enc (.kn w (.bi .an one other)))], .bi .an (.kn w one) (.kn w other)), ([(.str "n", enc (.bi .an (.kn w one) (.kn w other)))], .kn w (.bi .an one other)), ([(.str "n", enc (.kn w one))], one),
        ([(.str "n", enc (.kn w (.bi .im one other))), (.str "m", enc (.kn w one))], .kn w other), ([], .to p (.kn w p)), ([(.str "n", enc (.to p (.to (.w y) (.kn w (.w z)))))], .to (.bi .an p (.w y)) (.kn w (.w z))), ([(.str "n", enc (.to (.bi .an p (.w y)) (.kn w (.w z))))], .to p (.to (.w y) (.kn w (.w z))))], GoodA R q) ∧
      (∃ r : Bool, R.law_so [(.shr, .dict []), (.shr, enc one)] = some (.kept (.bool r), none) ∧ R.law_so [(.shr, .dict []), (.shr, enc (.kn w one))] = some (.kept (.bool r), none)) ∧
      ∃ r1 r2 : Bool, R.law_so [(.shr, .dict [(.str "n", enc one)]), (.shr, enc other)] = some (.kept (.bool r1), none) ∧ R.law_so [(.shr, .dict [(.str "n", enc (.kn w one))]), (.shr, enc (.kn w other))] = some (.kept (.bool r2), none) ∧ (r1 = true → r2 = true)) :
    runF 1 15 (m_law R) [(.scr, .list (ns.map .int))] = some (.kept (.bool true), none) := by
  have z0 : Dr ns (stD ns 0 0 1) := ⟨0, 0, 1, rfl, by decide, by decide, by decide⟩
  refine run_ex rfl (fun _ => rfl) ?_
  show endR (m_law R [some (.scr, .list (ns.map .int)), none, none, none, none, none, none, none, none, none, none, none, none, none, none]) = _
  have e1 : P1 R [some (.scr, .list (ns.map .int)), none, none, none, none, none, none, none, none, none, none, none, none, none, none] = some (.nx, stG (some (.scr, .list (ns.map .int))) (stD ns 0 0 1) none none none none none none none none none none none none none) := by
    have sc : ∀ ρ, xScr 0 (some (Stt.scr, PyData.list (ns.map .int)) :: ρ) = some (.fresh (.list (ns.map .int)), some (Stt.scr, PyData.list (ns.map .int)) :: ρ) := fun _ => rfl
    unfold P1 stG stD
    simp [sc]
  generalize (some (Stt.scr, PyData.list (ns.map .int)) : Sl) = d0 at *
  generalize stD ns 0 0 1 = d1 at *
  obtain ⟨d2, a, b, hd2, w2⟩ := Wo d1 z0
  have e2 : P2 R (stG d0 d1 none none none none none none none none none none none none none) = some (.nx, stG d0 d2 (some (.own, wsD a b)) none none none none none none none none none none none none) := by
    unfold P2 stG
    generalize wsD a b = W at *
    simp [w2]
  obtain ⟨one, d3, hd3, m3, w3⟩ := M2 a b .bor d2 (.inr rfl) hd2
  have w3 : R.law_mixed [(.lent, d2), (.bor, wsD a b), (.shr, .int 2)] = some (.kept (enc one), some d3) := w3
  have e3 : P3 R (stG d0 d2 (some (.own, wsD a b)) none none none none none none none none none none none none) = some (.nx, stG d0 d3 (some (.own, wsD a b)) (some (.shr, enc one)) none none none none none none none none none none none) := by
    unfold P3 stG
    generalize wsD a b = W at *
    simp [w3]
  obtain ⟨other, d4, hd4, m4, w4⟩ := M1 a b .bor d3 (.inr rfl) hd3
  have w4 : R.law_mixed [(.lent, d3), (.bor, wsD a b), (.shr, .int 1)] = some (.kept (enc other), some d4) := w4
  have e4 : P4 R (stG d0 d3 (some (.own, wsD a b)) (some (.shr, enc one)) none none none none none none none none none none none) = some (.nx, stG d0 d4 (some (.own, wsD a b)) (some (.shr, enc one)) (some (.shr, enc other)) none none none none none none none none none none) := by
    unfold P4 stG
    generalize wsD a b = W at *
    simp [w4]
  obtain ⟨w, d5, hd5, w5⟩ := whoX1_ok R N hd4 d0 [(some (.own, wsD a b)), (some (.shr, enc one)), (some (.shr, enc other)), none, none, none, none, none, none, none, none, none, none]
  have e5 : P5 R (stG d0 d4 (some (.own, wsD a b)) (some (.shr, enc one)) (some (.shr, enc other)) none none none none none none none none none none) = some (.nx, stG d0 d5 (some (.own, wsD a b)) (some (.shr, enc one)) (some (.shr, enc other)) (some (.shr, .str w)) none none none none none none none none none) := by
    show sSet 5 (whoX R 1) _ = _
    unfold stG
    generalize whoX R 1 = f0 at *
    generalize wsD a b = W at *
    simp [w5]
  have e6 : P6 R (stG d0 d5 (some (.own, wsD a b)) (some (.shr, enc one)) (some (.shr, enc other)) (some (.shr, .str w)) none none none none none none none none none) = some (.nx, stG d0 d5 (some (.own, wsD a b)) (some (.shr, enc one)) (some (.shr, enc other)) (some (.shr, .str w)) (some (.shr, enc (.kn w one))) none none none none none none none none) := by
    unfold P6 stG
    generalize wsD a b = W at *
    simp [enc]
  have e7 : P7 R (stG d0 d5 (some (.own, wsD a b)) (some (.shr, enc one)) (some (.shr, enc other)) (some (.shr, .str w)) (some (.shr, enc (.kn w one))) none none none none none none none none) = some (.nx, stG d0 d5 (some (.own, wsD a b)) (some (.shr, enc one)) (some (.shr, enc other)) (some (.shr, .str w)) (some (.shr, enc (.kn w one))) (some (.shr, enc (.bi .an (.kn w one) (.kn w other)))) none none none none none none none) := by
    unfold P7 stG
    generalize wsD a b = W at *
    simp [enc, Op.str]
  obtain ⟨p, d8, hd8, m8, w8⟩ := C1 a b .bor d5 (.inr rfl) hd5
  have w8 : R.law_claim [(.lent, d5), (.bor, wsD a b), (.shr, .int 1)] = some (.kept (enc p), some d8) := w8
  have e8 : P8 R (stG d0 d5 (some (.own, wsD a b)) (some (.shr, enc one)) (some (.shr, enc other)) (some (.shr, .str w)) (some (.shr, enc (.kn w one))) (some (.shr, enc (.bi .an (.kn w one) (.kn w other)))) none none none none none none none) = some (.nx, stG d0 d8 (some (.own, wsD a b)) (some (.shr, enc one)) (some (.shr, enc other)) (some (.shr, .str w)) (some (.shr, enc (.kn w one))) (some (.shr, enc (.bi .an (.kn w one) (.kn w other)))) (some (.shr, enc p)) none none none none none none) := by
    unfold P8 stG
    generalize wsD a b = W at *
    simp [w8]
  obtain ⟨y, d9, hd9, w9⟩ := wd_ok R N hd8 a b d0 [(some (.shr, enc one)), (some (.shr, enc other)), (some (.shr, .str w)), (some (.shr, enc (.kn w one))), (some (.shr, enc (.bi .an (.kn w one) (.kn w other)))), (some (.shr, enc p)), none, none, none, none, none, none]
  have e9 : P9 R (stG d0 d8 (some (.own, wsD a b)) (some (.shr, enc one)) (some (.shr, enc other)) (some (.shr, .str w)) (some (.shr, enc (.kn w one))) (some (.shr, enc (.bi .an (.kn w one) (.kn w other)))) (some (.shr, enc p)) none none none none none none) = some (.nx, stG d0 d9 (some (.own, wsD a b)) (some (.shr, enc one)) (some (.shr, enc other)) (some (.shr, .str w)) (some (.shr, enc (.kn w one))) (some (.shr, enc (.bi .an (.kn w one) (.kn w other)))) (some (.shr, enc p)) (some (.shr, enc (.w y))) none none none none none) := by
    show sSet 9 (xTup (aC (xC (.str "word")) (aC (x2i (xV 2) (nX R 1 2) opIx) aN))) _ = _
    unfold stG
    generalize x2i (xV 2) (nX R 1 2) opIx = f0 at *
    generalize wsD a b = W at *
    simp only [enc] at w9 ⊢
    simp [w9]
  obtain ⟨z, d10, hd10, w10⟩ := wd_ok R N hd9 a b d0 [(some (.shr, enc one)), (some (.shr, enc other)), (some (.shr, .str w)), (some (.shr, enc (.kn w one))), (some (.shr, enc (.bi .an (.kn w one) (.kn w other)))), (some (.shr, enc p)), (some (.shr, enc (.w y))), none, none, none, none, none]
  have e10 : P10 R (stG d0 d9 (some (.own, wsD a b)) (some (.shr, enc one)) (some (.shr, enc other)) (some (.shr, .str w)) (some (.shr, enc (.kn w one))) (some (.shr, enc (.bi .an (.kn w one) (.kn w other)))) (some (.shr, enc p)) (some (.shr, enc (.w y))) none none none none none) = some (.nx, stG d0 d10 (some (.own, wsD a b)) (some (.shr, enc one)) (some (.shr, enc other)) (some (.shr, .str w)) (some (.shr, enc (.kn w one))) (some (.shr, enc (.bi .an (.kn w one) (.kn w other)))) (some (.shr, enc p)) (some (.shr, enc (.w y))) (some (.shr, enc (.kn w (.w z)))) none none none none) := by
    show sSet 10 (xTup (aC (xC (.str "knows")) (aC (xV 5) (aC (xTup (aC (xC (.str "word")) (aC (x2i (xV 2) (nX R 1 2) opIx) aN))) aN)))) _ = _
    unfold stG
    generalize x2i (xV 2) (nX R 1 2) opIx = f0 at *
    generalize wsD a b = W at *
    simp only [enc] at w10 ⊢
    simp [w10]
  have e11 : P11 R (stG d0 d10 (some (.own, wsD a b)) (some (.shr, enc one)) (some (.shr, enc other)) (some (.shr, .str w)) (some (.shr, enc (.kn w one))) (some (.shr, enc (.bi .an (.kn w one) (.kn w other)))) (some (.shr, enc p)) (some (.shr, enc (.w y))) (some (.shr, enc (.kn w (.w z)))) none none none none) = some (.nx, stG d0 d10 (some (.own, wsD a b)) (some (.shr, enc one)) (some (.shr, enc other)) (some (.shr, .str w)) (some (.shr, enc (.kn w one))) (some (.shr, enc (.bi .an (.kn w one) (.kn w other)))) (some (.shr, enc p)) (some (.shr, enc (.w y))) (some (.shr, enc (.kn w (.w z)))) (some (.shr, enc (.to p (.to (.w y) (.kn w (.w z)))))) none none none) := by
    unfold P11 stG
    generalize wsD a b = W at *
    simp [enc]
  have e12 : P12 R (stG d0 d10 (some (.own, wsD a b)) (some (.shr, enc one)) (some (.shr, enc other)) (some (.shr, .str w)) (some (.shr, enc (.kn w one))) (some (.shr, enc (.bi .an (.kn w one) (.kn w other)))) (some (.shr, enc p)) (some (.shr, enc (.w y))) (some (.shr, enc (.kn w (.w z)))) (some (.shr, enc (.to p (.to (.w y) (.kn w (.w z)))))) none none none) = some (.nx, stG d0 d10 (some (.own, wsD a b)) (some (.shr, enc one)) (some (.shr, enc other)) (some (.shr, .str w)) (some (.shr, enc (.kn w one))) (some (.shr, enc (.bi .an (.kn w one) (.kn w other)))) (some (.shr, enc p)) (some (.shr, enc (.w y))) (some (.shr, enc (.kn w (.w z)))) (some (.shr, enc (.to p (.to (.w y) (.kn w (.w z)))))) (some (.shr, enc (.to (.bi .an p (.w y)) (.kn w (.w z))))) none none) := by
    unfold P12 stG
    generalize wsD a b = W at *
    simp [enc, Op.str]
  have e13 : P13 R (stG d0 d10 (some (.own, wsD a b)) (some (.shr, enc one)) (some (.shr, enc other)) (some (.shr, .str w)) (some (.shr, enc (.kn w one))) (some (.shr, enc (.bi .an (.kn w one) (.kn w other)))) (some (.shr, enc p)) (some (.shr, enc (.w y))) (some (.shr, enc (.kn w (.w z)))) (some (.shr, enc (.to p (.to (.w y) (.kn w (.w z)))))) (some (.shr, enc (.to (.bi .an p (.w y)) (.kn w (.w z))))) none none) = some (.nx, stG d0 d10 (some (.own, wsD a b)) (some (.shr, enc one)) (some (.shr, enc other)) (some (.shr, .str w)) (some (.shr, enc (.kn w one))) (some (.shr, enc (.bi .an (.kn w one) (.kn w other)))) (some (.shr, enc p)) (some (.shr, enc (.w y))) (some (.shr, enc (.kn w (.w z)))) (some (.shr, enc (.to p (.to (.w y) (.kn w (.w z)))))) (some (.shr, enc (.to (.bi .an p (.w y)) (.kn w (.w z))))) (some (.own, .list [askD ([(.str "n", enc (.kn w (.bi .an one other)))], .bi .an (.kn w one) (.kn w other)), askD ([(.str "n", enc (.bi .an (.kn w one) (.kn w other)))], .kn w (.bi .an one other)), askD ([(.str "n", enc (.kn w one))], one)])) none) := by
    unfold P13 stG
    generalize wsD a b = W at *
    simp [enc, Op.str, askD, merge1]
  have e14 : P14 R (stG d0 d10 (some (.own, wsD a b)) (some (.shr, enc one)) (some (.shr, enc other)) (some (.shr, .str w)) (some (.shr, enc (.kn w one))) (some (.shr, enc (.bi .an (.kn w one) (.kn w other)))) (some (.shr, enc p)) (some (.shr, enc (.w y))) (some (.shr, enc (.kn w (.w z)))) (some (.shr, enc (.to p (.to (.w y) (.kn w (.w z)))))) (some (.shr, enc (.to (.bi .an p (.w y)) (.kn w (.w z))))) (some (.own, .list [askD ([(.str "n", enc (.kn w (.bi .an one other)))], .bi .an (.kn w one) (.kn w other)), askD ([(.str "n", enc (.bi .an (.kn w one) (.kn w other)))], .kn w (.bi .an one other)), askD ([(.str "n", enc (.kn w one))], one)])) none) = some (.nx, stG d0 d10 (some (.own, wsD a b)) (some (.shr, enc one)) (some (.shr, enc other)) (some (.shr, .str w)) (some (.shr, enc (.kn w one))) (some (.shr, enc (.bi .an (.kn w one) (.kn w other)))) (some (.shr, enc p)) (some (.shr, enc (.w y))) (some (.shr, enc (.kn w (.w z)))) (some (.shr, enc (.to p (.to (.w y) (.kn w (.w z)))))) (some (.shr, enc (.to (.bi .an p (.w y)) (.kn w (.w z))))) (some (.own, .list [askD ([(.str "n", enc (.kn w (.bi .an one other)))], .bi .an (.kn w one) (.kn w other)), askD ([(.str "n", enc (.bi .an (.kn w one) (.kn w other)))], .kn w (.bi .an one other)), askD ([(.str "n", enc (.kn w one))], one), askD ([(.str "n", enc (.kn w (.bi .im one other))), (.str "m", enc (.kn w one))], .kn w other), askD ([], .to p (.kn w p))])) none) := by
    unfold P14 stG
    generalize wsD a b = W at *
    simp [enc, Op.str, askD, merge1, merge2, e_de2, add_ll]
  have e15 : P15 R (stG d0 d10 (some (.own, wsD a b)) (some (.shr, enc one)) (some (.shr, enc other)) (some (.shr, .str w)) (some (.shr, enc (.kn w one))) (some (.shr, enc (.bi .an (.kn w one) (.kn w other)))) (some (.shr, enc p)) (some (.shr, enc (.w y))) (some (.shr, enc (.kn w (.w z)))) (some (.shr, enc (.to p (.to (.w y) (.kn w (.w z)))))) (some (.shr, enc (.to (.bi .an p (.w y)) (.kn w (.w z))))) (some (.own, .list [askD ([(.str "n", enc (.kn w (.bi .an one other)))], .bi .an (.kn w one) (.kn w other)), askD ([(.str "n", enc (.bi .an (.kn w one) (.kn w other)))], .kn w (.bi .an one other)), askD ([(.str "n", enc (.kn w one))], one), askD ([(.str "n", enc (.kn w (.bi .im one other))), (.str "m", enc (.kn w one))], .kn w other), askD ([], .to p (.kn w p))])) none) = some (.nx, stG d0 d10 (some (.own, wsD a b)) (some (.shr, enc one)) (some (.shr, enc other)) (some (.shr, .str w)) (some (.shr, enc (.kn w one))) (some (.shr, enc (.bi .an (.kn w one) (.kn w other)))) (some (.shr, enc p)) (some (.shr, enc (.w y))) (some (.shr, enc (.kn w (.w z)))) (some (.shr, enc (.to p (.to (.w y) (.kn w (.w z)))))) (some (.shr, enc (.to (.bi .an p (.w y)) (.kn w (.w z))))) (some (.own, .list [askD ([(.str "n", enc (.kn w (.bi .an one other)))], .bi .an (.kn w one) (.kn w other)), askD ([(.str "n", enc (.bi .an (.kn w one) (.kn w other)))], .kn w (.bi .an one other)), askD ([(.str "n", enc (.kn w one))], one), askD ([(.str "n", enc (.kn w (.bi .im one other))), (.str "m", enc (.kn w one))], .kn w other), askD ([], .to p (.kn w p)), askD ([(.str "n", enc (.to p (.to (.w y) (.kn w (.w z)))))], .to (.bi .an p (.w y)) (.kn w (.w z))), askD ([(.str "n", enc (.to (.bi .an p (.w y)) (.kn w (.w z))))], .to p (.to (.w y) (.kn w (.w z))))])) none) := by
    unfold P15 stG
    generalize wsD a b = W at *
    simp [enc, Op.str, askD, merge1, add_ll]
  obtain ⟨g1, ⟨r, g2, g3⟩, r1, r2, g4, g5, g6⟩ := G w y z one other p m3 m4 m8
  generalize hA : ([([(.str "n", enc (.kn w (.bi .an one other)))], .bi .an (.kn w one) (.kn w other)), ([(.str "n", enc (.bi .an (.kn w one) (.kn w other)))], .kn w (.bi .an one other)), ([(.str "n", enc (.kn w one))], one), ([(.str "n", enc (.kn w (.bi .im one other))), (.str "m", enc (.kn w one))], .kn w other), ([], .to p (.kn w p)), ([(.str "n", enc (.to p (.to (.w y) (.kn w (.w z)))))], .to (.bi .an p (.w y)) (.kn w (.w z))), ([(.str "n", enc (.to (.bi .an p (.w y)) (.kn w (.w z))))], .to p (.to (.w y) (.kn w (.w z))))] : List (List (PyData × PyData) × Cl)) = AS at g1
  have hL : AS.length = 7 := by rw [← hA]; rfl
  have hm : ([askD ([(.str "n", enc (.kn w (.bi .an one other)))], .bi .an (.kn w one) (.kn w other)), askD ([(.str "n", enc (.bi .an (.kn w one) (.kn w other)))], .kn w (.bi .an one other)), askD ([(.str "n", enc (.kn w one))], one), askD ([(.str "n", enc (.kn w (.bi .im one other))), (.str "m", enc (.kn w one))], .kn w other), askD ([], .to p (.kn w p)), askD ([(.str "n", enc (.to p (.to (.w y) (.kn w (.w z)))))], .to (.bi .an p (.w y)) (.kn w (.w z))), askD ([(.str "n", enc (.to (.bi .an p (.w y)) (.kn w (.w z))))], .to p (.to (.w y) (.kn w (.w z))))] : List PyData) = AS.map askD := by rw [← hA]; rfl
  rw [hm] at e15
  have lc : xLc [14] (iS (xV 13)) (gN 14) (tV (x2 (xCall R.law_so (aC (x2i (xV 14) (xC (.int 0)) opIx) (aC (x2i (xV 14) (xC (.int 1)) opIx) aN))) (xC (.bool false)) opIsF)) (xV 14) (stG d0 d10 (some (.own, wsD a b)) (some (.shr, enc one)) (some (.shr, enc other)) (some (.shr, .str w)) (some (.shr, enc (.kn w one))) (some (.shr, enc (.bi .an (.kn w one) (.kn w other)))) (some (.shr, enc p)) (some (.shr, enc (.w y))) (some (.shr, enc (.kn w (.w z)))) (some (.shr, enc (.to p (.to (.w y) (.kn w (.w z)))))) (some (.shr, enc (.to (.bi .an p (.w y)) (.kn w (.w z))))) (some (.own, .list (AS.map askD))) none) = some (.fresh (.list []), stG d0 d10 (some (.own, wsD a b)) (some (.shr, enc one)) (some (.shr, enc other)) (some (.shr, .str w)) (some (.shr, enc (.kn w one))) (some (.shr, enc (.bi .an (.kn w one) (.kn w other)))) (some (.shr, enc p)) (some (.shr, enc (.w y))) (some (.shr, enc (.kn w (.w z)))) (some (.shr, enc (.to p (.to (.w y) (.kn w (.w z)))))) (some (.shr, enc (.to (.bi .an p (.w y)) (.kn w (.w z))))) (some (.shr, .list (AS.map askD))) none) := by
    have lc := lc_evalT (vs := [14]) (fi := iS (xV 13)) (g := gN 14) (t := tV (x2 (xCall R.law_so (aC (x2i (xV 14) (xC (.int 0)) opIx) (aC (x2i (xV 14) (xC (.int 1)) opIx) aN))) (xC (.bool false)) opIsF)) (fe := xV 14) (ρ := stG d0 d10 (some (.own, wsD a b)) (some (.shr, enc one)) (some (.shr, enc other)) (some (.shr, .str w)) (some (.shr, enc (.kn w one))) (some (.shr, enc (.bi .an (.kn w one) (.kn w other)))) (some (.shr, enc p)) (some (.shr, enc (.w y))) (some (.shr, enc (.kn w (.w z)))) (some (.shr, enc (.to p (.to (.w y) (.kn w (.w z)))))) (some (.shr, enc (.to (.bi .an p (.w y)) (.kn w (.w z))))) (some (.own, .list (AS.map askD))) none) (ρ1 := stG d0 d10 (some (.own, wsD a b)) (some (.shr, enc one)) (some (.shr, enc other)) (some (.shr, .str w)) (some (.shr, enc (.kn w one))) (some (.shr, enc (.bi .an (.kn w one) (.kn w other)))) (some (.shr, enc p)) (some (.shr, enc (.w y))) (some (.shr, enc (.kn w (.w z)))) (some (.shr, enc (.to p (.to (.w y) (.kn w (.w z)))))) (some (.shr, enc (.to (.bi .an p (.w y)) (.kn w (.w z))))) (some (.shr, .list (AS.map askD))) none) (l := AS) (e := askD) (fun _ => false) (fun _ => .none)
      (by unfold stG; generalize wsD a b = W; simp) (by rw [hL]; decide) (fun q hq => ?_)
    · rw [lc]
      unfold stG
      simp [wipeE, restE]
    · obtain ⟨x, gx, hx⟩ := g1 q hq
      refine ⟨[d0, some (.own, d10), some (.own, wsD a b), some (.shr, enc one), some (.shr, enc other), some (.shr, .str w), some (.shr, enc (.kn w one)), some (.shr, enc (.bi .an (.kn w one) (.kn w other))), some (.shr, enc p), some (.shr, enc (.w y)), some (.shr, enc (.kn w (.w z))), some (.shr, enc (.to p (.to (.w y) (.kn w (.w z))))), some (.shr, enc (.to (.bi .an p (.w y)) (.kn w (.w z)))), some (.shr, .list (AS.map askD)), some (.shr, askD q)], by unfold stG; simp [wipeE], [d0, some (.own, d10), some (.own, wsD a b), some (.shr, enc one), some (.shr, enc other), some (.shr, .str w), some (.shr, enc (.kn w one)), some (.shr, enc (.bi .an (.kn w one) (.kn w other))), some (.shr, enc p), some (.shr, enc (.w y)), some (.shr, enc (.kn w (.w z))), some (.shr, enc (.to p (.to (.w y) (.kn w (.w z))))), some (.shr, enc (.to (.bi .an p (.w y)) (.kn w (.w z)))), some (.shr, .list (AS.map askD)), some (.shr, askD q)], ?_, fun _ => by unfold stG; simp [wipeE], fun z => (by cases z)⟩
      generalize wsD a b = W
      unfold askD
      rcases hx with rfl | rfl <;> simp [gx]
  have nn : opNe (.list []) (.list []) = some (.bool false) := by
    have : eqD (.list []) (.list []) = some true := by simp [eqD, PyData.plain, PyData.plainAll, PyData.depth, PyData.depthAll, PyData.eqv, PyData.eqvAll]
    unfold opNe; rw [this]; rfl
  have nb : ∀ x y : Bool, opNe (.bool x) (.bool y) = some (.bool (!(x == y))) := fun x y => by unfold opNe; rw [eqD_bool]; rfl
  have e16 : P16 R (stG d0 d10 (some (.own, wsD a b)) (some (.shr, enc one)) (some (.shr, enc other)) (some (.shr, .str w)) (some (.shr, enc (.kn w one))) (some (.shr, enc (.bi .an (.kn w one) (.kn w other)))) (some (.shr, enc p)) (some (.shr, enc (.w y))) (some (.shr, enc (.kn w (.w z)))) (some (.shr, enc (.to p (.to (.w y) (.kn w (.w z)))))) (some (.shr, enc (.to (.bi .an p (.w y)) (.kn w (.w z))))) (some (.own, .list (AS.map askD))) none) = some (.nx, stG d0 d10 (some (.own, wsD a b)) (some (.shr, enc one)) (some (.shr, enc other)) (some (.shr, .str w)) (some (.shr, enc (.kn w one))) (some (.shr, enc (.bi .an (.kn w one) (.kn w other)))) (some (.shr, enc p)) (some (.shr, enc (.w y))) (some (.shr, enc (.kn w (.w z)))) (some (.shr, enc (.to p (.to (.w y) (.kn w (.w z)))))) (some (.shr, enc (.to (.bi .an p (.w y)) (.kn w (.w z))))) (some (.shr, .list (AS.map askD))) none) := by
    unfold P16
    generalize xLc _ _ _ _ _ = LC at *
    unfold stG at *
    generalize wsD a b = W at *
    simp [lc, nn]
  have e17 : P17 R (stG d0 d10 (some (.own, wsD a b)) (some (.shr, enc one)) (some (.shr, enc other)) (some (.shr, .str w)) (some (.shr, enc (.kn w one))) (some (.shr, enc (.bi .an (.kn w one) (.kn w other)))) (some (.shr, enc p)) (some (.shr, enc (.w y))) (some (.shr, enc (.kn w (.w z)))) (some (.shr, enc (.to p (.to (.w y) (.kn w (.w z)))))) (some (.shr, enc (.to (.bi .an p (.w y)) (.kn w (.w z))))) (some (.shr, .list (AS.map askD))) none) = some (.nx, stG d0 d10 (some (.own, wsD a b)) (some (.shr, enc one)) (some (.shr, enc other)) (some (.shr, .str w)) (some (.shr, enc (.kn w one))) (some (.shr, enc (.bi .an (.kn w one) (.kn w other)))) (some (.shr, enc p)) (some (.shr, enc (.w y))) (some (.shr, enc (.kn w (.w z)))) (some (.shr, enc (.to p (.to (.w y) (.kn w (.w z)))))) (some (.shr, enc (.to (.bi .an p (.w y)) (.kn w (.w z))))) (some (.shr, .list (AS.map askD))) none) := by
    unfold P17 stG
    generalize wsD a b = W at *
    generalize List.map askD AS = AL at *
    simp [g2, g3, nb]
  have e18 : ∃ st, P18 R (stG d0 d10 (some (.own, wsD a b)) (some (.shr, enc one)) (some (.shr, enc other)) (some (.shr, .str w)) (some (.shr, enc (.kn w one))) (some (.shr, enc (.bi .an (.kn w one) (.kn w other)))) (some (.shr, enc p)) (some (.shr, enc (.w y))) (some (.shr, enc (.kn w (.w z)))) (some (.shr, enc (.to p (.to (.w y) (.kn w (.w z)))))) (some (.shr, enc (.to (.bi .an p (.w y)) (.kn w (.w z))))) (some (.shr, .list (AS.map askD))) none) = some (.ret (.kept (.bool true)), st) := by
    unfold P18 stG
    generalize wsD a b = W at *
    generalize List.map askD AS = AL at *
    simp only [enc] at g4 g5 ⊢
    cases r1 with
    | false => exact ⟨_, by simp [g4, merge1]; rfl⟩
    | true =>
      obtain rfl := g6 rfl
      exact ⟨_, by simp [g4, g5, merge1]; rfl⟩
  obtain ⟨st, e18⟩ := e18
  rw [m_law_eq, e_sq, e1, e_sqn, e_sq, e2, e_sqn, e_sq, e3, e_sqn, e_sq, e4, e_sqn, e_sq, e5, e_sqn, e_sq, e6, e_sqn, e_sq, e7, e_sqn, e_sq, e8, e_sqn, e_sq, e9, e_sqn, e_sq, e10, e_sqn, e_sq, e11, e_sqn, e_sq, e12, e_sqn, e_sq, e13, e_sqn, e_sq, e14, e_sqn, e_sq, e15, e_sqn, e_sq, e16, e_sqn, e_sq, e17, e_sqn, e18]
  rfl
end PyK77

/-! the law holds -/
namespace PyK77
open PySem PySem.Spec L2 PyI
theorem one1 {P : Cl → Prop} {a : Cl} (h : P a) : ∀ x ∈ [a], P x := all1 h
theorem good3 (w y z : Str) (one other p : Cl) (h1 : Mx 2 one) (h2 : Mx 1 other) (h3 : Pc 1 p) (k : Nat) (hk : 220 ≤ k) :
    (∀ q ∈ [([(PyData.str "n", enc (.kn w (.bi .an one other)))], Cl.bi .an (.kn w one) (.kn w other)), ([(.str "n", enc (.bi .an (.kn w one) (.kn w other)))], .kn w (.bi .an one other)), ([(.str "n", enc (.kn w one))], one),
        ([(.str "n", enc (.kn w (.bi .im one other))), (.str "m", enc (.kn w one))], .kn w other), ([], .to p (.kn w p)), ([(.str "n", enc (.to p (.to (.w y) (.kn w (.w z)))))], .to (.bi .an p (.w y)) (.kn w (.w z))), ([(.str "n", enc (.to (.bi .an p (.w y)) (.kn w (.w z))))], .to p (.to (.w y) (.kn w (.w z))))], GoodA (lvl (k + 1)) q) ∧
      (∃ r : Bool, (lvl (k + 1)).law_so [(.shr, .dict []), (.shr, enc one)] = some (.kept (.bool r), none) ∧ (lvl (k + 1)).law_so [(.shr, .dict []), (.shr, enc (.kn w one))] = some (.kept (.bool r), none)) ∧
      ∃ r1 r2 : Bool, (lvl (k + 1)).law_so [(.shr, .dict [(.str "n", enc one)]), (.shr, enc other)] = some (.kept (.bool r1), none) ∧ (lvl (k + 1)).law_so [(.shr, .dict [(.str "n", enc (.kn w one))]), (.shr, enc (.kn w other))] = some (.kept (.bool r2), none) ∧ (r1 = true → r2 = true) := by
  obtain ⟨a1, a2, a3⟩ := h1
  obtain ⟨b1, b2, b3⟩ := h2
  have a3 : ext one + 1 ≤ 8 := a3
  have b3 : ext other + 1 ≤ 4 := b3
  have p3 := p3 h3
  have pw := h3.w
  have g1 : GoodA (lvl (k + 1)) ([(.str "n", enc (.kn w (.bi .an one other)))], .bi .an (.kn w one) (.kn w other)) :=
    good_of (nt1 _) (fun h => fit3 (nt1 _) (one1 ⟨by simp only [wt, ext]; omega, by simp only [md]; omega⟩) ⟨by simp only [wt, ext]; omega, by simp only [md]; omega⟩ h) (one1 (by simp only [ext]; omega)) (by simp only [ext]; omega) (v1 w one other) k hk
  have g2 : GoodA (lvl (k + 1)) ([(.str "n", enc (.bi .an (.kn w one) (.kn w other)))], .kn w (.bi .an one other)) :=
    good_of (nt1 _) (fun h => fit3 (nt1 _) (one1 ⟨by simp only [wt, ext]; omega, by simp only [md]; omega⟩) ⟨by simp only [wt, ext]; omega, by simp only [md]; omega⟩ h) (one1 (by simp only [ext]; omega)) (by simp only [ext]; omega) (v2 w one other) k hk
  have g3 : GoodA (lvl (k + 1)) ([(.str "n", enc (.kn w one))], one) :=
    good_of (nt1 _) (fun h => fit3 (nt1 _) (one1 ⟨by simp only [wt, ext]; omega, by simp only [md]; omega⟩) ⟨a1, by omega⟩ h) (one1 (by simp only [ext]; omega)) (by omega) (v3 w one) k hk
  have g4 : GoodA (lvl (k + 1)) ([(.str "n", enc (.kn w (.bi .im one other))), (.str "m", enc (.kn w one))], .kn w other) :=
    good_of (nt2 _ _) (fun h => fit3 (nt2 _ _) (all2 ⟨by simp only [wt, ext]; omega, by simp only [md]; omega⟩ ⟨by simp only [wt, ext]; omega, by simp only [md]; omega⟩) ⟨by simp only [wt, ext]; omega, by simp only [md]; omega⟩ h) (all2 (by simp only [ext]; omega) (by simp only [ext]; omega)) (by simp only [ext]; omega) (v4 w one other) k hk
  have wt5 := wt_tell w h3
  have g5 : GoodA (lvl (k + 1)) ([], .to p (.kn w p)) :=
    good_of nt0 (fun _ => tell_fit nt0 (by simp only [wsum, List.map_nil, List.sum_nil]; omega) (fun _ h => nomatch h) (md_tell w h3)) (fun _ h => nomatch h) (by simp only [ext]; omega) (v5 w h3) k hk
  have wt6 := wt_twice w y z h3
  have wt7 := wt_once w y z h3
  have g6 : GoodA (lvl (k + 1)) ([(.str "n", enc (.to p (.to (.w y) (.kn w (.w z)))))], .to (.bi .an p (.w y)) (.kn w (.w z))) :=
    good_of (nt1 _) (fun _ => tell_fit (nt1 _) (by simp only [wsum, List.map_cons, List.map_nil, List.sum_cons, List.sum_nil]; omega) (one1 (md_twice w y z h3)) (md_once w y z h3)) (one1 (by simp only [ext]; omega)) (by simp only [ext]; omega) (v6 p y (.kn w (.w z))) k hk
  have g7 : GoodA (lvl (k + 1)) ([(.str "n", enc (.to (.bi .an p (.w y)) (.kn w (.w z))))], .to p (.to (.w y) (.kn w (.w z)))) :=
    good_of (nt1 _) (fun _ => tell_fit (nt1 _) (by simp only [wsum, List.map_cons, List.map_nil, List.sum_cons, List.sum_nil]; omega) (one1 (md_once w y z h3)) (md_twice w y z h3)) (one1 (by simp only [ext]; omega)) (by simp only [ext]; omega) (v7 p y (.kn w (.w z))) k hk
  refine ⟨fun q hq => ?_, ?_, ?_⟩
  · simp only [List.mem_cons, List.not_mem_nil, or_false] at hq
    rcases hq with rfl | rfl | rfl | rfl | rfl | rfl | rfl
    · exact g1
    · exact g2
    · exact g3
    · exact g4
    · exact g5
    · exact g6
    · exact g7
  · have s1 := law_so_ok nt0 (c := one) (fun h => fit3 nt0 (fun _ h => nomatch h) ⟨a1, by omega⟩ h) (fun _ h => nomatch h) (by omega) k hk
    have s2 := law_so_ok nt0 (c := .kn w one) (fun h => fit3 nt0 (fun _ h => nomatch h) ⟨by simp only [wt, ext]; omega, by simp only [md]; omega⟩ h) (fun _ h => nomatch h) (by simp only [ext]; omega) k hk
    have e1 : ansD [] one = .bool (bv (Valid [] [one])) := by unfold ansD; rw [if_neg (by simp only [List.map_nil, List.sum_nil]; omega)]
    have e2 : ansD [] (.kn w one) = .bool (bv (Valid [] [one])) := by
      unfold ansD
      rw [if_neg (by simp only [List.map_nil, List.sum_nil, ext]; omega)]
      congr 1
      exact bv_eq (by rw [bv_iff]; exact v8 w one)
    rw [e1] at s1
    rw [e2] at s2
    exact ⟨_, s1, s2⟩
  · have s1 := law_so_ok (nt1 one) (c := other) (fun h => fit3 (nt1 one) (one1 ⟨a1, by omega⟩) ⟨b1, by omega⟩ h) (one1 (by omega)) (by omega) k hk
    have s2 := law_so_ok (nt1 (.kn w one)) (c := .kn w other) (fun h => fit3 (nt1 _) (one1 ⟨by simp only [wt, ext]; omega, by simp only [md]; omega⟩) ⟨by simp only [wt, ext]; omega, by simp only [md]; omega⟩ h) (one1 (by simp only [ext]; omega)) (by simp only [ext]; omega) k hk
    have e1 : ansD [one] other = .bool (bv (Valid [one] [other])) := by unfold ansD; rw [if_neg (by simp only [List.map_cons, List.map_nil, List.sum_cons, List.sum_nil]; omega)]
    have e2 : ansD [.kn w one] (.kn w other) = .bool (bv (Valid [.kn w one] [.kn w other])) := by unfold ansD; rw [if_neg (by simp only [List.map_cons, List.map_nil, List.sum_cons, List.sum_nil, ext]; omega)]
    rw [e1] at s1
    rw [e2] at s2
    exact ⟨_, _, s1, s2, fun h => bv_t (v9 w one other (bv_iff.mp h))⟩
theorem law_holds : Holds := fun ns _ => by
  show (lvl (229 + 1)).law _ = _
  rw [show (lvl (229 + 1)).law = runF 1 15 (m_law (lvl (228 + 1))) from rfl]
  refine law_ok (lvl (228 + 1)) (next_lvl ns 228) (fun d hd => ?_) (mixed_lvl ns 2 _ (by decide)) (mixed_lvl ns 1 _ (by decide)) (claim_lvl ns 1 _ (by decide)) (fun w y z one other p h1 h2 h3 => good3 w y z one other p h1 h2 h3 228 (by decide))
  obtain ⟨d', W, hd', _, hl, e⟩ := words_drawn_ok (lvl (227 + 1)) (next_lvl ns 227) d hd 2 (by decide)
  match W, hl with
  | [a, b], _ => exact ⟨d', a, b, hd', by rw [show (lvl (228 + 1)).law_words_drawn = runF 2 5 (m_law_words_drawn (lvl (227 + 1))) from rfl]; exact e⟩
end PyK77

open PySem PySem.W PyProof.Rows
set_option maxHeartbeats 0 in
theorem PySem.Challenge.cw_loregreat_k77_whole_knowing_and_logic_holds : PySem.Challenge.rw_loregreat_k77_whole_knowing_and_logic.Holds := by
  w_on; o_law; k_head; (case hw => w_witness2)
  k_fill
  refine L2.walk_of (l := PySem.Challenge.rw_loregreat_k77_whole_knowing_and_logic) (n := 63) (k := 230) (x := "script") (CX := fun _ => L2.CX0) (sp := fun w => PyK77.spLaw _) rfl (by decide) rfl ⟨rfl, by decide, by decide⟩ (fun w h Y => PySem.W.kIn_of Y) ?F (fun _ _ a ns hl on hS => ⟨a, ns, rfl, hS, on, hl, fun _ => rfl⟩) (fun _ _ _ _ _ h => h)
  case F =>
    intro w mg fa h KX G hmg
    refine' PyK77.all_mk PyK77.law_holds KX G hmg ?a_extent ?l_extent ?c_extent ?k_extent ?a_reduced ?l_reduced ?c_reduced ?k_reduced ?a_is_view ?y_is_view ?l_is_view ?c_is_view ?k_is_view ?a_is_so ?w0_is_so ?y_is_so ?l_is_so ?c_is_so ?k_is_so ?a_is_left ?l_is_left ?c_is_left ?k_is_left ?a_added ?l_added ?c_added ?k_added ?a_premises ?l_premises ?c_premises ?k_premises ?a_is_shown ?y_is_shown ?l_is_shown ?c_is_shown ?k_is_shown ?a_shown ?l_shown ?c_shown ?k_shown ?a_parted ?l_parted ?c_parted ?k_parted ?a_known ?l_known ?c_known ?k_known ?a_judge_known ?l_judge_known ?c_judge_known ?k_judge_known ?a_law_next ?l_law_next ?c_law_next ?k_law_next ?a_law_claim ?l_law_claim ?c_law_claim ?k_law_claim ?a_law_words_drawn ?l_law_words_drawn ?c_law_words_drawn ?k_law_words_drawn ?a_law_opposite ?l_law_opposite ?c_law_opposite ?k_law_opposite ?a_law_extent ?l_law_extent ?c_law_extent ?k_law_extent ?a_law_so ?l_law_so ?c_law_so ?k_law_so ?a_law_mixed ?l_law_mixed ?c_law_mixed ?k_law_mixed ?a_law ?l_law ?c_law ?k_law ?z_dict ?z_int ?z_isinstance ?z_len ?z_list ?z_range ?z_set ?z_sorted ?z_str ?z_sum ?z_tuple ?z_zip ?t_str_NoneType ?t_str_bool ?t_str_int ?t_str_str ?t_str_list ?t_str_tuple ?t_str_dict ?t_tuple_NoneType ?t_tuple_bool ?t_tuple_int ?t_tuple_str ?t_tuple_list ?t_tuple_tuple ?t_tuple_dict ?a_MOST_KNOWN ?a_NONE ?l_NONE
    (case a_extent => k_is); (case l_extent => k_is); (case c_extent => k_is); (case k_extent => k_is); (case a_reduced => k_is); (case l_reduced => k_is); (case c_reduced => k_is); (case k_reduced => k_is); (case a_is_view => k_is); (case l_is_view => k_is); (case c_is_view => k_is); (case k_is_view => k_is); (case a_is_so => k_is); (case l_is_so => k_is); (case c_is_so => k_is); (case k_is_so => k_is); (case a_is_left => k_is); (case l_is_left => k_is); (case c_is_left => k_is); (case k_is_left => k_is); (case a_added => k_is); (case l_added => k_is); (case c_added => k_is); (case k_added => k_is); (case a_premises => k_is); (case l_premises => k_is); (case c_premises => k_is); (case k_premises => k_is); (case a_is_shown => k_is); (case l_is_shown => k_is); (case c_is_shown => k_is); (case k_is_shown => k_is); (case a_shown => k_is); (case l_shown => k_is); (case c_shown => k_is); (case k_shown => k_is); (case a_parted => k_is); (case l_parted => k_is); (case c_parted => k_is); (case k_parted => k_is); (case a_known => k_is); (case l_known => k_is); (case c_known => k_is); (case k_known => k_is); (case a_judge_known => k_is); (case l_judge_known => k_is); (case c_judge_known => k_is); (case k_judge_known => k_is); (case a_law_next => k_is); (case l_law_next => k_is); (case c_law_next => k_is); (case k_law_next => k_is); (case a_law_claim => k_is); (case l_law_claim => k_is); (case c_law_claim => k_is); (case k_law_claim => k_is); (case a_law_words_drawn => k_is); (case l_law_words_drawn => k_is); (case c_law_words_drawn => k_is); (case k_law_words_drawn => k_is); (case a_law_opposite => k_is); (case l_law_opposite => k_is); (case c_law_opposite => k_is); (case k_law_opposite => k_is); (case a_law_extent => k_is); (case l_law_extent => k_is); (case c_law_extent => k_is); (case k_law_extent => k_is); (case a_law_so => k_is); (case l_law_so => k_is); (case c_law_so => k_is); (case k_law_so => k_is); (case a_law_mixed => k_is); (case l_law_mixed => k_is); (case c_law_mixed => k_is); (case k_law_mixed => k_is); (case a_law => k_is); (case l_law => k_is); (case c_law => k_is); (case k_law => k_is); (case z_dict => k_is); (case z_int => k_is); (case z_isinstance => k_is); (case z_len => k_is); (case z_list => k_is); (case z_range => k_is); (case z_set => k_is); (case z_sorted => k_is); (case z_str => k_is); (case z_sum => k_is); (case z_tuple => k_is); (case z_zip => k_is); (case t_str_NoneType => first | kit_is | rfl); (case t_str_bool => first | kit_is | rfl); (case t_str_int => first | kit_is | rfl); (case t_str_str => first | kit_is | rfl); (case t_str_list => first | kit_is | rfl); (case t_str_tuple => first | kit_is | rfl); (case t_str_dict => first | kit_is | rfl); (case t_tuple_NoneType => first | kit_is | rfl); (case t_tuple_bool => first | kit_is | rfl); (case t_tuple_int => first | kit_is | rfl); (case t_tuple_str => first | kit_is | rfl); (case t_tuple_list => first | kit_is | rfl); (case t_tuple_tuple => first | kit_is | rfl); (case t_tuple_dict => first | kit_is | rfl); (case a_MOST_KNOWN => k_is); (case a_NONE => k_is); (case l_NONE => k_is); (case y_is_view => k_is); (case y_is_so => k_is); (case y_is_shown => k_is); (case w0_is_so => k_is)

