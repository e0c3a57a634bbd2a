import PyProof.Rows.All
import HandS.ForMost
import HandS.ForExc
import HandS.IsInst
import HandS.WideBits
import HandS.Wide
import HandS.SortKw
import HandS.Dict
import PyProof.Rows.TupDisplay
import KE.KeyNested
import KE.SortData
import KE.IntBitsLaws
import HandS.Zip
import HandS.TupAny
import HandS.Deep
import HandS.More
import HandS.SortInts
import HandS.TupSets
import KE.GoesMore
import PyProof.Draws
import PyProof.EnumMake
import HandS.Text
import HandS.TryOnly
import HandS.ExcOwn
import HandS.ExcIs
import HandS.Small
import HandS.Property
import HandS.DictComp
import HandS.Style
import HandS.Conv
import KE.DataMinMax
import PyProof.SeqI3
import PyProof.WalkInts
import PyProof.DictWalks
import HandS.SetKeys
import HandS.Rev
import HandS.SetFor
import HandS.Strs
import PySem.Challenge.RW_bastion_k47_fault_distances
set_option linter.all false
set_option Elab.async false
set_option exponentiation.threshold 10000
section
set_option maxRecDepth 100000
/-! Z: trees, heaps in parts, what a value is worth -/
namespace Z
open PySem PySem.Spec L2
open PyProof.Rows hiding St

/-! ### heaps in parts -/
def emp : Hp := fun _ => none
def one (a : Addr) (o : HO) : Hp := fun b => if b = a then some o else none
def J (xs : List Hp) (H : Hp) : Prop := ∀ a, xs.filterMap (fun A => A a) = (H a).toList
def Le (F F' : Hp) : Prop := ∀ a o, F a = some o → F' a = some o
theorem Le.refl {F : Hp} : Le F F := fun _ _ h => h
theorem Le.trans {F F' F'' : Hp} (h : Le F F') (h' : Le F' F'') : Le F F'' := fun a o e => h' a o (h a o e)

theorem toList_inj {α : Type} {x y : Option α} (h : x.toList = y.toList) : x = y := by
  cases x <;> cases y <;> simp_all
theorem J.uniq {xs : List Hp} {H H' : Hp} (h : J xs H) (h' : J xs H') : H = H' := by
  funext a; exact toList_inj ((h a).symm.trans (h' a))
theorem perm_small {α : Type} {l l' : List α} {o : Option α} (p : l.Perm l') (h : l = o.toList) : l' = o.toList := by
  subst h
  cases o with
  | none => exact List.Perm.nil_eq p |>.symm
  | some v => exact List.perm_singleton.mp p.symm |>.trans rfl
theorem J.perm {xs ys : List Hp} {H : Hp} (h : J xs H) (p : xs.Perm ys) : J ys H := fun a => perm_small (p.filterMap _) (h a)
theorem J.sub {xs : List Hp} {H A : Hp} (h : J xs H) (m : A ∈ xs) : Le A H := fun a o e => by
  have q : o ∈ xs.filterMap (fun A => A a) := List.mem_filterMap.mpr ⟨A, m, e⟩
  rw [h a] at q
  cases r : H a with
  | none => rw [r] at q; simp at q
  | some u => rw [r] at q; simp at q; rw [q]
theorem J.le {xs : List Hp} {H A : Hp} (h : J (A :: xs) H) : Le A H := h.sub (List.mem_cons_self)
theorem J.clear {xs : List Hp} {H A : Hp} (h : J xs H) {a : Addr} (n : H a = none) (m : A ∈ xs) : A a = none := by
  cases r : A a with
  | none => rfl
  | some u => have := h.sub m a u r; rw [n] at this; cases this
theorem J.dis {xs : List Hp} {H A B : Hp} (h : J (A :: xs) H) (m : B ∈ xs) {a : Addr} {o : HO} (e : A a = some o) : B a = none := by
  have q := h a
  rw [List.filterMap_cons, e] at q
  have l : (xs.filterMap fun A => A a).length = 0 := by
    have q2 := congrArg List.length q
    have : (H a).toList.length ≤ 1 := by cases H a <;> simp
    simp at q2
    omega
  have l' : (xs.filterMap fun A => A a) = [] := List.length_eq_zero_iff.mp l
  cases r : B a with
  | none => rfl
  | some u =>
    have : u ∈ xs.filterMap (fun A => A a) := List.mem_filterMap.mpr ⟨B, m, r⟩
    rw [l'] at this; cases this
def un (A B : Hp) : Hp := fun a => (A a).or (B a)
theorem J.join {xs : List Hp} {H A B : Hp} (h : J (A :: B :: xs) H) : J [A, B] (un A B) ∧ J (un A B :: xs) H := by
  have d : ∀ a o, A a = some o → B a = none := fun a o e => h.dis (List.mem_cons_self) e
  refine ⟨fun a => ?_, fun a => ?_⟩
  · cases r : A a with
    | none => cases r' : B a <;> simp [un, List.filterMap, r, r']
    | some u =>
      have e := d a u r
      simp [un, List.filterMap_cons, r, e]
  · have q := h a
    cases r : A a with
    | none =>
      cases r' : B a <;> simp [un, List.filterMap_cons, r, r'] at q ⊢ <;> exact q
    | some u =>
      have e := d a u r
      simp [un, List.filterMap_cons, r, e] at q ⊢; exact q
theorem J.two {A B C : Hp} (h : J [A, B] C) : C = un A B := h.uniq (show J [A, B] (un A B) from (J.join (xs := []) h).1)
theorem J.split {xs : List Hp} {H A B C : Hp} (h : J [A, B] C) (q : J (C :: xs) H) : J (A :: B :: xs) H := fun a => by
  have q1 := q a
  have h1 := h a
  have : (A :: B :: xs).filterMap (fun A => A a) = [A, B].filterMap (fun A => A a) ++ xs.filterMap (fun A => A a) := by
    rw [← List.filterMap_append]; rfl
  rw [this, h1, ← q1]
  cases r : C a <;> simp [List.filterMap_cons, r]
theorem J.emp_iff {xs : List Hp} {H : Hp} : J (emp :: xs) H ↔ J xs H := by
  constructor <;> intro h a <;> have := h a <;> simpa [List.filterMap_cons, emp] using this
theorem J.self {H : Hp} : J [H] H := fun a => by cases r : H a <;> simp [List.filterMap_cons, r]
theorem J.eq1 {A H : Hp} (h : J [A] H) : H = A := h.uniq J.self
theorem J.of_nil {H : Hp} (h : J [] H) : H = emp := by
  funext a
  have := h a
  simp at this
  cases r : H a with
  | none => rfl
  | some u => rw [r] at this; simp at this
theorem J.nil : J [] emp := fun a => by simp [emp]
theorem one_same {a : Addr} {o : HO} : one a o a = some o := by simp [one]
theorem J.alloc {xs : List Hp} {H : Hp} {p : Addr} {o : HO} (h : J xs H) (n : H p = none) : J (one p o :: xs) (upd H p o) := fun a => by
  by_cases e : a = p
  · subst e
    have l : (xs.filterMap fun A => A a) = [] := by rw [h a, n]; rfl
    simp [List.filterMap_cons, one, upd, l]
  · have := h a
    simpa [List.filterMap_cons, one, upd, e] using this
theorem J.write {xs : List Hp} {H : Hp} {p : Addr} {o o' : HO} (h : J (one p o :: xs) H) : J (one p o' :: xs) (upd H p o') := fun a => by
  have q := h a
  by_cases e : a = p
  · subst e
    have l : (xs.filterMap fun A => A a) = [] := by
      have d : ∀ B ∈ xs, B a = none := fun B m => h.dis m (a := a) (o := o) (by simp [one])
      exact List.filterMap_eq_nil_iff.mpr d
    simp [List.filterMap_cons, one, upd, l]
  · simpa [List.filterMap_cons, one, upd, e] using q
theorem J.at {xs : List Hp} {H : Hp} {p : Addr} {o : HO} (h : J (one p o :: xs) H) : H p = some o := h.le p o one_same
theorem map_getD {α : Type} (d : α) : ∀ xs : List α, (List.range xs.length).map (fun i => xs.getD i d) = xs := fun xs => by
  apply List.ext_getElem
  · simp
  · intro i h1 h2
    simp at h1 ⊢
    simp [List.getD, h1]
theorem J.re {xs : List Hp} {H : Hp} (h : J xs H) (p : List Nat) (hp : p.isPerm (List.range xs.length) = true := by rfl) : J (p.map fun i => xs.getD i emp) H := by
  refine h.perm ?_
  have q : p.Perm (List.range xs.length) := List.isPerm_iff.mp hp
  have := (q.map (fun i => xs.getD i emp)).symm
  rwa [map_getD] at this
example (A B C D H : Hp) (h : J [A, B, C, D] H) : J [C, A, D, B] H := h.re [2, 0, 3, 1]
theorem J.nest {xs ys : List Hp} {H B : Hp} (h : J ys B) (q : J (B :: xs) H) : J (ys ++ xs) H := fun a => by
  have q1 := q a
  have h1 := h a
  rw [List.filterMap_append, h1, ← q1]
  cases r : B a <;> simp [List.filterMap_cons, r]

/-! ### trees -/
inductive D where
  | hole | non | bl (b : Bool) | int (i : Int) | str (x : Str)
  | tup (ds : List D)
  | lst (o : Bool) (ds : List D)
  | out (ds : List D)
  | dic (o : Bool) (ks : List Key) (ds : List D)
  | dit (o : Bool) (ks : List (List Key)) (ds : List D)
  | dnk (o : Bool) (ds : List D)
  | ins (o : Bool) (c : Nat) (fs : List Str) (ds : List D)

mutual
/-- the tree as a key: whole numbers and tuples -/
def nk : D → Option NestedKey
  | .int i => some (.num i)
  | .tup ds => (nkL ds).map .tup
  | _ => none
def nkL : List D → Option (List NestedKey)
  | [] => some []
  | d :: ds => (nk d).bind fun k => (nkL ds).map fun ks => k :: ks
end
/-- the dict at a whose keys are these tuples, each worth True -/
def NDP (ds : List D) (vs : List V) (a : Addr) (h : Heap) : Prop := ∃ (ks : List NestedKey) (ps : List Addr) (o : Obj) (es : Array DictEntry) (ep : Nat), (a == sysModules) = false ∧ nkL ds = some ks ∧ vs = ps.map V.ref ∧ h.get? a = some o ∧ o.ExactDict ∧ o.data = .dict es ep ∧
  (∀ w : World, es.toList = (ks.zip ps).map fun x => ⟨x.1.hash w, .ref x.2, .bool true⟩) ∧ ks.Nodup ∧ ks.length = ps.length
def NDx (ds : List D) (vs : List V) (a : Addr) : HO := .ext fun h => NDP ds vs a h
/-- what the text's own names are worth: the written part, the classes -/
structure Gx where
  K : PySem.W.Frag
  cl : Nat → Addr

mutual
def Own (G : Gx) (F : Hp) : D → V → Hp → Prop
  | .hole, _, M => M = emp
  | .non, v, M => v = .non ∧ M = emp
  | .bl b, v, M => v = .bl b ∧ M = emp
  | .int i, v, M => v = .int i ∧ M = emp
  | .str x, v, M => v = .str x ∧ M = emp
  | .tup ds, v, M => ∃ a vs, v = .ref a ∧ ((M = emp ∧ F a = some (.tup vs) ∧ OwnL G F ds vs emp) ∨ ∃ M', J [one a (.tup vs), M'] M ∧ OwnL G F ds vs M')
  | .lst o ds, v, M => ∃ a vs, v = .ref a ∧ ((o = false ∧ M = emp ∧ F a = some (.lst vs) ∧ OwnL G F ds vs emp) ∨ (o = true ∧ ∃ M', J [one a (.lst vs), M'] M ∧ OwnL G F ds vs M'))
  | .out ds, v, M => ∃ a vs, v = .ref a ∧ M = emp ∧ SqL G.K F a vs ∧ OwnL G F ds vs emp
  | .dic o ks ds, v, M => ∃ a vs, v = .ref a ∧ ks.length = ds.length ∧ ((o = false ∧ M = emp ∧ Rd F a (.dK (ks.zip vs)) ∧ OwnL G F ds vs emp) ∨ (o = true ∧ ∃ M', J [one a (.dK (ks.zip vs)), M'] M ∧ OwnL G F ds vs M'))
  | .dit o ks ds, v, M => ∃ a vs, v = .ref a ∧ ks.length = ds.length ∧ ((o = false ∧ M = emp ∧ Rd F a (.dT (ks.zip vs)) ∧ OwnL G F ds vs emp) ∨ (o = true ∧ ∃ M', J [one a (.dT (ks.zip vs)), M'] M ∧ OwnL G F ds vs M'))
  | .dnk o ds, v, M => ∃ a vs, v = .ref a ∧ OwnL G F ds vs emp ∧ ((o = false ∧ M = emp ∧ Rd F a (NDx ds vs a)) ∨ (o = true ∧ M = one a (NDx ds vs a)))
  | .ins o c fs ds, v, M => ∃ a dx vs, v = .ref a ∧ fs.length = ds.length ∧ ((o = false ∧ M = emp ∧ F a = some (.ins (G.cl c) dx (fs.zip vs)) ∧ OwnL G F ds vs emp) ∨ (o = true ∧ ∃ M', J [one a (.ins (G.cl c) dx (fs.zip vs)), M'] M ∧ OwnL G F ds vs M'))
def OwnL (G : Gx) (F : Hp) : List D → List V → Hp → Prop
  | [], vs, M => vs = [] ∧ M = emp
  | d :: ds, vs, M => ∃ v r M1 M2, vs = v :: r ∧ J [M1, M2] M ∧ Own G F d v M1 ∧ OwnL G F ds r M2
end

mutual
/-- all of it is shared -/
def frz : D → D
  | .hole => .hole
  | .non => .non
  | .bl b => .bl b
  | .int i => .int i
  | .str x => .str x
  | .tup ds => .tup (frzL ds)
  | .lst _ ds => .lst false (frzL ds)
  | .out ds => .out (frzL ds)
  | .dic _ ks ds => .dic false ks (frzL ds)
  | .dit _ ks ds => .dit false ks (frzL ds)
  | .dnk _ ds => .dnk false ds
  | .ins _ c fs ds => .ins false c fs (frzL ds)
def frzL : List D → List D
  | [] => []
  | d :: ds => frz d :: frzL ds
end
mutual
/-- nothing of it is owned, and it is whole -/
def shr : D → Bool
  | .hole => false
  | .non => true
  | .bl _ => true
  | .int _ => true
  | .str _ => true
  | .tup ds => shrL ds
  | .lst o ds => !o && shrL ds
  | .out ds => shrL ds
  | .dic o _ ds => !o && shrL ds
  | .dit o _ ds => !o && shrL ds
  | .dnk o _ => !o
  | .ins o _ _ ds => !o && shrL ds
def shrL : List D → Bool
  | [] => true
  | d :: ds => shr d && shrL ds
end
theorem frzL_eq : ∀ ds : List D, frzL ds = ds.map frz
  | [] => rfl
  | d :: ds => by rw [frzL, frzL_eq ds]; rfl
theorem shrL_eq : ∀ ds : List D, shrL ds = ds.all shr
  | [] => rfl
  | d :: ds => by rw [shrL, shrL_eq ds]; rfl

section
variable {G : Gx} {F F' : Hp}
theorem Rd.le {a : Addr} {u : HO} (h : Rd F a u) (l : Le F F') : Rd F' a u := by
  rcases h with h | ⟨o, h⟩
  · exact .inl (l _ _ h)
  · exact .inr ⟨o, l _ _ h⟩
theorem sqL_le {K : PySem.W.Frag} {a : Addr} {xs : List V} (h : SqL K F a xs) (l : Le F F') : SqL K F' a xs := h.imp (fun q => Rd.le q l) id
theorem sqT_le {K : PySem.W.Frag} {a : Addr} {xs : List V} (h : SqT K F a xs) (l : Le F F') : SqT K F' a xs := h.imp (fun q => Rd.le q l) id
mutual
theorem own_le (l : Le F F') : ∀ {d : D} {v : V} {M : Hp}, Own G F d v M → Own G F' d v M
  | .hole, _, _, h => h
  | .non, _, _, h => h
  | .bl _, _, _, h => h
  | .int _, _, _, h => h
  | .str _, _, _, h => h
  | .tup ds, v, M, h => by
    obtain ⟨a, vs, e, h⟩ := h
    refine ⟨a, vs, e, h.imp (fun ⟨m, q, r⟩ => ⟨m, l _ _ q, ownL_le l r⟩) fun ⟨M', j, r⟩ => ⟨M', j, ownL_le l r⟩⟩
  | .lst o ds, v, M, h => by
    obtain ⟨a, vs, e, h⟩ := h
    refine ⟨a, vs, e, h.imp (fun ⟨z, m, q, r⟩ => ⟨z, m, l _ _ q, ownL_le l r⟩) fun ⟨z, M', j, r⟩ => ⟨z, M', j, ownL_le l r⟩⟩
  | .out ds, v, M, h => by
    obtain ⟨a, vs, e, m, q, r⟩ := h
    exact ⟨a, vs, e, m, sqL_le q l, ownL_le l r⟩
  | .dic o ks ds, v, M, h => by
    obtain ⟨a, vs, e, n, h⟩ := h
    refine ⟨a, vs, e, n, h.imp (fun ⟨z, m, q, r⟩ => ⟨z, m, Rd.le q l, ownL_le l r⟩) fun ⟨z, M', j, r⟩ => ⟨z, M', j, ownL_le l r⟩⟩
  | .dit o ks ds, v, M, h => by
    obtain ⟨a, vs, e, n, h⟩ := h
    refine ⟨a, vs, e, n, h.imp (fun ⟨z, m, q, r⟩ => ⟨z, m, Rd.le q l, ownL_le l r⟩) fun ⟨z, M', j, r⟩ => ⟨z, M', j, ownL_le l r⟩⟩
  | .dnk o ds, v, M, h => by
    obtain ⟨a, vs, e, w, h⟩ := h
    exact ⟨a, vs, e, ownL_le l w, h.imp (fun ⟨z, m, q⟩ => ⟨z, m, Rd.le q l⟩) fun ⟨z, m⟩ => ⟨z, m⟩⟩
  | .ins o c fs ds, v, M, h => by
    obtain ⟨a, dx, vs, e, n, h⟩ := h
    refine ⟨a, dx, vs, e, n, h.imp (fun ⟨z, m, q, r⟩ => ⟨z, m, l _ _ q, ownL_le l r⟩) fun ⟨z, M', j, r⟩ => ⟨z, M', j, ownL_le l r⟩⟩
theorem ownL_le (l : Le F F') : ∀ {ds : List D} {vs : List V} {M : Hp}, OwnL G F ds vs M → OwnL G F' ds vs M
  | [], _, _, h => h
  | d :: ds, vs, M, h => by
    obtain ⟨v, r, M1, M2, e, j, h1, h2⟩ := h
    exact ⟨v, r, M1, M2, e, j, own_le l h1, ownL_le l h2⟩
end
theorem un_left {A B : Hp} : Le A (un A B) := fun a o e => by simp [un, e]
theorem J.le_un {xs : List Hp} {H A B : Hp} (h : J (A :: B :: xs) H) : Le B (un A B) := h.join.1.sub (by simp)
theorem J.emps : J [emp, emp] emp := J.emp_iff.mpr (J.emp_iff.mpr J.nil)
/-! what is owned may be given into the shared part -/
mutual
theorem own_frz : ∀ {d : D} {v : V} {M : Hp}, Own G F d v M → Le F F' → Le M F' → Own G F' (frz d) v emp
  | .hole, _, _, _, _, _ => rfl
  | .non, _, _, h, _, _ => ⟨h.1, rfl⟩
  | .bl _, _, _, h, _, _ => ⟨h.1, rfl⟩
  | .int _, _, _, h, _, _ => ⟨h.1, rfl⟩
  | .str _, _, _, h, _, _ => ⟨h.1, rfl⟩
  | .tup ds, v, M, h, l, m => by
    obtain ⟨a, vs, e, h⟩ := h
    rcases h with ⟨z, q, r⟩ | ⟨M', j, r⟩
    · exact ⟨a, vs, e, .inl ⟨rfl, l _ _ q, ownL_frz r l fun _ _ e => nomatch e⟩⟩
    · exact ⟨a, vs, e, .inl ⟨rfl, m _ _ (j.le _ _ one_same), ownL_frz r l ((j.sub (by simp)).trans m)⟩⟩
  | .lst o ds, v, M, h, l, m => by
    obtain ⟨a, vs, e, h⟩ := h
    rcases h with ⟨z, z', q, r⟩ | ⟨z, M', j, r⟩
    · exact ⟨a, vs, e, .inl ⟨rfl, rfl, l _ _ q, ownL_frz r l fun _ _ e => nomatch e⟩⟩
    · exact ⟨a, vs, e, .inl ⟨rfl, rfl, m _ _ (j.le _ _ one_same), ownL_frz r l ((j.sub (by simp)).trans m)⟩⟩
  | .out ds, v, M, h, l, m => by
    obtain ⟨a, vs, e, z, q, r⟩ := h
    exact ⟨a, vs, e, rfl, sqL_le q l, ownL_frz r l fun _ _ e => nomatch e⟩
  | .dic o ks ds, v, M, h, l, m => by
    obtain ⟨a, vs, e, n, h⟩ := h
    rcases h with ⟨z, z', q, r⟩ | ⟨z, M', j, r⟩
    · exact ⟨a, vs, e, by rw [n, frzL_eq, List.length_map], .inl ⟨rfl, rfl, Rd.le q l, ownL_frz r l fun _ _ e => nomatch e⟩⟩
    · exact ⟨a, vs, e, by rw [n, frzL_eq, List.length_map], .inl ⟨rfl, rfl, .inl (m _ _ (j.le _ _ one_same)), ownL_frz r l ((j.sub (by simp)).trans m)⟩⟩
  | .dit o ks ds, v, M, h, l, m => by
    obtain ⟨a, vs, e, n, h⟩ := h
    rcases h with ⟨z, z', q, r⟩ | ⟨z, M', j, r⟩
    · exact ⟨a, vs, e, by rw [n, frzL_eq, List.length_map], .inl ⟨rfl, rfl, Rd.le q l, ownL_frz r l fun _ _ e => nomatch e⟩⟩
    · exact ⟨a, vs, e, by rw [n, frzL_eq, List.length_map], .inl ⟨rfl, rfl, .inl (m _ _ (j.le _ _ one_same)), ownL_frz r l ((j.sub (by simp)).trans m)⟩⟩
  | .dnk o ds, v, M, h, l, m => by
    obtain ⟨a, vs, e, w, h⟩ := h
    rcases h with ⟨z, z', q⟩ | ⟨z, q⟩
    · exact ⟨a, vs, e, ownL_le l w, .inl ⟨rfl, rfl, Rd.le q l⟩⟩
    · exact ⟨a, vs, e, ownL_le l w, .inl ⟨rfl, rfl, .inl (m _ _ (by rw [q]; exact one_same))⟩⟩
  | .ins o c fs ds, v, M, h, l, m => by
    obtain ⟨a, dx, vs, e, n, h⟩ := h
    rcases h with ⟨z, z', q, r⟩ | ⟨z, M', j, r⟩
    · exact ⟨a, dx, vs, e, by rw [n, frzL_eq, List.length_map], .inl ⟨rfl, rfl, l _ _ q, ownL_frz r l fun _ _ e => nomatch e⟩⟩
    · exact ⟨a, dx, vs, e, by rw [n, frzL_eq, List.length_map], .inl ⟨rfl, rfl, m _ _ (j.le _ _ one_same), ownL_frz r l ((j.sub (by simp)).trans m)⟩⟩
theorem ownL_frz : ∀ {ds : List D} {vs : List V} {M : Hp}, OwnL G F ds vs M → Le F F' → Le M F' → OwnL G F' (frzL ds) vs emp
  | [], _, _, h, _, _ => ⟨h.1, rfl⟩
  | d :: ds, vs, M, h, l, m => by
    obtain ⟨v, r, M1, M2, e, j, h1, h2⟩ := h
    exact ⟨v, r, emp, emp, e, J.emps, own_frz h1 l ((j.sub (by simp)).trans m), ownL_frz h2 l ((j.sub (by simp)).trans m)⟩
end
mutual
theorem frz_shr : ∀ {d : D}, shr d = true → frz d = d
  | .hole, _ => rfl
  | .non, _ => rfl
  | .bl _, _ => rfl
  | .int _, _ => rfl
  | .str _, _ => rfl
  | .tup ds, h => by rw [shr] at h; rw [frz, frzL_shr h]
  | .lst o ds, h => by rw [shr, Bool.and_eq_true] at h; rw [frz, frzL_shr h.2]; cases o <;> simp_all
  | .out ds, h => by rw [shr] at h; rw [frz, frzL_shr h]
  | .dic o _ ds, h => by rw [shr, Bool.and_eq_true] at h; rw [frz, frzL_shr h.2]; cases o <;> simp_all
  | .dit o _ ds, h => by rw [shr, Bool.and_eq_true] at h; rw [frz, frzL_shr h.2]; cases o <;> simp_all
  | .dnk o ds, h => by cases o <;> simp_all [shr, frz]
  | .ins o _ _ ds, h => by rw [shr, Bool.and_eq_true] at h; rw [frz, frzL_shr h.2]; cases o <;> simp_all
theorem frzL_shr : ∀ {ds : List D}, shrL ds = true → frzL ds = ds
  | [], _ => rfl
  | d :: ds, h => by rw [shrL, Bool.and_eq_true] at h; rw [frzL, frz_shr h.1, frzL_shr h.2]
end
end
end Z

end
section
set_option maxRecDepth 100000
/-! Z: slots, outcomes, readings -/
namespace Z
open PySem PySem.Spec L2
open PyProof.Rows hiding St
abbrev Env := List D
section
variable {G : Gx} {F F' : Hp}
def OwnO (G : Gx) (F : Hp) (d : D) (ov : Option V) (M : Hp) : Prop := (d = .hole ∧ M = emp) ∨ ∃ v, ov = some v ∧ Own G F d v M
theorem ownO_le (l : Le F F') {d : D} {ov : Option V} {M : Hp} (h : OwnO G F d ov M) : OwnO G F' d ov M := h.imp id fun ⟨v, e, q⟩ => ⟨v, e, own_le l q⟩
def Rel (G : Gx) (F : Hp) : Env → St → Hp → Prop
  | [], σ, M => σ = [] ∧ M = emp
  | d :: ρ, σ, M => ∃ ov r M1 M2, σ = ov :: r ∧ J [M1, M2] M ∧ OwnO G F d ov M1 ∧ Rel G F ρ r M2
theorem rel_le (l : Le F F') : ∀ {ρ : Env} {σ : St} {M : Hp}, Rel G F ρ σ M → Rel G F' ρ σ M
  | [], _, _, h => h
  | d :: ρ, σ, M, h => by
    obtain ⟨ov, r, M1, M2, e, j, h1, h2⟩ := h
    exact ⟨ov, r, M1, M2, e, j, ownO_le l h1, rel_le l h2⟩
theorem rel_len : ∀ {ρ : Env} {σ : St} {M : Hp}, Rel G F ρ σ M → σ.length = ρ.length
  | [], _, _, h => by rw [h.1]; rfl
  | d :: ρ, σ, M, h => by
    obtain ⟨ov, r, M1, M2, e, j, h1, h2⟩ := h
    rw [e, List.length_cons, List.length_cons, rel_len h2]
/-- one slot, and what stands in its place -/
theorem rel_at : ∀ {ρ : Env} {σ : St} {M : Hp} {i : Nat} {d : D}, Rel G F ρ σ M → ρ[i]? = some d → ∃ ov M1 Mr, σ[i]? = some ov ∧ J [M1, Mr] M ∧ OwnO G F d ov M1 ∧
    ∀ F' d' ov' M1' M', Le F F' → OwnO G F' d' ov' M1' → J [M1', Mr] M' → Rel G F' (ρ.set i d') (σ.set i ov') M'
  | [], _, _, _, _, _, e => by simp at e
  | d :: ρ, σ, M, 0, d0, h, e => by
    obtain ⟨ov, r, M1, M2, rfl, j, h1, h2⟩ := h
    simp at e; subst e
    exact ⟨ov, M1, M2, rfl, j, h1, fun F' d' ov' M1' M' l q j' => ⟨ov', r, M1', M2, rfl, j', q, rel_le l h2⟩⟩
  | d :: ρ, σ, M, i + 1, d0, h, e => by
    obtain ⟨ov, r, M1, M2, rfl, j, h1, h2⟩ := h
    obtain ⟨ov2, M3, Mr, e2, j2, q, k⟩ := rel_at (i := i) h2 (by simpa using e)
    have jj : J [M3, Mr, M1] M := J.nest (xs := [M1]) j2 (j.re [1, 0])
    obtain ⟨B, b1, b2⟩ : ∃ B, J [M1, Mr] B ∧ J [M3, B] M := ⟨_, (jj.re [2, 1, 0]).join.1, (jj.re [2, 1, 0]).join.2.re [1, 0]⟩
    refine ⟨ov2, M3, B, by simpa using e2, b2, q, fun F' d' ov' M1' M' l q' j' => ?_⟩
    have j3 : J [M1, Mr, M1'] M' := J.nest (xs := [M1']) b1 (j'.re [1, 0])
    exact ⟨ov, _, M1, _, rfl, (j3.re [2, 1, 0]).join.2.re [1, 0], ownO_le l h1, k F' d' ov' M1' _ l q' ((j3.re [2, 1, 0]).join.1)⟩
theorem set_self {α : Type} : ∀ {l : List α} {i : Nat} {x : α}, l[i]? = some x → l.set i x = l
  | [], _, _, _ => rfl
  | a :: l, 0, x, e => by simp at e; subst e; rfl
  | a :: l, i + 1, x, e => by simp at e; simp [set_self e]
end

/-! ### outcomes -/
inductive O (α : Type) where
  | ok (a : α) (ρ : Env) | ex (k : Nat) (ρ : Env) | no
abbrev M (α : Type) := Env → O α
def O.bind {α β : Type} (x : O α) (f : α → Env → O β) : O β := match x with
  | .ok a ρ => f a ρ
  | .ex k ρ => .ex k ρ
  | .no => .no
inductive Fl where
  | nx | bk | ct | rt (d : D)

section
variable (G : Gx) (Φ : St → Prop) (E : St → XK)
/-- an exception leaves: what is wanted -/
def PX (σ : St) (F R : Hp) (k : Nat) (ρ' : Env) : Prop := ∀ F' N' H', Le F F' → J [F', N', R] H' → Rel G F' ρ' σ N' → E σ (.ref (G.cl k)) none H'
def PostE (c : Bool) (σ : St) (F R H : Hp) (Q : VK) : O D → Prop
  | .ok d ρ' => ∀ v F' N' T H', Le F F' → (c = true → Le H H') → J [F', N', T, R] H' → Rel G F' ρ' σ N' → Own G F' d v T → Q v H'
  | .ex k ρ' => PX G E σ F R k ρ'
  | .no => False
def PostB (c : Bool) (σ : St) (F R H : Hp) (Q : Bool → Hp → Prop) : O Bool → Prop
  | .ok b ρ' => ∀ F' N' H', Le F F' → (c = true → Le H H') → J [F', N', R] H' → Rel G F' ρ' σ N' → Q b H'
  | .ex k ρ' => PX G E σ F R k ρ'
  | .no => False
def PostA (c : Bool) (σ : St) (F R H : Hp) (Q : List V → Hp → Prop) : O (List D) → Prop
  | .ok ds ρ' => ∀ vs F' N' T H', Le F F' → (c = true → Le H H') → J [F', N', T, R] H' → Rel G F' ρ' σ N' → OwnL G F' ds vs T → Q vs H'
  | .ex k ρ' => PX G E σ F R k ρ'
  | .no => False
def Here (σ : St) (F N R H : Hp) (ρ : Env) : Prop := J [F, N, R] H ∧ Rel G F ρ σ N ∧ Φ σ
def tE (c : Bool) (m : M D) : TE := fun σ H Q => ∃ F N R ρ, Here G Φ σ F N R H ρ ∧ PostE G E c σ F R H Q (m ρ)
def tB (c : Bool) (m : M Bool) : TT := fun σ H Q => ∃ F N R ρ, Here G Φ σ F N R H ρ ∧ PostB G E c σ F R H Q (m ρ)
def tA (c : Bool) (m : M (List D)) : TA := fun σ H Q => ∃ F N R ρ, Here G Φ σ F N R H ρ ∧ PostA G E c σ F R H Q (m ρ)
def PostS (F R : Hp) (D : Ends) : O Fl → Prop
  | .ok .nx ρ' => ∀ F' N' H' σ', Le F F' → Here G Φ σ' F' N' R H' ρ' → D.nx σ' H'
  | .ok .bk ρ' => ∀ F' N' H' σ', Le F F' → Here G Φ σ' F' N' R H' ρ' → D.bk σ' H'
  | .ok .ct ρ' => ∀ F' N' H' σ', Le F F' → Here G Φ σ' F' N' R H' ρ' → D.ct σ' H'
  | .ok (.rt d) ρ' => ∀ v F' N' T H' σ', Le F F' → J [F', N', T, R] H' → Rel G F' ρ' σ' N' → Φ σ' → Own G F' d v T → D.rt v H'
  | .ex k ρ' => ∀ σ', Φ σ' → PX G E σ' F R k ρ'
  | .no => False
def tS (m : M Fl) : TS := fun D σ H => ∃ F N R ρ, Here G Φ σ F N R H ρ ∧ PostS G Φ E F R D (m ρ)
end

section
variable {G : Gx} {Φ : St → Prop} {E : St → XK} {σ : St} {F F' N R T H H' : Hp} {ρ : Env}
theorem Here.le (h : Here G Φ σ F N R H ρ) {F' H' : Hp} (l : Le F F') (j : J [F', N, R] H') : Here G Φ σ F' N R H' ρ := ⟨j, rel_le l h.2.1, h.2.2⟩
/-- a part that nobody needs is given to the shared -/
theorem J.give {A B C : Hp} {xs : List Hp} (h : J (A :: B :: C :: xs) H) : J (un A C :: B :: xs) H ∧ Le A (un A C) ∧ Le C (un A C) := by
  have h' : J (A :: C :: B :: xs) H := h.perm ((List.Perm.swap _ _ _).cons A)
  exact ⟨h'.join.2, un_left, h'.le_un⟩
theorem J.hide {A B C D : Hp} (h : J [A, B, C, D] H) : J [A, B, un C D] H := ((h.re [2, 3, 0, 1]).join.2).re [1, 2, 0]
theorem J.unhide {A B C D : Hp} {ys : List Hp} (j : J [C, D] (un C D)) (h : J (A :: B :: un C D :: ys) H) : J (A :: B :: C :: D :: ys) H := by
  have h1 : J (un C D :: A :: B :: ys) H := h.perm (((List.Perm.swap _ _ _).cons A).trans (.swap _ _ _))
  have h2 : J (C :: D :: A :: B :: ys) H := h1 |> J.split j
  have p : (C :: D :: A :: B :: ys).Perm (A :: B :: C :: D :: ys) := by
    refine (List.perm_append_comm_assoc [C, D] [A, B] ys).trans (.refl _)
  exact h2.perm p
theorem PX.le {k : Nat} (h : PX G E σ F R k ρ) (l : Le F F') : PX G E σ F' R k ρ := fun F2 N' H' l' => h F2 N' H' (l.trans l')
/-- more stood by: it is given to the shared -/
theorem PX.more {k : Nat} (h : PX G E σ F R k ρ) (l : Le F F') (j : J [T, R] (un T R)) : PX G E σ F' (un T R) k ρ := fun F2 N' H' l' j' r => by
  have q := (J.unhide (ys := []) j j').give
  exact h _ N' H' ((l.trans l').trans q.2.1) q.1 (rel_le q.2.1 r)
theorem PostS.le {D : Ends} {o : O Fl} (h : PostS G Φ E F R D o) (l : Le F F') : PostS G Φ E F' R D o := by
  cases o with
  | no => exact h
  | ex k ρ' => exact fun σ' f => (h σ' f).le l
  | ok a ρ' =>
    cases a with
    | nx => exact fun F2 N' H' σ' l' => h F2 N' H' σ' (l.trans l')
    | bk => exact fun F2 N' H' σ' l' => h F2 N' H' σ' (l.trans l')
    | ct => exact fun F2 N' H' σ' l' => h F2 N' H' σ' (l.trans l')
    | rt d => exact fun v F2 N' T H' σ' l' => h v F2 N' T H' σ' (l.trans l')
end

/-! ### the judgements -/
section
variable (X : Cx) (cl : Nat → Addr) (Φ : St → Prop) (E : St → XK)
abbrev gx : Gx := ⟨X.K, cl⟩
structure RE (c : Bool) (e : Expr) (m : M D) : Prop where
  pe : PE X e (tE (gx X cl) Φ E c m)
structure RB (c : Bool) (e : Expr) (m : M Bool) : Prop where
  pt : PT X e (tB (gx X cl) Φ E c m)
structure RA (c : Bool) (es : List Expr) (m : M (List D)) : Prop where
  pa : PA X es (tA (gx X cl) Φ E c m)
structure RS (st : Stmt) (m : M Fl) : Prop where
  ps : PS X st (tS (gx X cl) Φ E m)
structure RSs (sts : List Stmt) (m : M Fl) : Prop where
  pss : PSs X sts (tS (gx X cl) Φ E m)
end
theorem _root_.L2.PE.weak {X : Cx} {e : Expr} {t t' : TE} (h : PE X e t) (w : ∀ σ H Q, t' σ H Q → t σ H Q) : PE X e t' := ⟨fun pins s σ H Q I q => h.run pins s σ H Q I (w σ H Q q)⟩
theorem _root_.L2.PT.weak {X : Cx} {e : Expr} {t t' : TT} (h : PT X e t) (w : ∀ σ H Q, t' σ H Q → t σ H Q) : PT X e t' := ⟨fun pins s σ H Q I q => h.run pins s σ H Q I (w σ H Q q)⟩
theorem _root_.L2.PA.weak {X : Cx} {e : List Expr} {t t' : TA} (h : PA X e t) (w : ∀ σ H Q, t' σ H Q → t σ H Q) : PA X e t' := ⟨fun pos pins s σ H Q I q => h.run pos pins s σ H Q I (w σ H Q q)⟩
theorem _root_.L2.PS.weak {X : Cx} {e : Stmt} {t t' : TS} (h : PS X e t) (w : ∀ D σ H, t' D σ H → t D σ H) : PS X e t' := ⟨fun pins s σ H D I q => h.run pins s σ H D I (w D σ H q)⟩
theorem _root_.L2.PSs.weak {X : Cx} {e : List Stmt} {t t' : TS} (h : PSs X e t) (w : ∀ D σ H, t' D σ H → t D σ H) : PSs X e t' := ⟨fun pins s σ H D I q => h.run pins s σ H D I (w D σ H q)⟩

/-! ### names, constants -/
def mK (d : D) : M D := fun ρ => .ok d ρ
/-- a name is read; if what it holds is owned, it is shared from now on -/
def mVar (i : Nat) : M D := fun ρ => match ρ[i]? with
  | some .hole => .no
  | some d => if shr d then .ok d ρ else .ok (frz d) (ρ.set i (frz d))
  | none => .no
/-- a name is read for the last time -/
def mMov (i : Nat) : M D := fun ρ => match ρ[i]? with
  | some .hole => .no
  | some d => if shr d then .ok d ρ else .ok d (ρ.set i .hole)
  | none => .no
section
variable {X : Cx} {cl : Nat → Addr} {Φ : St → Prop} {E : St → XK}
theorem postE_pure {G : Gx} {c : Bool} {σ : St} {F N R H : Hp} {ρ : Env} {Q : VK} {d : D} {v : V} (h : Here G Φ σ F N R H ρ) (q : PostE G E c σ F R H Q (.ok d ρ)) (o : Own G F d v emp) : Q v H :=
  q v F N emp H (Le.refl) (fun _ => Le.refl) ((J.emp_iff.mpr (h.1.re [2, 0, 1])).re [2, 3, 0, 1]) h.2.1 o
theorem re_k {c : Bool} {e : Expr} {v : V} {d : D} (h : PE X e (tC v)) (o : ∀ F, Own (gx X cl) F d v emp) : RE X cl Φ E c e (mK d) :=
  ⟨h.weak fun σ H Q ⟨F, N, R, ρ, a, q⟩ => postE_pure a q (o F)⟩
theorem re_int {c : Bool} {i : Int} {j : Nat} {pos : Pos} : RE X cl Φ E c (.Constant (.int i) j pos) (mK (.int i)) := re_k pe_int fun _ => ⟨rfl, rfl⟩
theorem re_bl {c : Bool} {b : Bool} {j : Nat} {pos : Pos} : RE X cl Φ E c (.Constant (.bool b) j pos) (mK (.bl b)) := re_k pe_bl fun _ => ⟨rfl, rfl⟩
theorem re_non {c : Bool} {j : Nat} {pos : Pos} : RE X cl Φ E c (.Constant .none j pos) (mK .non) := re_k pe_non fun _ => ⟨rfl, rfl⟩
theorem re_str {c : Bool} {x : Str} {j : Nat} {pos : Pos} : RE X cl Φ E c (.Constant (.str x) j pos) (mK (.str x)) := re_k pe_str fun _ => ⟨rfl, rfl⟩
theorem own_shr_mem {G : Gx} {F F' : Hp} {d : D} {v : V} {M : Hp} (h : Own G F d v M) (s : shr d = true) (l : Le F F') (m : Le M F') : Own G F' d v emp := by
  have := own_frz h l m
  rwa [frz_shr s] at this
theorem ownO_of {G : Gx} {F : Hp} {d : D} {ov : Option V} {M : Hp} (h : OwnO G F d ov M) (n : d ≠ .hole) : ∃ v, ov = some v ∧ Own G F d v M := h.resolve_left fun z => n z.1
theorem mVar_cases {i : Nat} {ρ ρ' : Env} {d : D} (h : mVar i ρ = .ok d ρ') : ∃ d0, ρ[i]? = some d0 ∧ d0 ≠ .hole ∧ d = frz d0 ∧ ρ' = ρ.set i (frz d0) := by
  unfold mVar at h
  split at h
  · cases h
  · rename_i d0 hn e
    split at h
    · rename_i s
      cases h
      exact ⟨_, e, hn, (frz_shr s).symm, by rw [frz_shr s, set_self e]⟩
    · cases h
      exact ⟨_, e, hn, rfl, rfl⟩
  · cases h
theorem mVar_noex {i k : Nat} {ρ ρ' : Env} : mVar i ρ ≠ .ex k ρ' := by
  unfold mVar
  split
  · simp
  · split <;> simp
  · simp
theorem mMov_noex {i k : Nat} {ρ ρ' : Env} : mMov i ρ ≠ .ex k ρ' := by
  unfold mMov
  split
  · simp
  · split <;> simp
  · simp
theorem re_var {c : Bool} {i : Nat} {x : Str} {pos : Pos} (hp : PE X (.Name x pos) (tVar i)) : RE X cl Φ E c (.Name x pos) (mVar i) := by
  refine ⟨hp.weak fun σ H Q ⟨F, N, R, ρ, a, q⟩ => ?_⟩
  cases e : mVar i ρ with
  | no => rw [e] at q; exact q.elim
  | ex k ρ' => exact absurd e mVar_noex
  | ok d ρ' =>
    rw [e] at q
    obtain ⟨d0, e0, hn, rfl, rfl⟩ := mVar_cases e
    obtain ⟨ov, M1, Mr, e1, j, w, kk⟩ := rel_at a.2.1 e0
    obtain ⟨v, rfl, w1⟩ := ownO_of w hn
    refine ⟨v, e1, ?_⟩
    have j1 : J [M1, Mr, F, R] H := J.nest (xs := [F, R]) j (a.1.re [1, 0, 2])
    have j2 := (j1.re [2, 1, 0, 3]).give
    have r2 := kk (un F M1) (frz d0) (some v) emp Mr j2.2.1 (.inr ⟨v, rfl, own_frz w1 j2.2.1 j2.2.2⟩) (J.emp_iff.mpr J.self)
    rw [set_self e1] at r2
    exact q v _ Mr emp H j2.2.1 (fun _ => Le.refl) ((J.emp_iff.mpr j2.1).re [1, 2, 0, 3]) r2 (own_frz w1 j2.2.1 j2.2.2)
theorem re_mov {c : Bool} {i : Nat} {x : Str} {pos : Pos} (hp : PE X (.Name x pos) (tVar i)) : RE X cl Φ E c (.Name x pos) (mMov i) := by
  refine ⟨hp.weak fun σ H Q ⟨F, N, R, ρ, a, q⟩ => ?_⟩
  unfold mMov at q
  split at q
  · exact q.elim
  · rename_i d0 hn e0
    obtain ⟨ov, M1, Mr, e1, j, w, kk⟩ := rel_at a.2.1 e0
    obtain ⟨v, rfl, w1⟩ := ownO_of w hn
    refine ⟨v, e1, ?_⟩
    have j1 : J [M1, Mr, F, R] H := J.nest (xs := [F, R]) j (a.1.re [1, 0, 2])
    split at q
    · rename_i s
      have j2 := (j1.re [2, 1, 0, 3]).give
      have r2 := kk (un F M1) d0 (some v) emp Mr j2.2.1 (.inr ⟨v, rfl, own_shr_mem w1 s j2.2.1 j2.2.2⟩) (J.emp_iff.mpr J.self)
      rw [set_self e1, set_self e0] at r2
      exact q v _ Mr emp H j2.2.1 (fun _ => Le.refl) ((J.emp_iff.mpr j2.1).re [1, 2, 0, 3]) r2 (own_shr_mem w1 s j2.2.1 j2.2.2)
    · have r2 := kk F .hole (some v) emp Mr Le.refl (.inl ⟨rfl, rfl⟩) (J.emp_iff.mpr J.self)
      rw [set_self e1] at r2
      exact q v F Mr M1 H Le.refl (fun _ => Le.refl) (j1.re [2, 1, 0, 3]) r2 w1
  · exact q.elim
end
end Z

end
section
set_option maxRecDepth 100000
/-! Z: operators -/
namespace Z
open PySem PySem.Spec L2
open PyProof.Rows hiding St
def F1 (G : Gx) (r : V → Hp → VK → Prop) (f : D → Option D) : Prop := ∀ {F N T1 R H : Hp} {x : V} {d z : D} {Q : VK}, J [F, N, T1, R] H → Own G F d x T1 → f d = some z →
  (∀ v F' T H', Le F F' → Le H H' → J [F', N, T, R] H' → Own G F' z v T → Q v H') → r x H Q
def F2 (G : Gx) (r : R2) (f : D → D → Option D) : Prop := ∀ {F N T1 T2 R H : Hp} {x y : V} {d e z : D} {Q : VK}, J [F, N, T1, T2, R] H → Own G F d x T1 → Own G F e y T2 → f d e = some z →
  (∀ v F' T H', Le F F' → Le H H' → J [F', N, T, R] H' → Own G F' z v T → Q v H') → r x y H Q
def FN (G : Gx) (r : List V → Hp → VK → Prop) (f : List D → Option D) : Prop := ∀ {F N T R H : Hp} {xs : List V} {ds : List D} {z : D} {Q : VK}, J [F, N, T, R] H → OwnL G F ds xs T → f ds = some z →
  (∀ v F' T' H', Le F F' → Le H H' → J [F', N, T', R] H' → Own G F' z v T' → Q v H') → r xs H Q
def ofOpt {α : Type} (x : Option α) (ρ : Env) : O α := match x with
  | some a => .ok a ρ
  | none => .no
def mUn (f : D → Option D) (ma : M D) : M D := fun ρ => (ma ρ).bind fun d ρ1 => ofOpt (f d) ρ1
def mBin (f : D → D → Option D) (ma mb : M D) : M D := fun ρ => (ma ρ).bind fun d ρ1 => (mb ρ1).bind fun e ρ2 => ofOpt (f d e) ρ2
def mNil : M (List D) := fun ρ => .ok [] ρ
def mCons (ma : M D) (mr : M (List D)) : M (List D) := fun ρ => (ma ρ).bind fun d ρ1 => (mr ρ1).bind fun ds ρ2 => .ok (d :: ds) ρ2
def mFun (f : List D → Option D) (ma : M (List D)) : M D := fun ρ => (ma ρ).bind fun ds ρ1 => ofOpt (f ds) ρ1

section
variable {G : Gx} {Φ : St → Prop} {E : St → XK} {c c1 c2 : Bool} {σ : St} {H : Hp}
theorem cAnd {c1 c2 : Bool} {A B C : Hp} (h1 : c1 = true → Le A B) (h2 : c2 = true → Le B C) : (c1 && c2) = true → Le A C := fun e => by
  rw [Bool.and_eq_true] at e
  exact (h1 e.1).trans (h2 e.2)
theorem tE_un {r : V → Hp → VK → Prop} {f : D → Option D} {ma : M D} {Q : VK} (hf : F1 G r f) (h : tE G Φ E c (mUn f ma) σ H Q) : tE G Φ E c ma σ H fun x H1 => r x H1 Q := by
  obtain ⟨F, N, R, ρ, a, q⟩ := h
  refine ⟨F, N, R, ρ, a, ?_⟩
  unfold mUn at q
  cases e : ma ρ with
  | no => rw [e] at q; exact q
  | ex k ρ' => rw [e] at q; exact q
  | ok d ρ1 =>
    rw [e] at q
    intro v F1 N1 T1 H1 l1 k1 j1 r1 o1
    simp only [O.bind] at q
    cases e2 : f d with
    | none => rw [e2] at q; exact q.elim
    | some z =>
      rw [e2] at q
      exact hf j1 o1 e2 fun v2 F2 T H2 l2 k2 j2 o2 => q v2 F2 N1 T H2 (l1.trans l2) (fun z => (k1 z).trans k2) j2 (rel_le l2 r1) o2
theorem tE_bin {r : R2} {f : D → D → Option D} {ma mb : M D} {Q : VK} (hf : F2 G r f) (h : tE G Φ E (c1 && c2) (mBin f ma mb) σ H Q) :
    tE G Φ E c1 ma σ H fun x H1 => tE G Φ E c2 mb σ H1 fun y H2 => r x y H2 Q := by
  obtain ⟨F, N, R, ρ, a, q⟩ := h
  refine ⟨F, N, R, ρ, a, ?_⟩
  unfold mBin at q
  cases e : ma ρ with
  | no => rw [e] at q; exact q
  | ex k ρ' => rw [e] at q; exact q
  | ok d ρ1 =>
    rw [e] at q
    intro v F1 N1 T1 H1 l1 k1 j1 r1 o1
    simp only [O.bind] at q
    have jt : J [T1, R] (un T1 R) := (j1.re [2, 3, 0, 1]).join.1
    refine ⟨F1, N1, un T1 R, ρ1, ⟨j1.hide, r1, a.2.2⟩, ?_⟩
    cases e1 : mb ρ1 with
    | no => rw [e1] at q; exact q
    | ex k ρ' => rw [e1] at q; exact PX.more q l1 jt
    | ok d2 ρ2 =>
      rw [e1] at q
      intro w F2 N2 T2 H2 l2 k2 j2 r2 o2
      have j3 : J [F2, N2, T1, T2, R] H2 := (J.unhide (ys := [T2]) jt (j2.re [0, 1, 3, 2])).re [0, 1, 2, 4, 3]
      cases e2 : f d d2 with
      | none => simp only [e2] at q; exact q.elim
      | some z =>
        simp only [e2] at q
        exact hf j3 (own_le l2 o1) o2 e2 fun v2 F3 T H3 l3 k3 j4 o3 => q v2 F3 N2 T H3 ((l1.trans l2).trans l3) (fun z => (cAnd k1 k2 z).trans k3) j4 (rel_le l3 r2) o3
theorem tA_nil {Q : List V → Hp → Prop} (h : tA G Φ E c mNil σ H Q) : tNil σ H Q := by
  obtain ⟨F, N, R, ρ, a, q⟩ := h
  exact q [] F N emp H Le.refl (fun _ => Le.refl) ((J.emp_iff.mpr (a.1.re [2, 0, 1])).re [2, 3, 0, 1]) a.2.1 ⟨rfl, rfl⟩
theorem tA_cons {ma : M D} {mr : M (List D)} {Q : List V → Hp → Prop} (h : tA G Φ E (c1 && c2) (mCons ma mr) σ H Q) : tE G Φ E c1 ma σ H fun x H1 => tA G Φ E c2 mr σ H1 fun xs H2 => Q (x :: xs) H2 := by
  obtain ⟨F, N, R, ρ, a, q⟩ := h
  refine ⟨F, N, R, ρ, a, ?_⟩
  unfold mCons at q
  cases e : ma ρ with
  | no => rw [e] at q; exact q
  | ex k ρ' => rw [e] at q; exact q
  | ok d ρ1 =>
    rw [e] at q
    intro v F1 N1 T1 H1 l1 k1 j1 r1 o1
    simp only [O.bind] at q
    have jt : J [T1, R] (un T1 R) := (j1.re [2, 3, 0, 1]).join.1
    refine ⟨F1, N1, un T1 R, ρ1, ⟨j1.hide, r1, a.2.2⟩, ?_⟩
    cases e1 : mr ρ1 with
    | no => rw [e1] at q; exact q
    | ex k ρ' => rw [e1] at q; exact PX.more q l1 jt
    | ok d2 ρ2 =>
      rw [e1] at q
      intro w F2 N2 T2 H2 l2 k2 j2 r2 o2
      have j3 : J [T1, T2, F2, N2, R] H2 := (J.unhide (ys := [T2]) jt (j2.re [0, 1, 3, 2])).re [2, 4, 0, 1, 3]
      obtain ⟨j4, j5⟩ := j3.join
      exact q (v :: w) F2 N2 (un T1 T2) H2 (l1.trans l2) (cAnd k1 k2) (j5.re [1, 2, 0, 3]) r2 ⟨v, w, T1, T2, rfl, j4, own_le l2 o1, o2⟩
theorem tA_fun {r : List V → Hp → VK → Prop} {f : List D → Option D} {ma : M (List D)} {Q : VK} (hf : FN G r f) (h : tE G Φ E c (mFun f ma) σ H Q) : tA G Φ E c ma σ H fun xs H1 => r xs H1 Q := by
  obtain ⟨F, N, R, ρ, a, q⟩ := h
  refine ⟨F, N, R, ρ, a, ?_⟩
  unfold mFun at q
  cases e : ma ρ with
  | no => rw [e] at q; exact q
  | ex k ρ' => rw [e] at q; exact q
  | ok d ρ1 =>
    rw [e] at q
    intro v F1 N1 T1 H1 l1 k1 j1 r1 o1
    simp only [O.bind] at q
    cases e2 : f d with
    | none => rw [e2] at q; exact q.elim
    | some z =>
      rw [e2] at q
      exact hf j1 o1 e2 fun v2 F2 T H2 l2 k2 j2 o2 => q v2 F2 N1 T H2 (l1.trans l2) (fun z => (k1 z).trans k2) j2 (rel_le l2 r1) o2
end

section
variable {X : Cx} {cl : Nat → Addr} {Φ : St → Prop} {E : St → XK} {c c1 c2 : Bool} {a b : Expr} {ma mb : M D} {pos : Pos}
theorem re_bin {op : Operator} {r : R2} {f : D → D → Option D} (ho : OpR X (binaryOp op) r) (hf : F2 (gx X cl) r f) (ha : RE X cl Φ E c1 a ma) (hb : RE X cl Φ E c2 b mb) : RE X cl Φ E (c1 && c2) (.BinOp a op b pos) (mBin f ma mb) :=
  ⟨(pe_op ho ha.pe hb.pe).weak fun _ _ _ h => tE_bin hf h⟩
theorem re_cmp {op : CmpOp} {r : R2} {f : D → D → Option D} (ho : OpR X (compareOp op) r) (hf : F2 (gx X cl) r f) (hm : behindInMarks op b = false) (ha : RE X cl Φ E c1 a ma) (hb : RE X cl Φ E c2 b mb) :
    RE X cl Φ E (c1 && c2) (.Compare a [op] [b] pos) (mBin f ma mb) := ⟨(pe_cmpR ho ha.pe hb.pe hm).weak fun _ _ _ h => tE_bin hf h⟩
theorem re_un {op : UnaryOp} {r : V → Hp → VK → Prop} {f : D → Option D} (ho : UnR X (unaryOp op) r) (hf : F1 (gx X cl) r f) (ha : RE X cl Φ E c a ma) : RE X cl Φ E c (.UnaryOp op a pos) (mUn f ma) :=
  ⟨(pe_un ho ha.pe).weak fun _ _ _ h => tE_un hf h⟩
theorem ra_nil : RA X cl Φ E c [] mNil := ⟨pa_nil.weak fun _ _ _ h => tA_nil h⟩
theorem ra_cons {e : Expr} {es : List Expr} {mr : M (List D)} (ha : RE X cl Φ E c1 e ma) (hr : RA X cl Φ E c2 es mr) (hs : starEach (e :: es) X.env = (false, eval e X.env) :: starEach es X.env := by rfl) :
    RA X cl Φ E (c1 && c2) (e :: es) (mCons ma mr) := ⟨(pa_cons ha.pe hr.pa hs).weak fun _ _ _ h => tA_cons h⟩
end

/-! ### what the operators do -/
section
variable {G : Gx}
theorem dump1 {F N T R H : Hp} (j : J [F, N, T, R] H) : J [un F T, N, emp, R] H ∧ Le F (un F T) ∧ Le T (un F T) := by
  have q := j.give
  exact ⟨(J.emp_iff.mpr q.1).re [1, 2, 0, 3], q.2⟩
theorem dump2 {F N T1 T2 R H : Hp} (j : J [F, N, T1, T2, R] H) : J [un (un F T1) T2, N, emp, R] H ∧ Le F (un (un F T1) T2) ∧ Le T1 (un (un F T1) T2) ∧ Le T2 (un (un F T1) T2) := by
  have q := j.give
  have q2 := q.1.give
  exact ⟨(J.emp_iff.mpr q2.1).re [1, 2, 0, 3], q.2.1.trans q2.2.1, q.2.2.trans q2.2.1, q2.2.2⟩
def dInt (chk : Int → Int → Bool) (g : Int → Int → Int) : D → D → Option D
  | .int i, .int j => if chk i j then some (.int (g i j)) else none
  | _, _ => none
theorem dInt_some {chk : Int → Int → Bool} {g : Int → Int → Int} {d e z : D} (h : dInt chk g d e = some z) : ∃ i j, d = .int i ∧ e = .int j ∧ chk i j = true ∧ z = .int (g i j) := by
  unfold dInt at h
  split at h
  · split at h
    · cases h; exact ⟨_, _, rfl, rfl, ‹_›, rfl⟩
    · cases h
  · cases h
theorem f2_int {C : Int → Int → Prop} {g : Int → Int → Int} {chk : Int → Int → Bool} (hc : ∀ i j, chk i j = true → C i j) : F2 G (rI C fun i j => .int (g i j)) (dInt chk g) := by
  intro F N T1 T2 R H x y d e z Q j o1 o2 hz k
  obtain ⟨i, i', rfl, rfl, h, rfl⟩ := dInt_some hz
  have dd := dump2 j
  exact ⟨i, i', o1.1, o2.1, hc _ _ h, k _ _ emp H dd.2.1 Le.refl dd.1 ⟨rfl, rfl⟩⟩
def dInt0 (g : Int → Int → Int) : D → D → Option D
  | .int i, .int j => some (.int (g i j))
  | _, _ => none
theorem f2_int0 {g : Int → Int → Int} : F2 G (rI0 fun i j => .int (g i j)) (dInt0 g) := by
  intro F N T1 T2 R H x y d e z Q j o1 o2 hz k
  unfold dInt0 at hz
  split at hz
  · cases hz
    have dd := dump2 j
    exact ⟨_, _, o1.1, o2.1, k _ _ emp H dd.2.1 Le.refl dd.1 ⟨rfl, rfl⟩⟩
  · cases hz
def dCmp (p : Int → Int → Bool) : D → D → Option D
  | .int i, .int j => some (.bl (p i j))
  | _, _ => none
theorem f2_cmp {p : Int → Int → Bool} : F2 G (rI0 fun i j => .bl (p i j)) (dCmp p) := by
  intro F N T1 T2 R H x y d e z Q j o1 o2 hz k
  unfold dCmp at hz
  split at hz
  · cases hz
    have dd := dump2 j
    exact ⟨_, _, o1.1, o2.1, k _ _ emp H dd.2.1 Le.refl dd.1 ⟨rfl, rfl⟩⟩
  · cases hz
theorem F2.or {r r' : R2} {f f' g : D → D → Option D} (h : F2 G r f) (h' : F2 G r' f') (hg : ∀ d e z, g d e = some z → f d e = some z ∨ f' d e = some z) : F2 G (fun x y H Q => r x y H Q ∨ r' x y H Q) g := by
  intro F N T1 T2 R H x y d e z Q j o1 o2 hz k
  exact (hg d e z hz).imp (fun q => h j o1 o2 q k) fun q => h' j o1 o2 q k
/-- a list: its own object, its items -/
theorem own_lst {F : Hp} {o : Bool} {ds : List D} {v : V} {T : Hp} (h : Own G F (.lst o ds) v T) : ∃ a vs S C, v = .ref a ∧ J [S, C] T ∧ OwnL G F ds vs C ∧ ∀ H, Le F H → Le T H → H a = some (.lst vs) := by
  obtain ⟨a, vs, rfl, h⟩ := h
  rcases h with ⟨_, rfl, q, r⟩ | ⟨_, M', j, r⟩
  · exact ⟨a, vs, emp, emp, rfl, J.emps, r, fun H l _ => l _ _ q⟩
  · exact ⟨a, vs, _, M', rfl, j, r, fun H _ m => m _ _ (j.le _ _ one_same)⟩
theorem own_tup {F : Hp} {ds : List D} {v : V} {T : Hp} (h : Own G F (.tup ds) v T) : ∃ a vs S C, v = .ref a ∧ J [S, C] T ∧ OwnL G F ds vs C ∧ ∀ H, Le F H → Le T H → SqT G.K H a vs := by
  obtain ⟨a, vs, rfl, h⟩ := h
  rcases h with ⟨rfl, q, r⟩ | ⟨M', j, r⟩
  · exact ⟨a, vs, emp, emp, rfl, J.emps, r, fun H l _ => .inl (.inl (l _ _ q))⟩
  · exact ⟨a, vs, _, M', rfl, j, r, fun H _ m => .inl (.inl (m _ _ (j.le _ _ one_same)))⟩
theorem ownL_len {F : Hp} : ∀ {ds : List D} {vs : List V} {M : Hp}, OwnL G F ds vs M → vs.length = ds.length
  | [], _, _, h => by rw [h.1]; rfl
  | d :: ds, vs, M, h => by
    obtain ⟨v, r, M1, M2, rfl, j, h1, h2⟩ := h
    rw [List.length_cons, List.length_cons, ownL_len h2]
theorem ownL_app {F : Hp} : ∀ {ds es : List D} {vs ws : List V} {A B C : Hp}, OwnL G F ds vs A → OwnL G F es ws B → J [A, B] C → OwnL G F (ds ++ es) (vs ++ ws) C
  | [], es, vs, ws, A, B, C, h, h', j => by
    obtain ⟨rfl, rfl⟩ := h
    have := (J.emp_iff.mp j).eq1
    subst this
    exact h'
  | d :: ds, es, vs, ws, A, B, C, h, h', j => by
    obtain ⟨v, r, M1, M2, rfl, j1, h1, h2⟩ := h
    have j2 : J [M1, M2, B] C := J.nest (xs := [B]) j1 j
    have j3 := (j2.re [1, 2, 0]).join
    exact ⟨v, r ++ ws, M1, _, rfl, j3.2.re [1, 0], h1, ownL_app h2 h' j3.1⟩
theorem j_le {A B C : Hp} (j : J [A, B] C) : Le A C ∧ Le B C := ⟨j.sub (by simp), j.sub (by simp)⟩
/-- a new list of items that one has -/
theorem new_lst {F N C R H : Hp} {ds : List D} {vs : List V} {Q : VK} (j : J [F, N, C, R] H) (o : OwnL G F ds vs C) (k : ∀ v F' T H', Le F F' → Le H H' → J [F', N, T, R] H' → Own G F' (.lst true ds) v T → Q v H') :
    ∀ p, H p = none → Q (.ref p) (upd H p (.lst vs)) := fun p hp => by
  have j1 := (j.alloc (o := .lst vs) hp).re [0, 3, 1, 2, 4]
  obtain ⟨j2, j3⟩ := j1.join
  exact k (.ref p) F _ _ Le.refl (fun a o e => by rw [upd_ne (ne_of_none e hp)]; exact e) (j3.re [1, 2, 0, 3]) ⟨p, vs, rfl, .inr ⟨rfl, C, j2, o⟩⟩
theorem new_tup {F N C R H : Hp} {ds : List D} {vs : List V} {Q : VK} (j : J [F, N, C, R] H) (o : OwnL G F ds vs C) (k : ∀ v F' T H', Le F F' → Le H H' → J [F', N, T, R] H' → Own G F' (.tup ds) v T → Q v H') :
    ∀ p, H p = none → Q (.ref p) (upd H p (.tup vs)) := fun p hp => by
  have j1 := (j.alloc (o := .tup vs) hp).re [0, 3, 1, 2, 4]
  obtain ⟨j2, j3⟩ := j1.join
  exact k (.ref p) F _ _ Le.refl (fun a o e => by rw [upd_ne (ne_of_none e hp)]; exact e) (j3.re [1, 2, 0, 3]) ⟨p, vs, rfl, .inr ⟨C, j2, o⟩⟩
def dCat : D → D → Option D
  | .lst _ xs, .lst _ ys => if xs.length + ys.length ≤ sizeLine then some (.lst true (xs ++ ys)) else none
  | _, _ => none
theorem f2_cat : F2 G rCat dCat := by
  intro F N T1 T2 R H x y d e z Q j o1 o2 hz k
  unfold dCat at hz
  split at hz
  · split at hz
    · cases hz
      rename_i hl
      obtain ⟨a, vs, S, C, rfl, j1, w1, g1⟩ := own_lst o1
      obtain ⟨b, ws, S2, C2, rfl, j2, w2, g2⟩ := own_lst o2
      refine ⟨a, b, vs, ws, rfl, rfl, g1 H (j.sub (by simp)) (j.sub (by simp)), g2 H (j.sub (by simp)) (j.sub (by simp)), by rw [ownL_len w1, ownL_len w2]; exact hl, ?_⟩
      have j3 : J [S, C, F, N, T2, R] H := J.nest (xs := [F, N, T2, R]) j1 (j.re [2, 0, 1, 3, 4])
      have j4 : J [S2, C2, S, C, F, N, R] H := J.nest (xs := [S, C, F, N, R]) j2 (j3.re [4, 0, 1, 2, 3, 5])
      have j5 := (j4.re [4, 5, 0, 1, 2, 3, 6]).give
      have j6 := (j5.1.re [0, 1, 3, 2, 4, 5]).give
      have l2 := j5.2.1.trans j6.2.1
      obtain ⟨j7, j8⟩ := (j6.1.re [3, 2, 0, 1, 4]).join
      exact new_lst (j8.re [1, 2, 0, 3]) (ownL_app (ownL_le l2 w1) (ownL_le l2 w2) j7) fun v F' T H' l => k v F' T H' (l2.trans l)
    · cases hz
  · cases hz
def dCatS : D → D → Option D
  | .str x, .str y => if x.length + y.length ≤ sizeLine then some (.str (x ++ y)) else none
  | _, _ => none
theorem f2_catS : F2 G (fun x y H Q => ∃ i j, x = .str i ∧ y = .str j ∧ i.length + j.length ≤ sizeLine ∧ Q (.str (i ++ j)) H) dCatS := by
  intro F N T1 T2 R H x y d e z Q j o1 o2 hz k
  unfold dCatS at hz
  split at hz
  · split at hz
    · cases hz
      have dd := dump2 j
      exact ⟨_, _, o1.1, o2.1, ‹_›, k _ _ emp H dd.2.1 Le.refl dd.1 ⟨rfl, rfl⟩⟩
    · cases hz
  · cases hz
def dCatT : D → D → Option D
  | .tup xs, .tup ys => if xs.length + ys.length ≤ sizeLine ∧ xs ≠ [] ∧ ys ≠ [] then some (.tup (xs ++ ys)) else none
  | _, _ => none
theorem f2_catT : F2 G (rCatT G.K) dCatT := by
  intro F N T1 T2 R H x y d e z Q j o1 o2 hz k
  unfold dCatT at hz
  split at hz
  · split at hz
    · cases hz
      rename_i hl
      obtain ⟨a, vs, S, C, rfl, j1, w1, g1⟩ := own_tup o1
      obtain ⟨b, ws, S2, C2, rfl, j2, w2, g2⟩ := own_tup o2
      have nw : ws ≠ [] := fun z => hl.2.2 (List.length_eq_zero_iff.mp (by rw [← ownL_len w2, z]; rfl))
      refine ⟨a, b, vs, ws, rfl, rfl, g1 H (j.sub (by simp)) (j.sub (by simp)), g2 H (j.sub (by simp)) (j.sub (by simp)), fun z => hl.2.1 (List.length_eq_zero_iff.mp (by rw [← ownL_len w1, z]; rfl)), by rw [ownL_len w1, ownL_len w2]; exact hl.1, fun z => absurd z nw, fun _ => ?_⟩
      have j3 : J [S, C, F, N, T2, R] H := J.nest (xs := [F, N, T2, R]) j1 (j.re [2, 0, 1, 3, 4])
      have j4 : J [S2, C2, S, C, F, N, R] H := J.nest (xs := [S, C, F, N, R]) j2 (j3.re [4, 0, 1, 2, 3, 5])
      have j5 := (j4.re [4, 5, 0, 1, 2, 3, 6]).give
      have j6 := (j5.1.re [0, 1, 3, 2, 4, 5]).give
      have l2 := j5.2.1.trans j6.2.1
      obtain ⟨j7, j8⟩ := (j6.1.re [3, 2, 0, 1, 4]).join
      exact new_tup (j8.re [1, 2, 0, 3]) (ownL_app (ownL_le l2 w1) (ownL_le l2 w2) j7) fun v F' T H' l => k v F' T H' (l2.trans l)
    · cases hz
  · cases hz
def dAdd : D → D → Option D
  | .int i, .int j => some (.int (i + j))
  | .str x, .str y => dCatS (.str x) (.str y)
  | .lst o xs, .lst u ys => dCat (.lst o xs) (.lst u ys)
  | .tup xs, .tup ys => dCatT (.tup xs) (.tup ys)
  | _, _ => none
theorem op_addZ {X : Cx} : OpR X (binaryOp .Add) (fun x y H Q => (rI0 (fun i j => .int (i + j)) x y H Q ∨ (∃ i j, x = .str i ∧ y = .str j ∧ i.length + j.length ≤ sizeLine ∧ Q (.str (i ++ j)) H)) ∨ (rCat x y H Q ∨ rCatT X.K x y H Q)) :=
  (op_add.or op_add_str).or (op_cat.or op_catT)
theorem f2_add : F2 G (fun x y H Q => (rI0 (fun i j => .int (i + j)) x y H Q ∨ (∃ i j, x = .str i ∧ y = .str j ∧ i.length + j.length ≤ sizeLine ∧ Q (.str (i ++ j)) H)) ∨ (rCat x y H Q ∨ rCatT G.K x y H Q)) dAdd :=
  fun {F N T1 T2 R H x y d e z Q} j o1 o2 hz k => by
    unfold dAdd at hz
    split at hz
    · exact .inl (.inl (f2_int0 (g := fun i j => i + j) j o1 o2 hz k))
    · exact .inl (.inr (f2_catS j o1 o2 hz k))
    · exact .inr (.inl (f2_cat j o1 o2 hz k))
    · exact .inr (.inr (f2_catT j o1 o2 hz k))
    · cases hz
def dRep : D → D → Option D
  | .lst _ xs, .int k => if -(2 ^ 63) ≤ k ∧ k < 2 ^ 63 ∧ xs.length * k.toNat ≤ sizeLine ∧ shrL xs = true then some (.lst true (List.replicate k.toNat xs).flatten) else none
  | _, _ => none
theorem ownL_shr {F F' : Hp} {ds : List D} {vs : List V} {M : Hp} (h : OwnL G F ds vs M) (s : shrL ds = true) (l : Le F F') (m : Le M F') : OwnL G F' ds vs emp := by
  have := ownL_frz h l m
  rwa [frzL_shr s] at this
theorem ownL_rep {F : Hp} {ds : List D} {vs : List V} (h : OwnL G F ds vs emp) : ∀ n : Nat, OwnL G F (List.replicate n ds).flatten (List.replicate n vs).flatten emp
  | 0 => ⟨rfl, rfl⟩
  | n + 1 => by
    rw [List.replicate_succ, List.replicate_succ, List.flatten_cons, List.flatten_cons]
    exact ownL_app h (ownL_rep h n) J.emps
theorem f2_rep : F2 G rRep dRep := by
  intro F N T1 T2 R H x y d e z Q j o1 o2 hz k
  unfold dRep at hz
  split at hz
  · split at hz
    · cases hz
      rename_i hl
      have dd := dump2 j
      obtain ⟨a, vs, S, C, rfl, j1, w1, g1⟩ := own_lst o1
      have w2 := ownL_shr w1 hl.2.2.2 dd.2.1 ((j_le j1).2.trans dd.2.2.1)
      refine ⟨a, _, vs, rfl, o2.1, g1 H (j.sub (by simp)) (j.sub (by simp)), hl.1, hl.2.1, by rw [ownL_len w1]; exact hl.2.2.1, new_lst dd.1 (ownL_rep w2 _) fun v F' T H' l => k v F' T H' (dd.2.1.trans l)⟩
    · cases hz
  · cases hz
def dMul : D → D → Option D
  | .int i, .int j => dInt (fun i j => decide ((-(2 ^ 64) < i ∧ i < 2 ^ 64) ∨ (-(2 ^ 64) < j ∧ j < 2 ^ 64))) (fun i j => i * j) (.int i) (.int j)
  | .lst o xs, .int k => dRep (.lst o xs) (.int k)
  | _, _ => none
theorem op_mulZ {X : Cx} : OpR X (binaryOp .Mult) (fun x y H Q => rI CMul (fun i j => .int (i * j)) x y H Q ∨ rRep x y H Q) := op_mul.or op_rep
theorem f2_mul : F2 G (fun x y H Q => rI CMul (fun i j => .int (i * j)) x y H Q ∨ rRep x y H Q) dMul :=
  fun {F N T1 T2 R H x y d e z Q} j o1 o2 hz k => by
    unfold dMul at hz
    split at hz
    · exact .inl (f2_int (C := CMul) (chk := fun i j => decide ((-(2 ^ 64) < i ∧ i < 2 ^ 64) ∨ (-(2 ^ 64) < j ∧ j < 2 ^ 64))) (fun i j h => (by have q := of_decide_eq_true h; exact q)) j o1 o2 hz k)
    · exact .inr (f2_rep j o1 o2 hz k)
    · cases hz
def dSub : D → D → Option D := dInt0 fun i j => i - j
theorem f2_sub : F2 G (rI0 fun i j => .int (i - j)) dSub := f2_int0
def dDiv : D → D → Option D := dInt (fun _ j => decide (0 < j) && decide (j.natAbs.log2 < 9000)) fun i j => i / j
theorem f2_div : F2 G (rI CDivW fun i j => .int (i / j)) dDiv := f2_int fun i j h => by
  rw [Bool.and_eq_true] at h
  exact ⟨of_decide_eq_true h.1, of_decide_eq_true h.2⟩
def dMod : D → D → Option D := dInt (fun _ j => decide (0 < j)) fun i j => i % j
theorem f2_mod : F2 G (rI (fun _ j => 0 < j) fun i j => .int (i % j)) dMod := f2_int fun i j h => of_decide_eq_true h
def dShl : D → D → Option D := dInt (fun i j => decide (0 ≤ j) && decide ((Builtin.Int.intBits i : Int) + j ≤ 2 ^ 27)) fun i j => i * 2 ^ j.toNat
theorem f2_shl : F2 G (rI CShl fun i j => .int (i * 2 ^ j.toNat)) dShl := f2_int fun i j h => by
  rw [Bool.and_eq_true] at h
  exact ⟨of_decide_eq_true h.1, of_decide_eq_true h.2⟩
def dShr : D → D → Option D := dInt (fun _ j => decide (0 ≤ j)) fun i j => i / 2 ^ j.toNat
theorem f2_shr : F2 G (rI (fun _ j => 0 ≤ j) fun i j => .int (i / 2 ^ j.toNat)) dShr := f2_int fun i j h => of_decide_eq_true h
def dAnd : D → D → Option D := dInt0 Builtin.bitAnd
theorem f2_and : F2 G (rI0 fun i j => .int (Builtin.bitAnd i j)) dAnd := f2_int0
def dOr : D → D → Option D := dInt0 Builtin.bitOr
theorem f2_bor : F2 G (rI0 fun i j => .int (Builtin.bitOr i j)) dOr := f2_int0
def dXor : D → D → Option D := dInt0 Builtin.bitXor
theorem f2_xor : F2 G (rI0 fun i j => .int (Builtin.bitXor i j)) dXor := f2_int0
def dNeg : D → Option D
  | .int i => some (.int (-i))
  | _ => none
def dInv : D → Option D
  | .int i => some (.int (Builtin.bitNot i))
  | _ => none
theorem f1_neg : F1 G (rU fun i => .int (-i)) dNeg := by
  intro F N T R H x d z Q j o hz k
  unfold dNeg at hz
  split at hz
  · cases hz
    have dd := dump1 j
    exact ⟨_, o.1, k _ _ emp H dd.2.1 Le.refl dd.1 ⟨rfl, rfl⟩⟩
  · cases hz
theorem f1_inv : F1 G (rU fun i => .int (Builtin.bitNot i)) dInv := by
  intro F N T R H x d z Q j o hz k
  unfold dInv at hz
  split at hz
  · cases hz
    have dd := dump1 j
    exact ⟨_, o.1, k _ _ emp H dd.2.1 Le.refl dd.1 ⟨rfl, rfl⟩⟩
  · cases hz
/-! equality of data -/
mutual
def toPy : D → Option PyData
  | .non => some .none
  | .bl b => some (.bool b)
  | .int i => some (.int i)
  | .str x => some (.str x)
  | .tup ds => (toPyL ds).map .tuple
  | .lst _ ds => (toPyL ds).map .list
  | .out ds => (toPyL ds).map .list
  | _ => none
def toPyL : List D → Option (List PyData)
  | [] => some []
  | d :: ds => match toPy d, toPyL ds with
    | some p, some q => some (p :: q)
    | _, _ => none
end
mutual
theorem own_dp {F H : Hp} (lF : Le F H) : ∀ {d : D} {v : V} {T : Hp} {p : PyData}, Own G F d v T → Le T H → toPy d = some p → Dp G.K H v p
  | .non, _, _, _, o, _, h => by cases h; cases o.1; exact .non
  | .bl _, _, _, _, o, _, h => by cases h; cases o.1; exact .bl _
  | .int _, _, _, _, o, _, h => by cases h; cases o.1; exact .int _
  | .str _, _, _, _, o, _, h => by cases h; cases o.1; exact .str _
  | .tup ds, v, T, p, o, lT, h => by
    obtain ⟨a, vs, S, C, rfl, j, w, g⟩ := own_tup o
    rw [toPy] at h
    cases e : toPyL ds with
    | none => rw [e] at h; cases h
    | some ps => rw [e] at h; cases h; exact .tup (g H lF lT) (ownL_dp lF w ((j_le j).2.trans lT) e)
  | .lst _ ds, v, T, p, o, lT, h => by
    obtain ⟨a, vs, S, C, rfl, j, w, g⟩ := own_lst o
    rw [toPy] at h
    cases e : toPyL ds with
    | none => rw [e] at h; cases h
    | some ps => rw [e] at h; cases h; exact .lst (.of (g H lF lT)) (ownL_dp lF w ((j_le j).2.trans lT) e)
  | .out ds, v, T, p, o, lT, h => by
    obtain ⟨a, vs, rfl, rfl, q, w⟩ := o
    rw [toPy] at h
    cases e : toPyL ds with
    | none => rw [e] at h; cases h
    | some ps => rw [e] at h; cases h; exact .lst (sqL_le q lF) (ownL_dp lF w lT e)
  | .hole, _, _, _, _, _, h => by cases h
  | .dic _ _ _, _, _, _, _, _, h => by cases h
  | .dit _ _ _, _, _, _, _, _, h => by cases h
  | .dnk _ _, _, _, _, _, _, h => by cases h
  | .ins _ _ _ _, _, _, _, _, _, h => by cases h
theorem ownL_dp {F H : Hp} (lF : Le F H) : ∀ {ds : List D} {vs : List V} {T : Hp} {ps : List PyData}, OwnL G F ds vs T → Le T H → toPyL ds = some ps → DpAll G.K H vs ps
  | [], _, _, _, o, _, h => by cases h; cases o.1; exact .nil
  | d :: ds, vs, T, ps, o, lT, h => by
    obtain ⟨v, r, M1, M2, rfl, j, h1, h2⟩ := o
    rw [toPyL] at h
    cases e1 : toPy d with
    | none => rw [e1] at h; cases h
    | some p =>
      cases e2 : toPyL ds with
      | none => rw [e1, e2] at h; cases h
      | some q =>
        rw [e1, e2] at h; cases h
        exact .cons (own_dp lF h1 ((j_le j).1.trans lT) e1) (ownL_dp lF h2 ((j_le j).2.trans lT) e2)
end
def eqB (d e : D) : Option Bool := match toPy d, toPy e with
  | some p, some q => if SeqAt.shaped p && SeqAt.shaped q then some (PyData.eqv p q) else none
  | _, _ => none
def dEq (d e : D) : Option D := (eqB d e).map .bl
def dNe (d e : D) : Option D := (eqB d e).map fun b => .bl (!b)
theorem eqB_some {d e : D} {b : Bool} (h : eqB d e = some b) : ∃ p q, toPy d = some p ∧ toPy e = some q ∧ SeqAt.shaped p = true ∧ SeqAt.shaped q = true ∧ b = PyData.eqv p q := by
  unfold eqB at h
  split at h
  · split at h
    · rename_i p q hp hq hs
      rw [Bool.and_eq_true] at hs
      cases h
      exact ⟨p, q, hp, hq, hs.1, hs.2, rfl⟩
    · cases h
  · cases h
theorem f2_eq : F2 G (rEqD G.K) dEq := by
  intro F N T1 T2 R H x y d e z Q j o1 o2 hz k
  unfold dEq at hz
  cases hb : eqB d e with
  | none => rw [hb] at hz; cases hz
  | some b =>
    rw [hb] at hz; cases hz
    obtain ⟨p, q, h1, h2, h3, h4, rfl⟩ := eqB_some hb
    have dd := dump2 j
    exact ⟨p, q, own_dp (j.sub (by simp)) o1 (j.sub (by simp)) h1, own_dp (j.sub (by simp)) o2 (j.sub (by simp)) h2, h3, h4, k _ _ emp H dd.2.1 Le.refl dd.1 ⟨rfl, rfl⟩⟩
theorem f2_ne : F2 G (rNeD G.K) dNe := by
  intro F N T1 T2 R H x y d e z Q j o1 o2 hz k
  unfold dNe at hz
  cases hb : eqB d e with
  | none => rw [hb] at hz; cases hz
  | some b =>
    rw [hb] at hz; cases hz
    obtain ⟨p, q, h1, h2, h3, h4, rfl⟩ := eqB_some hb
    have dd := dump2 j
    exact ⟨p, q, own_dp (j.sub (by simp)) o1 (j.sub (by simp)) h1, own_dp (j.sub (by simp)) o2 (j.sub (by simp)) h2, h3, h4, k _ _ emp H dd.2.1 Le.refl dd.1 ⟨rfl, rfl⟩⟩
/-! is None -/
def isNon : D → Option Bool
  | .hole => none
  | .non => some true
  | _ => some false
def dIsN (d : D) (e : D) : Option D := match e with
  | .non => (isNon d).map .bl
  | _ => none
def dNotN (d : D) (e : D) : Option D := match e with
  | .non => (isNon d).map fun b => .bl (!b)
  | _ => none
theorem own_isN {F : Hp} {d : D} {v : V} {T : Hp} {b : Bool} (o : Own G F d v T) (h : isNon d = some b) : decide (v = .non) = b := by
  cases d with
  | hole => cases h
  | non => cases h; cases o.1; rfl
  | bl _ => cases h; cases o.1; rfl
  | int _ => cases h; cases o.1; rfl
  | str _ => cases h; cases o.1; rfl
  | tup _ => cases h; obtain ⟨a, vs, rfl, _⟩ := o; rfl
  | lst _ _ => cases h; obtain ⟨a, vs, rfl, _⟩ := o; rfl
  | out _ => cases h; obtain ⟨a, vs, rfl, _⟩ := o; rfl
  | dic _ _ _ => cases h; obtain ⟨a, vs, rfl, _⟩ := o; rfl
  | dit _ _ _ => cases h; obtain ⟨a, vs, rfl, _⟩ := o; rfl
  | dnk _ _ => cases h; obtain ⟨a, vs, rfl, _⟩ := o; rfl
  | ins _ _ _ _ => cases h; obtain ⟨a, dx, vs, rfl, _⟩ := o; rfl
theorem f2_isN : F2 G (fun x y H Q => y = .non ∧ Q (.bl (decide (x = .non))) H) dIsN := by
  intro F N T1 T2 R H x y d e z Q j o1 o2 hz k
  unfold dIsN at hz
  split at hz
  · cases hb : isNon d with
    | none => rw [hb] at hz; cases hz
    | some b =>
      rw [hb] at hz; cases hz
      have dd := dump2 j
      rw [own_isN o1 hb]
      exact ⟨o2.1, k _ _ emp H dd.2.1 Le.refl dd.1 ⟨rfl, rfl⟩⟩
  · cases hz
theorem f2_notN : F2 G (fun x y H Q => y = .non ∧ Q (.bl (!decide (x = .non))) H) dNotN := by
  intro F N T1 T2 R H x y d e z Q j o1 o2 hz k
  unfold dNotN at hz
  split at hz
  · cases hb : isNon d with
    | none => rw [hb] at hz; cases hz
    | some b =>
      rw [hb] at hz; cases hz
      have dd := dump2 j
      rw [own_isN o1 hb]
      exact ⟨o2.1, k _ _ emp H dd.2.1 Le.refl dd.1 ⟨rfl, rfl⟩⟩
  · cases hz
/-! in, not in: flat things in a list or tuple -/
def flat : D → Option V
  | .non => some .non
  | .bl b => some (.bl b)
  | .int i => some (.int i)
  | .str x => some (.str x)
  | _ => none
def flats : List D → Option (List V)
  | [] => some []
  | d :: ds => match flat d, flats ds with
    | some v, some vs => some (v :: vs)
    | _, _ => none
def inB (d e : D) : Option Bool := match flat d, e with
  | some v, .lst _ ds => (flats ds).map fun vs => inV v vs
  | some v, .tup ds => (flats ds).map fun vs => inV v vs
  | some v, .out ds => (flats ds).map fun vs => inV v vs
  | _, _ => none
theorem own_flat {F : Hp} {d : D} {v w : V} {T : Hp} (o : Own G F d v T) (h : flat d = some w) : v = w ∧ flatV w = true := by
  cases d with
  | non => cases h; exact ⟨o.1, rfl⟩
  | bl _ => cases h; exact ⟨o.1, rfl⟩
  | int _ => cases h; exact ⟨o.1, rfl⟩
  | str _ => cases h; exact ⟨o.1, rfl⟩
  | _ => cases h
theorem ownL_flat {F : Hp} : ∀ {ds : List D} {vs ws : List V} {T : Hp}, OwnL G F ds vs T → flats ds = some ws → vs = ws ∧ ws.all flatV = true
  | [], vs, ws, T, o, h => by cases h; exact ⟨o.1, rfl⟩
  | d :: ds, vs, ws, T, o, h => by
    obtain ⟨v, r, M1, M2, rfl, j, h1, h2⟩ := o
    rw [flats] at h
    split at h
    · rename_i e1 e2
      cases h
      obtain ⟨rfl, q⟩ := own_flat h1 e1
      obtain ⟨rfl, q'⟩ := ownL_flat h2 e2
      exact ⟨rfl, by rw [List.all_cons, q, q']; rfl⟩
    · cases h
theorem own_in {F H : Hp} {x y : V} {d e : D} {T1 T2 : Hp} {b : Bool} (o1 : Own G F d x T1) (o2 : Own G F e y T2) (lF : Le F H) (lT : Le T2 H) (h : inB d e = some b) :
    ∃ p xs, y = .ref p ∧ (SqL G.K H p xs ∨ SqT G.K H p xs) ∧ flatV x = true ∧ xs.all flatV = true ∧ inV x xs = b := by
  unfold inB at h
  split at h
  · rename_i v o ds e1
    obtain ⟨a, vs, S, C, rfl, j, w, g⟩ := own_lst o2
    cases e2 : flats ds with
    | none => rw [e2] at h; cases h
    | some ws =>
      rw [e2] at h; cases h
      obtain ⟨rfl, q⟩ := own_flat o1 e1
      obtain ⟨rfl, q'⟩ := ownL_flat w e2
      exact ⟨a, vs, rfl, .inl (.of (g H lF lT)), q, q', rfl⟩
  · rename_i v ds e1
    obtain ⟨a, vs, S, C, rfl, j, w, g⟩ := own_tup o2
    cases e2 : flats ds with
    | none => rw [e2] at h; cases h
    | some ws =>
      rw [e2] at h; cases h
      obtain ⟨rfl, q⟩ := own_flat o1 e1
      obtain ⟨rfl, q'⟩ := ownL_flat w e2
      exact ⟨a, vs, rfl, .inr (g H lF lT), q, q', rfl⟩
  · rename_i v ds e1
    obtain ⟨a, vs, rfl, rfl, w, g⟩ := o2
    cases e2 : flats ds with
    | none => rw [e2] at h; cases h
    | some ws =>
      rw [e2] at h; cases h
      obtain ⟨rfl, q⟩ := own_flat o1 e1
      obtain ⟨rfl, q'⟩ := ownL_flat g e2
      exact ⟨a, vs, rfl, .inl (sqL_le w lF), q, q', rfl⟩
  · cases h
def dIn (d e : D) : Option D := (inB d e).map .bl
def dNotIn (d e : D) : Option D := (inB d e).map fun b => .bl (!b)
theorem f2_in : F2 G (rIn G.K false) dIn := by
  intro F N T1 T2 R H x y d e z Q j o1 o2 hz k
  unfold dIn at hz
  cases hb : inB d e with
  | none => rw [hb] at hz; cases hz
  | some b =>
    rw [hb] at hz; cases hz
    obtain ⟨p, xs, h1, h2, h3, h4, rfl⟩ := own_in o1 o2 (j.sub (by simp)) (j.sub (by simp)) hb
    have dd := dump2 j
    exact ⟨p, xs, h1, h2, h3, h4, k _ _ emp H dd.2.1 Le.refl dd.1 ⟨rfl, rfl⟩⟩
theorem f2_notIn : F2 G (rIn G.K true) dNotIn := by
  intro F N T1 T2 R H x y d e z Q j o1 o2 hz k
  unfold dNotIn at hz
  cases hb : inB d e with
  | none => rw [hb] at hz; cases hz
  | some b =>
    rw [hb] at hz; cases hz
    obtain ⟨p, xs, h1, h2, h3, h4, rfl⟩ := own_in o1 o2 (j.sub (by simp)) (j.sub (by simp)) hb
    have dd := dump2 j
    exact ⟨p, xs, h1, h2, h3, h4, k _ _ emp H dd.2.1 Le.refl dd.1 ⟨rfl, rfl⟩⟩
end
end Z

end
section
set_option maxRecDepth 100000
/-! Z: tests, statements, loops -/
namespace Z
open PySem PySem.Spec L2
open PyProof.Rows hiding St
/-! ### tests -/
def mTst (m : M D) : M Bool := fun ρ => (m ρ).bind fun d ρ1 => match d with
  | .bl b => .ok b ρ1
  | _ => .no
def mAnd (m n : M Bool) : M Bool := fun ρ => (m ρ).bind fun b ρ1 => if b = true then n ρ1 else .ok false ρ1
def mOr (m n : M Bool) : M Bool := fun ρ => (m ρ).bind fun b ρ1 => if b = true then .ok true ρ1 else n ρ1
def mNot (m : M Bool) : M Bool := fun ρ => (m ρ).bind fun b ρ1 => .ok (!b) ρ1
def mBl (m : M Bool) : M D := fun ρ => (m ρ).bind fun b ρ1 => .ok (.bl b) ρ1
def mIte (t : M Bool) (m n : M D) : M D := fun ρ => (t ρ).bind fun b ρ1 => if b = true then m ρ1 else n ρ1
/-- a < b < c -/
def mChain (f g : D → D → Option D) (ma mb mc : M D) : M D := fun ρ => (ma ρ).bind fun d ρ1 => (mb ρ1).bind fun e ρ2 => match f d e with
  | some (.bl true) => if shr e = true then (mc ρ2).bind fun h ρ3 => ofOpt (g e h) ρ3 else .no
  | some (.bl false) => .ok (.bl false) ρ2
  | _ => .no
section
variable {G : Gx} {Φ : St → Prop} {E : St → XK} {c c1 c2 c3 : Bool} {σ : St} {H : Hp}
theorem tB_val {m : M D} {Q : Bool → Hp → Prop} (h : tB G Φ E c (mTst m) σ H Q) : L2.tB (tE G Φ E c m) σ H Q := by
  obtain ⟨F, N, R, ρ, a, q⟩ := h
  refine ⟨F, N, R, ρ, a, ?_⟩
  unfold mTst at q
  cases e : m ρ with
  | no => rw [e] at q; exact q
  | ex k ρ' => rw [e] at q; exact q
  | ok d ρ1 =>
    rw [e] at q
    simp only [O.bind] at q
    intro v F1 N1 T1 H1 l1 k1 j1 r1 o1
    cases d with
    | bl b =>
      obtain ⟨rfl, rfl⟩ := o1
      exact ⟨b, rfl, q F1 N1 H1 l1 k1 (J.emp_iff.mp (j1.re [2, 0, 1, 3])) r1⟩
    | _ => exact q.elim
theorem tB_bind {m : M Bool} {k : Bool → Env → O Bool} {Q : Bool → Hp → Prop} {t : Bool → Hp → Prop} (h : tB G Φ E (c1 && c2) (fun ρ => (m ρ).bind k) σ H Q)
    (hk : ∀ b F N R ρ H1, Here G Φ σ F N R H1 ρ → PostB G E c2 σ F R H1 Q (k b ρ) → t b H1) : tB G Φ E c1 m σ H t := by
  obtain ⟨F, N, R, ρ, a, q⟩ := h
  refine ⟨F, N, R, ρ, a, ?_⟩
  have q : PostB G E (c1 && c2) σ F R H Q ((m ρ).bind k) := q
  cases e : m ρ with
  | no => rw [e] at q; exact q
  | ex k ρ' => rw [e] at q; exact q
  | ok b ρ1 =>
    rw [e] at q
    simp only [O.bind] at q
    intro F1 N1 H1 l1 k1 j1 r1
    refine hk b F1 N1 R ρ1 H1 ⟨j1, r1, a.2.2⟩ ?_
    cases e1 : k b ρ1 with
    | no => rw [e1] at q; exact q
    | ex k ρ' => rw [e1] at q; exact PX.le q l1
    | ok b2 ρ2 =>
      rw [e1] at q
      exact fun F2 N2 H2 l2 k2 j2 r2 => q F2 N2 H2 (l1.trans l2) (cAnd k1 k2) j2 r2
theorem tB_and {m n : M Bool} {Q : Bool → Hp → Prop} (h : tB G Φ E (c1 && c2) (mAnd m n) σ H Q) : tAnd (tB G Φ E c1 m) (tB G Φ E c2 n) σ H Q :=
  tB_bind h fun b F N R ρ H1 a q => by
    cases b with
    | true => exact ite_tt ⟨F, N, R, ρ, a, q⟩
    | false => exact ite_ff (q F N H1 Le.refl (fun _ => Le.refl) a.1 a.2.1)
theorem tB_or {m n : M Bool} {Q : Bool → Hp → Prop} (h : tB G Φ E (c1 && c2) (mOr m n) σ H Q) : tOr (tB G Φ E c1 m) (tB G Φ E c2 n) σ H Q :=
  tB_bind h fun b F N R ρ H1 a q => by
    cases b with
    | true => exact ite_tt (q F N H1 Le.refl (fun _ => Le.refl) a.1 a.2.1)
    | false => exact ite_ff ⟨F, N, R, ρ, a, q⟩
theorem tB_not {m : M Bool} {Q : Bool → Hp → Prop} (h : tB G Φ E c (mNot m) σ H Q) : tNot (tB G Φ E c m) σ H Q := by
  have h' : tB G Φ E (c && true) (mNot m) σ H Q := by rw [Bool.and_true]; exact h
  exact tB_bind h' fun b F N R ρ H1 a q => q F N H1 Le.refl (fun _ => Le.refl) a.1 a.2.1
theorem emp_in {A B C : Hp} {H : Hp} (j : J [A, B, C] H) : J [A, B, emp, C] H := (J.emp_iff.mpr j).re [1, 2, 0, 3]
theorem emp_out {A B C : Hp} {H : Hp} (j : J [A, B, emp, C] H) : J [A, B, C] H := J.emp_iff.mp (j.re [2, 0, 1, 3])
/-- a test, then an expression -/
theorem tE_ofB {m : M Bool} {k : Bool → Env → O D} {Q : VK} {t : Bool → Hp → Prop} (h : tE G Φ E (c1 && c2) (fun ρ => (m ρ).bind k) σ H Q)
    (hk : ∀ b F N R ρ H1, Here G Φ σ F N R H1 ρ → PostE G E c2 σ F R H1 Q (k b ρ) → t b H1) : tB G Φ E c1 m σ H t := by
  obtain ⟨F, N, R, ρ, a, q⟩ := h
  refine ⟨F, N, R, ρ, a, ?_⟩
  have q : PostE G E (c1 && c2) σ F R H Q ((m ρ).bind k) := q
  cases e : m ρ with
  | no => rw [e] at q; exact q
  | ex k ρ' => rw [e] at q; exact q
  | ok b ρ1 =>
    rw [e] at q
    simp only [O.bind] at q
    intro F1 N1 H1 l1 k1 j1 r1
    refine hk b F1 N1 R ρ1 H1 ⟨j1, r1, a.2.2⟩ ?_
    cases e1 : k b ρ1 with
    | no => rw [e1] at q; exact q
    | ex k ρ' => rw [e1] at q; exact PX.le q l1
    | ok b2 ρ2 =>
      rw [e1] at q
      exact fun v F2 N2 T2 H2 l2 k2 j2 r2 => q v F2 N2 T2 H2 (l1.trans l2) (cAnd k1 k2) j2 r2
theorem PostE.flag {x y : Bool} {F R : Hp} {Q : VK} {o : O D} (h : PostE G E x σ F R H Q o) (i : x = true → y = true) : PostE G E y σ F R H Q o := by
  cases o with
  | no => exact h
  | ex k ρ' => exact h
  | ok d ρ' => exact fun v F' N' T H' l k => h v F' N' T H' l fun z => k (i z)
theorem PostB.flag {x y : Bool} {F R : Hp} {Q : Bool → Hp → Prop} {o : O Bool} (h : PostB G E x σ F R H Q o) (i : x = true → y = true) : PostB G E y σ F R H Q o := by
  cases o with
  | no => exact h
  | ex k ρ' => exact h
  | ok d ρ' => exact fun F' N' H' l k => h F' N' H' l fun z => k (i z)
theorem tE_ite {t : M Bool} {m n : M D} {Q : VK} (h : tE G Φ E (c1 && (c2 && c3)) (mIte t m n) σ H Q) : tIf (tB G Φ E c1 t) (tE G Φ E c2 m) (tE G Φ E c3 n) σ H Q :=
  tE_ofB h fun b F N R ρ H1 a q => by
    cases b with
    | true => exact ite_tt ⟨F, N, R, ρ, a, q.flag fun z => (Bool.and_eq_true _ _ ▸ z).1⟩
    | false => exact ite_ff ⟨F, N, R, ρ, a, q.flag fun z => (Bool.and_eq_true _ _ ▸ z).2⟩
theorem tE_chain {r r' : R2} {f g : D → D → Option D} {ma mb mc : M D} {Q : VK} (hf : F2 G r f) (hg : F2 G r' g) (h : tE G Φ E (c1 && (c2 && c3)) (mChain f g ma mb mc) σ H Q) :
    tChain r r' (tE G Φ E c1 ma) (tE G Φ E c2 mb) (tE G Φ E c3 mc) σ H Q := by
  obtain ⟨F, N, R, ρ, a, q⟩ := h
  refine ⟨F, N, R, ρ, a, ?_⟩
  unfold mChain at q
  cases e : ma ρ with
  | no => rw [e] at q; exact q
  | ex k ρ' => rw [e] at q; exact q
  | ok d ρ1 =>
    rw [e] at q
    intro v F1 N1 T1 H1 l1 k1 j1 r1 o1
    simp only [O.bind] at q
    have jt : J [T1, R] (un T1 R) := (j1.re [2, 3, 0, 1]).join.1
    refine ⟨F1, N1, un T1 R, ρ1, ⟨j1.hide, r1, a.2.2⟩, ?_⟩
    cases e1 : mb ρ1 with
    | no => rw [e1] at q; exact q
    | ex k ρ' => rw [e1] at q; exact PX.more q l1 jt
    | ok d2 ρ2 =>
      rw [e1] at q
      intro w F2 N2 T2 H2 l2 k2 j2 r2 o2
      simp only at q
      have j3 : J [F2, N2, T1, T2, R] H2 := (J.unhide (ys := [T2]) jt (j2.re [0, 1, 3, 2])).re [0, 1, 2, 4, 3]
      split at q
      · rename_i hfe
        split at q
        · rename_i hs
          have j4 := (j3.re [0, 1, 3, 2, 4]).give
          have o2' := own_shr_mem o2 hs j4.2.1 j4.2.2
          have j5 : J [un F2 T2, N2, T1, emp, R] H2 := (J.emp_iff.mpr j4.1).re [1, 2, 3, 0, 4]
          refine hf j5 (own_le (l2.trans j4.2.1) o1) o2' hfe fun z F3 T H3 l3 k3 j6 o3 => ?_
          obtain ⟨rfl, rfl⟩ := o3
          refine ⟨true, rfl, ite_tt ?_⟩
          have j7 := emp_out j6
          have r3 := rel_le (j4.2.1.trans l3) r2
          refine ⟨F3, N2, R, ρ2, ⟨j7, r3, a.2.2⟩, ?_⟩
          have l03 := ((l1.trans l2).trans j4.2.1).trans l3
          cases e3 : mc ρ2 with
          | no => rw [e3] at q; exact q
          | ex k ρ' => rw [e3] at q; exact PX.le q l03
          | ok d3 ρ3 =>
            rw [e3] at q
            simp only at q
            intro u F4 N4 T4 H4 l4 k4 j8 r4 o4
            cases e4 : g d2 d3 with
            | none => rw [e4] at q; exact q.elim
            | some z =>
              rw [e4] at q
              have j9 : J [F4, N4, emp, T4, R] H4 := (J.emp_iff.mpr j8).re [1, 2, 0, 3, 4]
              exact hg j9 (own_le (l3.trans l4) o2') o4 e4 fun v2 F5 T H5 l5 k5 j10 o5 => q v2 F5 N4 T H5 ((l03.trans l4).trans l5) (fun z => (cAnd k1 (cAnd (fun y => (k2 y).trans k3) k4) z).trans k5) j10 (rel_le l5 r4) o5
        · exact q.elim
      · rename_i hfe
        refine hf j3 (own_le l2 o1) o2 hfe fun z F3 T H3 l3 k3 j6 o3 => ?_
        obtain ⟨rfl, rfl⟩ := o3
        refine ⟨false, rfl, ite_ff ?_⟩
        refine q (.bl false) F3 N2 emp H3 ((l1.trans l2).trans l3) (fun z => ?_) j6 (rel_le l3 r2) ⟨rfl, rfl⟩
        rw [Bool.and_eq_true, Bool.and_eq_true] at z
        exact ((k1 z.1).trans (k2 z.2.1)).trans k3
      · exact q.elim
def mAndV (m n : M D) : M D := fun ρ => (m ρ).bind fun d ρ1 => match d with
  | .bl true => n ρ1
  | .bl false => .ok (.bl false) ρ1
  | _ => .no
def mOrV (m n : M D) : M D := fun ρ => (m ρ).bind fun d ρ1 => match d with
  | .bl true => .ok (.bl true) ρ1
  | .bl false => n ρ1
  | _ => .no
theorem PostE.then {F F1 N1 R H1 H0 : Hp} {Q : VK} {o : O D} (h : PostE G E (c1 && c2) σ F R H0 Q o) (l : Le F F1) (k : c1 = true → Le H0 H1) : PostE G E c2 σ F1 R H1 Q o := by
  cases o with
  | no => exact h
  | ex k ρ' => exact PX.le h l
  | ok d ρ' => exact fun v F' N' T H' l' k' => h v F' N' T H' (l.trans l') (cAnd k k')
theorem tE_andV {m n : M D} {Q : VK} (h : tE G Φ E (c1 && c2) (mAndV m n) σ H Q) : tAndV (tE G Φ E c1 m) (tE G Φ E c2 n) σ H Q := by
  obtain ⟨F, N, R, ρ, a, q⟩ := h
  refine ⟨F, N, R, ρ, a, ?_⟩
  unfold mAndV at q
  cases e : m ρ with
  | no => rw [e] at q; exact q
  | ex k ρ' => rw [e] at q; exact q
  | ok d ρ1 =>
    rw [e] at q
    simp only [O.bind] at q
    intro v F1 N1 T1 H1 l1 k1 j1 r1 o1
    split at q
    · obtain ⟨rfl, rfl⟩ := o1
      exact ⟨true, rfl, ite_tt ⟨F1, N1, R, ρ1, ⟨emp_out j1, r1, a.2.2⟩, PostE.then (N1 := N1) q l1 k1⟩⟩
    · obtain ⟨rfl, rfl⟩ := o1
      exact ⟨false, rfl, ite_ff (q (.bl false) F1 N1 emp H1 l1 (fun z => k1 (Bool.and_eq_true _ _ ▸ z).1) j1 r1 ⟨rfl, rfl⟩)⟩
    · exact q.elim
theorem tE_orV {m n : M D} {Q : VK} (h : tE G Φ E (c1 && c2) (mOrV m n) σ H Q) : tOrV (tE G Φ E c1 m) (tE G Φ E c2 n) σ H Q := by
  obtain ⟨F, N, R, ρ, a, q⟩ := h
  refine ⟨F, N, R, ρ, a, ?_⟩
  unfold mOrV at q
  cases e : m ρ with
  | no => rw [e] at q; exact q
  | ex k ρ' => rw [e] at q; exact q
  | ok d ρ1 =>
    rw [e] at q
    simp only [O.bind] at q
    intro v F1 N1 T1 H1 l1 k1 j1 r1 o1
    split at q
    · obtain ⟨rfl, rfl⟩ := o1
      exact ⟨true, rfl, ite_tt (q (.bl true) F1 N1 emp H1 l1 (fun z => k1 (Bool.and_eq_true _ _ ▸ z).1) j1 r1 ⟨rfl, rfl⟩)⟩
    · obtain ⟨rfl, rfl⟩ := o1
      exact ⟨false, rfl, ite_ff ⟨F1, N1, R, ρ1, ⟨emp_out j1, r1, a.2.2⟩, PostE.then (N1 := N1) q l1 k1⟩⟩
    · exact q.elim
def mNotV (m : M D) : M D := mUn (fun d => match d with
  | .bl b => some (.bl (!b))
  | _ => none) m
theorem tE_notV {m : M D} {Q : VK} (h : tE G Φ E c (mNotV m) σ H Q) : tNotV (tE G Φ E c m) σ H Q := by
  refine tE_un (r := fun x H1 Q => ∃ b, x = .bl b ∧ Q (.bl (!b)) H1) ?_ h
  intro F N T R H x d z Q j o hz k
  cases d with
  | bl b =>
    cases hz
    obtain ⟨rfl, rfl⟩ := o
    exact ⟨b, rfl, k _ F emp H Le.refl Le.refl j ⟨rfl, rfl⟩⟩
  | _ => cases hz
end

section
variable {X : Cx} {cl : Nat → Addr} {Φ : St → Prop} {E : St → XK} {c c1 c2 c3 : Bool} {a b : Expr} {es : List Expr} {pos : Pos}
structure RW (X : Cx) (cl : Nat → Addr) (Φ : St → Prop) (E : St → XK) (c : Bool) (e : Expr) (m : M Bool) : Prop where
  pw : PW X e (tB (gx X cl) Φ E c m)
theorem _root_.L2.PW.weak {X : Cx} {e : Expr} {t t' : TT} (h : PW X e t) (w : ∀ σ H Q, t' σ H Q → t σ H Q) : PW X e t' := ⟨fun whole pins s σ H Q I q => h.run whole pins s σ H Q I (w σ H Q q)⟩
theorem rb_val {m : M D} (h : RE X cl Φ E c a m) (he : ∀ whole, isTrue a X.env whole = (do let v ← whole; standAt a.pos; holding [v] (truthy v)) := by intro _; rfl) : RB X cl Φ E c a (mTst m) := ⟨(pt_val h.pe he).weak fun _ _ _ q => tB_val q⟩
theorem rw_and1 {m : M Bool} (h : RB X cl Φ E c a m) : RW X cl Φ E c (.BoolOp .And [a] pos) m := ⟨pw_and1 h.pt⟩
theorem rw_or1 {m : M Bool} (h : RB X cl Φ E c a m) : RW X cl Φ E c (.BoolOp .Or [a] pos) m := ⟨pw_or1 h.pt⟩
theorem rw_and {m n : M Bool} (h : RB X cl Φ E c1 a m) (h' : RW X cl Φ E c2 (.BoolOp .And (b :: es) pos) n) : RW X cl Φ E (c1 && c2) (.BoolOp .And (a :: b :: es) pos) (mAnd m n) := ⟨(pw_and h.pt h'.pw).weak fun _ _ _ q => tB_and q⟩
theorem rw_or {m n : M Bool} (h : RB X cl Φ E c1 a m) (h' : RW X cl Φ E c2 (.BoolOp .Or (b :: es) pos) n) : RW X cl Φ E (c1 && c2) (.BoolOp .Or (a :: b :: es) pos) (mOr m n) := ⟨(pw_or h.pt h'.pw).weak fun _ _ _ q => tB_or q⟩
theorem rb_w {m : M Bool} (h : RW X cl Φ E c a m) : RB X cl Φ E c a m := ⟨h.pw.pt⟩
theorem rb_not {m : M Bool} (h : RB X cl Φ E c a m) : RB X cl Φ E c (.UnaryOp .Not a pos) (mNot m) := ⟨(pt_not h.pt).weak fun _ _ _ q => tB_not q⟩
theorem re_ite {t : Expr} {mt : M Bool} {m n : M D} (ht : RB X cl Φ E c1 t mt) (h : RE X cl Φ E c2 a m) (h' : RE X cl Φ E c3 b n) : RE X cl Φ E (c1 && (c2 && c3)) (.IfExp t a b pos) (mIte mt m n) := ⟨(pe_ifExp ht.pt h.pe h'.pe).weak fun _ _ _ q => tE_ite q⟩
theorem re_and {m n : M D} (h : RE X cl Φ E c1 a m) (h' : RE X cl Φ E c2 (.BoolOp .And (b :: es) pos) n) : RE X cl Φ E (c1 && c2) (.BoolOp .And (a :: b :: es) pos) (mAndV m n) := ⟨(pe_and h.pe h'.pe).weak fun _ _ _ q => tE_andV q⟩
theorem re_or {m n : M D} (h : RE X cl Φ E c1 a m) (h' : RE X cl Φ E c2 (.BoolOp .Or (b :: es) pos) n) : RE X cl Φ E (c1 && c2) (.BoolOp .Or (a :: b :: es) pos) (mOrV m n) := ⟨(pe_or h.pe h'.pe).weak fun _ _ _ q => tE_orV q⟩
theorem re_one {op} {m : M D} (h : RE X cl Φ E c a m) : RE X cl Φ E c (.BoolOp op [a] pos) m := ⟨pe_one h.pe⟩
theorem re_not {m : M D} (h : RE X cl Φ E c a m) : RE X cl Φ E c (.UnaryOp .Not a pos) (mNotV m) := ⟨(pe_not h.pe).weak fun _ _ _ q => tE_notV q⟩
theorem re_chain {op op' : CmpOp} {r r' : R2} {f g : D → D → Option D} {e3 : Expr} {ma mb mc : M D} (ho : OpR X (compareOp op) r) (hf : F2 (gx X cl) r f) (ho' : OpR X (compareOp op') r') (hg : F2 (gx X cl) r' g)
    (ha : RE X cl Φ E c1 a ma) (hb : RE X cl Φ E c2 b mb) (hc : RE X cl Φ E c3 e3 mc) (hm : lastMarks [op, op'] [b, e3] = false := by with_unfolding_all rfl) :
    RE X cl Φ E (c1 && (c2 && c3)) (.Compare a [op, op'] [b, e3] pos) (mChain f g ma mb mc) := ⟨(pe_chain ho ho' ha.pe hb.pe hc.pe hm).weak fun _ _ _ q => tE_chain hf hg q⟩
end
end Z

end
section
set_option maxRecDepth 100000
/-! Z: statements, loops -/
namespace Z
open PySem PySem.Spec L2
open PyProof.Rows hiding St
def mSkip : M Fl := fun ρ => .ok .nx ρ
def mSeq (s t : M Fl) : M Fl := fun ρ => match s ρ with
  | .ok .nx ρ' => t ρ'
  | o => o
def goG (x : O Unit) (k : Env → O Fl) : O Fl := match x with
  | .ok _ ρ => k ρ
  | _ => .no
def mAsg (g : D → M Unit) (m : M D) : M Fl := fun ρ => (m ρ).bind fun d ρ1 => goG (g d ρ1) fun ρ2 => .ok .nx ρ2
def mIf (t : M Bool) (a b : M Fl) : M Fl := fun ρ => (t ρ).bind fun x ρ1 => if x = true then a ρ1 else b ρ1
def mRet (m : M D) : M Fl := fun ρ => (m ρ).bind fun d ρ1 => .ok (.rt d) ρ1
def mRetN : M Fl := fun ρ => .ok (.rt .non) ρ
def mDo (m : M D) : M Fl := fun ρ => (m ρ).bind fun _ ρ1 => .ok .nx ρ1
def mBrk : M Fl := fun ρ => .ok .bk ρ
def mCnt : M Fl := fun ρ => .ok .ct ρ
def mWhile (t : M Bool) (b : M Fl) : Nat → M Fl
  | 0 => fun _ => .no
  | n + 1 => fun ρ => (t ρ).bind fun x ρ1 => if x = true then (match b ρ1 with
      | .ok .nx ρ2 => mWhile t b n ρ2
      | .ok .ct ρ2 => mWhile t b n ρ2
      | .ok .bk ρ2 => .ok .nx ρ2
      | o => o) else .ok .nx ρ1
def mLoop (g : D → M Unit) (b : M Fl) : List D → M Fl
  | [] => fun ρ => .ok .nx ρ
  | d :: ds => fun ρ => goG (g d ρ) fun ρ1 => match b ρ1 with
      | .ok .nx ρ2 => mLoop g b ds ρ2
      | .ok .ct ρ2 => mLoop g b ds ρ2
      | .ok .bk ρ2 => .ok .nx ρ2
      | o => o
/-- what is put back behind a loop: a slot, its tree -/
abbrev Bk := Option (Nat × D)
def putBk (k : Bk) (ρ : Env) : Env := match k with
  | none => ρ
  | some (i, d) => ρ.set i d
def holeAt (k : Bk) (ρ : Env) : Bool := match k with
  | none => true
  | some (i, _) => match ρ[i]? with
    | some .hole => true
    | _ => false
def finB (k : Bk) (o : O Fl) : O Fl := match o with
  | .ok .nx ρ2 => if holeAt k ρ2 = true then .ok .nx (putBk k ρ2) else .no
  | .ok (.rt d) ρ2 => if holeAt k ρ2 = true then .ok (.rt d) (putBk k ρ2) else .no
  | o => o
def mFor (it : M (List D × Bk)) (g : D → M Unit) (b : M Fl) : M Fl := fun ρ => (it ρ).bind fun x ρ1 => finB x.2 (mLoop g b x.1 ρ1)
def dName (i : Nat) : D → M Unit := fun d ρ => match ρ[i]? with
  | some _ => .ok () (ρ.set i d)
  | none => .no
def dSkip : D → M Unit := fun _ ρ => .ok () ρ
def dTup (n : Nat) (g : List D → M Unit) : D → M Unit := fun d ρ => match d with
  | .tup ds => if ds.length = n then g ds ρ else .no
  | _ => .no
def dNil : List D → M Unit := fun ds ρ => match ds with
  | [] => .ok () ρ
  | _ => .no
def dCons (g : D → M Unit) (h : List D → M Unit) : List D → M Unit := fun ds ρ => match ds with
  | d :: r => (g d ρ).bind fun _ ρ1 => h r ρ1
  | [] => .no

section
variable (G : Gx) (Φ : St → Prop) (E : St → XK)
def PostG (F R : Hp) (Q : St → Hp → Prop) : O Unit → Prop
  | .ok _ ρ' => ∀ F' N' H' σ', Le F F' → Here G Φ σ' F' N' R H' ρ' → Q σ' H'
  | _ => False
def tG (g : D → M Unit) : TG := fun v σ H Q => ∃ F N T R ρ d, J [F, N, T, R] H ∧ Rel G F ρ σ N ∧ Φ σ ∧ Own G F d v T ∧ PostG G Φ F R Q (g d ρ)
def tGs (g : List D → M Unit) : TGs := fun vs σ H Q => ∃ F N T R ρ ds, J [F, N, T, R] H ∧ Rel G F ρ σ N ∧ Φ σ ∧ OwnL G F ds vs T ∧ PostG G Φ F R Q (g ds ρ)
/-- what a walked thing yields, as trees; T is kept while it is walked -/
def Feeds (F T : Hp) (Jt : It) (ds : List D) : Prop := ∀ F' H, Le F F' → Le F' H → Le T H → Jt.stop ds.length H ∧ ∀ i d, ds[i]? = some d → Jt.go i H ∧
  ∀ x H' N R, Jt.yld i H x H' → J [F', N, R] H → ∃ F'' T', Le F' F'' ∧ J [F'', N, T', R] H' ∧ Own G F'' d x T'
def BackOk (F T : Hp) (σ : St) (ρ : Env) : Bk → Prop
  | none => True
  | some (i, d) => ∃ v, σ[i]? = some (some v) ∧ Own G F d v T ∧ ∀ σ', Φ σ' → σ'[i]? = some (some v)
def PostI (σ : St) (F R : Hp) (Q : It → Hp → Prop) : O (List D × Bk) → Prop
  | .ok (ds, k) ρ' => ∀ Jt F' N' T H', Le F F' → J [F', N', T, R] H' → Rel G F' ρ' σ N' → Feeds G F' T Jt ds → BackOk G Φ F' T σ ρ' k → Q Jt H'
  | .ex k ρ' => PX G E σ F R k ρ'
  | .no => False
def tI (m : M (List D × Bk)) : TI := fun σ H Q => ∃ F N R ρ, Here G Φ σ F N R H ρ ∧ PostI G Φ E σ F R Q (m ρ)
end
section
variable (X : Cx) (cl : Nat → Addr) (Φ : St → Prop) (E : St → XK)
structure RG (tg : Expr) (g : D → M Unit) : Prop where
  pg : PG X tg (tG (gx X cl) Φ g)
structure RGs (tgs : List Expr) (g : List D → M Unit) : Prop where
  pgs : PGs X tgs (tGs (gx X cl) Φ g)
structure RI (tg iter : Expr) (m : M (List D × Bk)) : Prop where
  pi : PI X tg iter (tI (gx X cl) Φ E m)
end
theorem _root_.L2.PG.weak {X : Cx} {e : Expr} {t t' : TG} (h : PG X e t) (w : ∀ v σ H Q, t' v σ H Q → t v σ H Q) : PG X e t' := ⟨fun pins s σ H x u Q I r q => h.run pins s σ H x u Q I r (w x σ H Q q)⟩
theorem _root_.L2.PGs.weak {X : Cx} {e : List Expr} {t t' : TGs} (h : PGs X e t) (w : ∀ v σ H Q, t' v σ H Q → t v σ H Q) : PGs X e t' := ⟨fun pins s σ H x u Q I r q => h.run pins s σ H x u Q I r (w x σ H Q q)⟩

section
variable {G : Gx} {Φ : St → Prop} {E : St → XK} {c c1 c2 : Bool} {σ : St} {H : Hp} {D' : Ends}
theorem tS_seq {s t : M Fl} (h : tS G Φ E (mSeq s t) D' σ H) : tSeq (tS G Φ E s) (tS G Φ E t) D' σ H := by
  obtain ⟨F, N, R, ρ, a, q⟩ := h
  refine ⟨F, N, R, ρ, a, ?_⟩
  unfold mSeq at q
  cases e : s ρ with
  | no => rw [e] at q; exact q
  | ex k ρ' => rw [e] at q; exact q
  | ok f ρ' =>
    rw [e] at q
    cases f with
    | nx => exact fun F' N' H' σ' l a' => ⟨F', N', R, ρ', a', PostS.le q l⟩
    | bk => exact q
    | ct => exact q
    | rt d => exact q
theorem tS_skip (h : tS G Φ E mSkip D' σ H) : tNext D' σ H := by
  obtain ⟨F, N, R, ρ, a, q⟩ := h
  exact q F N H σ Le.refl a
theorem tS_brk (h : tS G Φ E mBrk D' σ H) : tBreak D' σ H := by
  obtain ⟨F, N, R, ρ, a, q⟩ := h
  exact q F N H σ Le.refl a
theorem tS_cnt (h : tS G Φ E mCnt D' σ H) : tCont D' σ H := by
  obtain ⟨F, N, R, ρ, a, q⟩ := h
  exact q F N H σ Le.refl a
/-- an expression, then a statement's rest -/
theorem tS_ofE {m : M D} {k : D → Env → O Fl} {t : VK} (h : tS G Φ E (fun ρ => (m ρ).bind k) D' σ H)
    (hk : ∀ d v F N T R ρ H1, J [F, N, T, R] H1 → Rel G F ρ σ N → Φ σ → Own G F d v T → PostS G Φ E F R D' (k d ρ) → t v H1) : tE G Φ E c m σ H t := by
  obtain ⟨F, N, R, ρ, a, q⟩ := h
  refine ⟨F, N, R, ρ, a, ?_⟩
  have q : PostS G Φ E F R D' ((m ρ).bind k) := q
  cases e : m ρ with
  | no => rw [e] at q; exact q
  | ex k ρ' => rw [e] at q; exact q σ a.2.2
  | ok d ρ1 =>
    rw [e] at q
    intro v F1 N1 T1 H1 l1 k1 j1 r1 o1
    exact hk d v F1 N1 T1 R ρ1 H1 j1 r1 a.2.2 o1 (PostS.le q l1)
theorem tS_asg {g : D → M Unit} {m : M D} (h : tS G Φ E (mAsg g m) D' σ H) : tAsg (tE G Φ E c m) (tG G Φ g) D' σ H :=
  tS_ofE h fun d v F N T R ρ H1 j r f o q => by
    refine ⟨F, N, T, R, ρ, d, j, r, f, o, ?_⟩
    cases e : g d ρ with
    | no => rw [e] at q; exact q
    | ex k ρ' => rw [e] at q; exact q
    | ok u ρ1 => rw [e] at q; exact q
theorem tS_ret {m : M D} (h : tS G Φ E (mRet m) D' σ H) : tRet (tE G Φ E c m) D' σ H :=
  tS_ofE h fun d v F N T R ρ H1 j r f o q => q v F N T H1 σ Le.refl j r f o
theorem tS_retN (h : tS G Φ E mRetN D' σ H) : tRetN D' σ H := by
  obtain ⟨F, N, R, ρ, a, q⟩ := h
  exact q .non F N emp H σ Le.refl (emp_in a.1) a.2.1 a.2.2 ⟨rfl, rfl⟩
theorem tS_do {m : M D} (h : tS G Φ E (mDo m) D' σ H) : tDrop (tE G Φ E c m) D' σ H :=
  tS_ofE h fun d v F N T R ρ H1 j r f o q => by
    have dd := dump1 j
    exact q _ N H1 σ dd.2.1 ⟨emp_out dd.1, rel_le dd.2.1 r, f⟩
theorem tS_if {t : M Bool} {a b : M Fl} (h : tS G Φ E (mIf t a b) D' σ H) : tIfS (tB G Φ E c t) (tS G Φ E a) (tS G Φ E b) D' σ H := by
  obtain ⟨F, N, R, ρ, x, q⟩ := h
  refine ⟨F, N, R, ρ, x, ?_⟩
  have q : PostS G Φ E F R D' ((t ρ).bind fun x ρ1 => if x = true then a ρ1 else b ρ1) := q
  cases e : t ρ with
  | no => rw [e] at q; exact q
  | ex k ρ' => rw [e] at q; exact q σ x.2.2
  | ok d ρ1 =>
    rw [e] at q
    intro F1 N1 H1 l1 k1 j1 r1
    cases d with
    | true => exact ite_tt ⟨F1, N1, R, ρ1, ⟨j1, r1, x.2.2⟩, PostS.le q l1⟩
    | false => exact ite_ff ⟨F1, N1, R, ρ1, ⟨j1, r1, x.2.2⟩, PostS.le q l1⟩
/-- a turn of a loop -/
theorem turn {F R : Hp} {b : M Fl} {W : St → Hp → Prop} {o : O Fl} {k : Env → O Fl} (q : PostS G Φ E F R D' (match o with
      | .ok .nx ρ2 => k ρ2
      | .ok .ct ρ2 => k ρ2
      | .ok .bk ρ2 => .ok .nx ρ2
      | o => o)) (hW : ∀ F' N' H' σ' ρ2, Le F F' → Here G Φ σ' F' N' R H' ρ2 → PostS G Φ E F' R D' (k ρ2) → W σ' H') :
    PostS G Φ E F R { D' with nx := W, ct := W, bk := D'.nx } o := by
  cases o with
  | no => exact q
  | ex k ρ' => exact q
  | ok f ρ2 =>
    cases f with
    | nx => exact fun F' N' H' σ' l a => hW F' N' H' σ' ρ2 l a (PostS.le q l)
    | ct => exact fun F' N' H' σ' l a => hW F' N' H' σ' ρ2 l a (PostS.le q l)
    | bk => exact q
    | rt d => exact q
theorem tS_while {t : M Bool} {b : M Fl} {n : Nat} (h : tS G Φ E (mWhile t b n) D' σ H) : tWhile (tB G Φ E c t) (tS G Φ E b) D' σ H := by
  obtain ⟨F, N, R, ρ, a, q⟩ := h
  refine ⟨fun m σ H => ∃ F N ρ, Here G Φ σ F N R H ρ ∧ PostS G Φ E F R D' (mWhile t b m ρ), ⟨n, F, N, ρ, a, q⟩, ?_⟩
  rintro m σ H ⟨F, N, ρ, a, q⟩
  cases m with
  | zero => exact q.elim
  | succ m =>
    refine ⟨F, N, R, ρ, a, ?_⟩
    unfold mWhile at q
    cases e : t ρ with
    | no => rw [e] at q; exact q
    | ex k ρ' => rw [e] at q; exact q σ a.2.2
    | ok x ρ1 =>
      rw [e] at q
      intro F1 N1 H1 l1 k1 j1 r1
      cases x with
      | true =>
        refine ite_tt ⟨_, fun σ' H' w => ⟨m, Nat.lt_succ_self m, w⟩, F1, N1, R, ρ1, ⟨j1, r1, a.2.2⟩, ?_⟩
        exact turn (b := b) (PostS.le q l1) fun F' N' H' σ' ρ2 l a' q' => ⟨F', N', ρ2, a', q'⟩
      | false => exact ite_ff (q F1 N1 H1 σ l1 ⟨j1, r1, a.2.2⟩)

theorem back_in {F T N R : Hp} {k : Bk} {ρ : Env} {σ0 : St} {ρ0 : Env} (j : J [F, N, T, R] H) (r : Rel G F ρ σ N) (f : Φ σ) (b : BackOk G Φ F T σ0 ρ0 k) (h : holeAt k ρ = true) :
    ∃ F' N', Le F F' ∧ Here G Φ σ F' N' R H (putBk k ρ) := by
  cases k with
  | none =>
    have dd := dump1 j
    exact ⟨_, N, dd.2.1, emp_out dd.1, rel_le dd.2.1 r, f⟩
  | some p =>
    obtain ⟨i, d⟩ := p
    obtain ⟨v, _, o, s⟩ := b
    have hh : ρ[i]? = some .hole := by
      simp only [holeAt] at h
      split at h
      · assumption
      · cases h
    obtain ⟨ov, M1, Mr, e1, jm, w, kk⟩ := rel_at r hh
    have em : M1 = emp := by
      rcases w with w | ⟨_, _, w⟩
      · exact w.2
      · exact w
    subst em
    have en := (J.emp_iff.mp jm).eq1
    subst en
    obtain ⟨j1, j2⟩ := (j.re [2, 1, 0, 3]).join
    have r2 := kk F d (some v) T (un T N) Le.refl (.inr ⟨v, rfl, o⟩) j1
    rw [set_self (s σ f)] at r2
    exact ⟨F, _, Le.refl, j2.re [1, 0, 2], r2, f⟩
theorem fin_post {F F1 T R : Hp} {k : Bk} {o : O Fl} {σ0 : St} {ρ0 : Env} (q : PostS G Φ E F R D' (finB k o)) (l : Le F F1) (jt : J [T, R] (un T R)) (b : BackOk G Φ F1 T σ0 ρ0 k) : PostS G Φ E F1 (un T R) D' o := by
  have un2 : ∀ {F' N' H'}, J [F', N', un T R] H' → J [F', N', T, R] H' := fun j => J.unhide (ys := []) jt j
  have bk : ∀ {F'}, Le F1 F' → BackOk G Φ F' T σ0 ρ0 k := fun l' => by
    cases k with
    | none => trivial
    | some p =>
      obtain ⟨i, d⟩ := p
      obtain ⟨v, e, o, s⟩ := b
      exact ⟨v, e, own_le l' o, s⟩
  cases o with
  | no => exact q
  | ex k ρ' => exact fun σ' f => PX.more (q σ' f) l jt
  | ok fl ρ2 =>
    cases fl with
    | nx =>
      intro F' N' H' σ' l' a
      simp only [finB] at q
      split at q
      · obtain ⟨F2, N2, l2, a2⟩ := back_in (un2 a.1) a.2.1 a.2.2 (bk l') ‹_›
        exact q F2 N2 H' σ' ((l.trans l').trans l2) a2
      · exact q.elim
    | rt d =>
      intro v F' N' T' H' σ' l' j r f o
      simp only [finB] at q
      split at q
      · have j2 : J [T', F', N', T, R] H' := (J.unhide (ys := [T']) jt (j.re [0, 1, 3, 2])).re [4, 0, 1, 2, 3]
        obtain ⟨j3, j4⟩ := ((j2.re [0, 4, 1, 2, 3]).join)
        obtain ⟨F2, N2, l2, a2⟩ := back_in (j4.re [1, 2, 3, 0]) r f (bk l') ‹_›
        exact q v F2 N2 T' H' σ' ((l.trans l').trans l2) (J.unhide (ys := []) j3 a2.1) a2.2.1 f (own_le l2 o)
      · exact q.elim
    | bk =>
      intro F' N' H' σ' l' a
      have dd := dump1 (un2 a.1)
      exact q _ N' H' σ' ((l.trans l').trans dd.2.1) ⟨emp_out dd.1, rel_le dd.2.1 a.2.1, a.2.2⟩
    | ct =>
      intro F' N' H' σ' l' a
      have dd := dump1 (un2 a.1)
      exact q _ N' H' σ' ((l.trans l').trans dd.2.1) ⟨emp_out dd.1, rel_le dd.2.1 a.2.1, a.2.2⟩
theorem tS_for {it : M (List D × Bk)} {g : D → M Unit} {b : M Fl} (h : tS G Φ E (mFor it g b) D' σ H) : tFor (tI G Φ E it) (tG G Φ g) (tS G Φ E b) D' σ H := by
  obtain ⟨F, N, R, ρ, a, q⟩ := h
  refine ⟨F, N, R, ρ, a, ?_⟩
  have q : PostS G Φ E F R D' ((it ρ).bind fun x ρ1 => finB x.2 (mLoop g b x.1 ρ1)) := q
  cases e : it ρ with
  | no => rw [e] at q; exact q
  | ex k ρ' => rw [e] at q; exact q σ a.2.2
  | ok x ρ1 =>
    obtain ⟨ds, k⟩ := x
    rw [e] at q
    intro Jt F1 N1 T H1 l1 j1 r1 fd bo
    have jt : J [T, R] (un T R) := (j1.re [2, 3, 0, 1]).join.1
    have q1 : PostS G Φ E F1 (un T R) D' (mLoop g b ds ρ1) := fin_post q l1 jt bo
    refine ⟨fun i m σ' H' => i + m = ds.length ∧ ∃ F' N' ρ', Le F1 F' ∧ Here G Φ σ' F' N' (un T R) H' ρ' ∧ PostS G Φ E F' (un T R) D' (mLoop g b (ds.drop i) ρ'),
      ⟨ds.length, by omega, F1, N1, ρ1, Le.refl, ⟨j1.hide, r1, a.2.2⟩, q1⟩, ?_⟩
    rintro i m σ' H' ⟨hm, F', N', ρ', l', a', q'⟩
    have jj : J [F', N', T, R] H' := J.unhide (ys := []) jt a'.1
    obtain ⟨f1, f2⟩ := fd F' H' l' jj.le (jj.sub (by simp))
    by_cases hi : i < ds.length
    · have e1 : ds[i]? = some ds[i] := List.getElem?_eq_getElem hi
      rw [List.drop_eq_getElem_cons hi] at q'
      obtain ⟨g1, g2⟩ := f2 i _ e1
      refine .inr ⟨g1, _, fun σ2 H2 w => ⟨m - 1, by omega, w⟩, fun x H2 y => ?_⟩
      obtain ⟨F2, T', l2, j2, o2⟩ := g2 x H2 N' (un T R) y a'.1
      refine ⟨F2, N', T', un T R, ρ', _, j2, rel_le l2 a'.2.1, a'.2.2, o2, ?_⟩
      unfold mLoop at q'
      cases e2 : g ds[i] ρ' with
      | no => rw [e2] at q'; exact q'
      | ex k ρ' => rw [e2] at q'; exact q'
      | ok u ρ2 =>
        rw [e2] at q'
        intro F3 N3 H3 σ3 l3 a3
        refine ⟨F3, N3, un T R, ρ2, a3, ?_⟩
        exact turn (b := b) (PostS.le q' (l2.trans l3)) fun F4 N4 H4 σ4 ρ4 l4 a4 q4 => ⟨by omega, F4, N4, ρ4, ((l'.trans l2).trans l3).trans l4, a4, q4⟩
    · have ei : i = ds.length := by omega
      subst ei
      rw [List.drop_length] at q'
      exact .inl ⟨f1, q' F' N' H' σ' Le.refl a'⟩
/-! targets -/
theorem tG_name {i : Nat} {v : V} {Q : St → Hp → Prop} (hΦ : ∀ σ v, Φ σ → Φ (σ.set i (some v))) (h : tG G Φ (dName i) v σ H Q) : gName i v σ H Q := by
  obtain ⟨F, N, T, R, ρ, d, j, r, f, o, q⟩ := h
  unfold dName at q
  cases e : ρ[i]? with
  | none => rw [e] at q; exact q.elim
  | some d0 =>
    rw [e] at q
    obtain ⟨ov, M1, Mr, e1, jm, w, kk⟩ := rel_at r e
    have j1 : J [M1, Mr, F, T, R] H := J.nest (xs := [F, T, R]) jm (j.re [1, 0, 2, 3])
    have j2 := (j1.re [2, 1, 0, 3, 4]).give
    obtain ⟨j3, j4⟩ := (j2.1.re [2, 1, 0, 3]).join
    exact q _ _ H _ j2.2.1 ⟨j4.re [1, 0, 2], kk _ d (some v) T _ j2.2.1 (.inr ⟨v, rfl, own_le j2.2.1 o⟩) j3, hΦ σ v f⟩
theorem tG_tup {g : List D → M Unit} {n : Nat} {v : V} {Q : St → Hp → Prop} (h : tG G Φ (fun d ρ => match d with
    | .tup ds => if ds.length = n then g ds ρ else .no
    | _ => .no) v σ H Q) : gTup G.K n (tGs G Φ g) v σ H Q := by
  obtain ⟨F, N, T, R, ρ, d, j, r, f, o, q⟩ := h
  cases d with
  | tup ds =>
    by_cases hn : ds.length = n
    · simp only [if_pos hn] at q
      obtain ⟨a, vs, S, C, rfl, j1, w, gg⟩ := own_tup o
      have j2 : J [S, C, F, N, R] H := J.nest (xs := [F, N, R]) j1 (j.re [2, 0, 1, 3])
      have j3 := (j2.re [2, 3, 0, 1, 4]).give
      refine ⟨a, vs, rfl, gg H j.le (j.sub (by simp)), by rw [ownL_len w]; exact hn, _, N, C, R, ρ, ds, j3.1, rel_le j3.2.1 r, f, ownL_le j3.2.1 w, ?_⟩
      cases e : g ds ρ with
      | no => rw [e] at q; exact q
      | ex k ρ' => rw [e] at q; exact q
      | ok u ρ' => rw [e] at q; exact fun F' N' H' σ' l => q F' N' H' σ' (j3.2.1.trans l)
    · simp only [if_neg hn] at q; exact q.elim
  | _ => exact q.elim
theorem tGs_nil {vs : List V} {Q : St → Hp → Prop} (h : tGs G Φ dNil vs σ H Q) : gNil vs σ H Q := by
  obtain ⟨F, N, T, R, ρ, ds, j, r, f, o, q⟩ := h
  cases ds with
  | nil =>
    obtain ⟨rfl, rfl⟩ := o
    exact ⟨rfl, q F N H σ Le.refl ⟨emp_out j, r, f⟩⟩
  | cons d ds => exact q.elim
theorem tGs_cons {g : D → M Unit} {g' : List D → M Unit} {vs : List V} {Q : St → Hp → Prop} (h : tGs G Φ (dCons g g') vs σ H Q) : gCons (tG G Φ g) (tGs G Φ g') vs σ H Q := by
  obtain ⟨F, N, T, R, ρ, ds, j, r, f, o, q⟩ := h
  cases ds with
  | nil => exact q.elim
  | cons d ds =>
    obtain ⟨v, w, M1, M2, rfl, jm, o1, o2⟩ := o
    have j1 : J [M1, M2, F, N, R] H := J.nest (xs := [F, N, R]) jm (j.re [2, 0, 1, 3])
    obtain ⟨j2, j3⟩ := (j1.re [1, 4, 0, 2, 3]).join
    refine ⟨v, w, rfl, F, N, M1, un M2 R, ρ, d, j3.re [2, 3, 1, 0], r, f, o1, ?_⟩
    have q : PostG G Φ F R Q ((g d ρ).bind fun _ ρ1 => g' ds ρ1) := q
    cases e : g d ρ with
    | no => rw [e] at q; exact q
    | ex k ρ' => rw [e] at q; exact q
    | ok u ρ1 =>
      rw [e] at q
      intro F1 N1 H1 σ1 l1 a1
      refine ⟨F1, N1, M2, R, ρ1, ds, J.unhide (ys := []) j2 a1.1, a1.2.1, a1.2.2, ownL_le l1 o2, ?_⟩
      have q : PostG G Φ F R Q (g' ds ρ1) := q
      cases e1 : g' ds ρ1 with
      | no => rw [e1] at q; exact q
      | ex k ρ' => rw [e1] at q; exact q
      | ok u ρ2 => rw [e1] at q; exact fun F' N' H' σ' l => q F' N' H' σ' (l1.trans l)
/-! what is walked -/
theorem feeds_range {F T : Hp} {lo : Int} {n : Nat} : Feeds G F T (Itr lo n) ((List.range n).map fun i : Nat => .int (lo + (i : Int))) := by
  intro F' H' l l1 l2
  refine ⟨by simp [Itr], fun i d e => ?_⟩
  rw [List.getElem?_map] at e
  have hi : i < n := by
    cases hh : (List.range n)[i]? with
    | none => rw [hh] at e; cases e
    | some k => have := List.getElem?_eq_some_iff.mp hh; simpa using this.1
  rw [List.getElem?_range hi] at e
  cases e
  refine ⟨hi, fun x H2 N R y j => ?_⟩
  obtain ⟨rfl, rfl⟩ := y
  exact ⟨F', emp, Le.refl, emp_in j, rfl, rfl⟩
theorem ownL_get {F : Hp} : ∀ {ds : List D} {vs : List V} {i : Nat} {d : D}, OwnL G F ds vs emp → ds[i]? = some d → ∃ v, vs[i]? = some v ∧ Own G F d v emp
  | [], _, _, _, _, e => by simp at e
  | d :: ds, vs, 0, d', h, e => by
    obtain ⟨v, r, M1, M2, rfl, j, h1, h2⟩ := h
    simp at e; subst e
    have : M1 = emp := by
      funext a
      exact J.clear j (a := a) rfl (by simp)
    subst this
    exact ⟨v, rfl, h1⟩
  | d :: ds, vs, i + 1, d', h, e => by
    obtain ⟨v, r, M1, M2, rfl, j, h1, h2⟩ := h
    have : M2 = emp := by
      funext a
      exact J.clear j (a := a) rfl (by simp)
    subst this
    obtain ⟨w, e', o⟩ := ownL_get (i := i) h2 (by simpa using e)
    exact ⟨w, by simpa using e', o⟩
theorem sq_inj {K : PySem.W.Frag} : True := trivial
theorem feeds_list {F T : Hp} {a : Addr} {vs : List V} {ds : List D} (h : ∀ H, Le F H → Le T H → SqL G.K H a vs) (o : OwnL G F ds vs emp) : Feeds G F T (Itl G.K a) ds := by
  intro F' H' l l1 l2
  have s := h H' (l.trans l1) l2
  have hl := ownL_len o
  refine ⟨⟨vs, s, by omega⟩, fun i d e => ?_⟩
  obtain ⟨v, e1, ov⟩ := ownL_get o e
  refine ⟨⟨vs, v, s, e1⟩, fun x H2 N R y j => ?_⟩
  obtain ⟨rfl, y⟩ := y
  have := y vs s
  rw [e1] at this
  cases this
  exact ⟨F', emp, Le.refl, emp_in j, own_le l ov⟩
theorem feeds_tup {F T : Hp} {a : Addr} {vs : List V} {ds : List D} (h : ∀ H, Le F H → Le T H → SqT G.K H a vs) (o : OwnL G F ds vs emp) : Feeds G F T (Itt G.K a) ds := by
  intro F' H' l l1 l2
  have s := h H' (l.trans l1) l2
  have hl := ownL_len o
  refine ⟨⟨vs, s, by omega⟩, fun i d e => ?_⟩
  obtain ⟨v, e1, ov⟩ := ownL_get o e
  refine ⟨⟨vs, v, s, e1⟩, fun x H2 N R y j => ?_⟩
  obtain ⟨rfl, y⟩ := y
  have := y vs s
  rw [e1] at this
  cases this
  exact ⟨F', emp, Le.refl, emp_in j, own_le l ov⟩
end
end Z

end
section
set_option maxRecDepth 100000
/-! Z: statements' rules, defs, calls -/
namespace Z
open PySem PySem.Spec L2
open PyProof.Rows hiding St
/-- what every place of a body knows -/
structure Kx (X : Cx) (E : St → XK) (k : Nat) : Prop where
  calm : X.calm = true
  hp : PassesOwn (model X.prog X.w) X.A X.env X.xe
  nd : X.N.Nodup
  room : Room k X.A
  tk : Takes X (fun cls d σ H => E σ cls d H)
theorem Kx.pass {X : Cx} {E : St → XK} {k : Nat} (κ : Kx X E k) : ∀ σ, PassesAt (L2.CX X.prog X.w) X σ (E σ) := fun σ => passAt κ.tk σ
section
variable {X : Cx} {cl : Nat → Addr} {Φ : St → Prop} {E : St → XK} {c c1 c2 : Bool} {k : Nat} {pos : Pos} {e : Expr}
theorem rss_nil : RSs X cl Φ E [] mSkip := ⟨pss_nil.weak fun _ _ _ h => tS_skip h⟩
theorem rss_cons {st : Stmt} {sts : List Stmt} {s t : M Fl} (h : RS X cl Φ E st s) (h' : RSs X cl Φ E sts t) : RSs X cl Φ E (st :: sts) (mSeq s t) := ⟨(pss_cons h.ps h'.pss).weak fun _ _ _ q => tS_seq q⟩
theorem rss_one {st : Stmt} {s : M Fl} (h : RS X cl Φ E st s) : RSs X cl Φ E [st] s := ⟨pss_one h.ps⟩
theorem rs_pass : RS X cl Φ E (.Pass pos) mSkip := ⟨ps_pass.weak fun _ _ _ h => tS_skip h⟩
theorem rs_brk : RS X cl Φ E (.Break pos) mBrk := ⟨ps_break.weak fun _ _ _ h => tS_brk h⟩
theorem rs_cnt : RS X cl Φ E (.Continue pos) mCnt := ⟨ps_continue.weak fun _ _ _ h => tS_cnt h⟩
theorem rs_doc {x j pos'} : RS X cl Φ E (.Expr (.Constant (.str x) j pos) pos') mSkip := ⟨ps_doc.weak fun _ _ _ h => tS_skip h⟩
theorem rs_expr {m : M D} (h : RE X cl Φ E c e m) (hs : swapsWith e none pos.line X.env = pure false := by rfl) : RS X cl Φ E (.Expr e pos) (mDo m) := ⟨(ps_expr h.pe hs).weak fun _ _ _ q => tS_do q⟩
theorem rs_ret {m : M D} (h : RE X cl Φ E c e m) : RS X cl Φ E (.Return (some e) pos) (mRet m) := ⟨(ps_ret h.pe).weak fun _ _ _ q => tS_ret q⟩
theorem rs_retN : RS X cl Φ E (.Return none pos) mRetN := ⟨ps_retN.weak fun _ _ _ q => tS_retN q⟩
theorem rs_if {t : M Bool} {a b : List Stmt} {ma mb : M Fl} (h : RB X cl Φ E c e t) (ha : RSs X cl Φ E a ma) (hb : RSs X cl Φ E b mb) : RS X cl Φ E (.If e a b pos) (mIf t ma mb) := ⟨(ps_if h.pt ha.pss hb.pss).weak fun _ _ _ q => tS_if q⟩
theorem rs_set {i : Nat} {x : Str} {pos' : Pos} {m : M D} (κ : Kx X E k) (hi : X.N[i]? = some x) (hx : Loc X.env.scope x) (hΦ : ∀ σ v, Φ σ → Φ (σ.set i (some v))) (h : RE X cl Φ E c e m)
    (hs : swapsWith e (some (.Name x pos')) pos.line X.env = pure false := by rfl) (hf : X.fn x = true ∨ X.env.scope.names.lookup x = some .local := by first | exact .inl rfl | exact .inr rfl) :
    RS X cl Φ E (.Assign [.Name x pos'] e pos) (mAsg (dName i) m) :=
  ⟨(ps_set κ.nd hi hx h.pe hs hf).weak fun D σ H q => by
    have q2 := tS_asg (c := c) q
    obtain ⟨F, N, R, ρ, a, p⟩ := q2
    refine ⟨F, N, R, ρ, a, ?_⟩
    cases e1 : m ρ with
    | no => rw [e1] at p; exact p
    | ex k ρ' => rw [e1] at p; exact p
    | ok d ρ' => rw [e1] at p; exact fun v F' N' T H' l k' j r o => tG_name hΦ (p v F' N' T H' l k' j r o)⟩
theorem rg_name {i : Nat} {x : Str} (κ : Kx X E k) (hi : X.N[i]? = some x) (hx : Loc X.env.scope x) (hΦ : ∀ σ v, Φ σ → Φ (σ.set i (some v))) (hf : X.fn x = true ∨ X.env.scope.names.lookup x = some .local := by first | exact .inl rfl | exact .inr rfl) :
    RG X cl Φ (.Name x pos) (dName i) := ⟨(pg_name κ.nd hi hx hf).weak fun _ _ _ _ q => tG_name hΦ q⟩
theorem rgs_nil : RGs X cl Φ [] dNil := ⟨pgs_nil.weak fun _ _ _ _ q => tGs_nil q⟩
theorem rgs_cons {es : List Expr} {g : D → M Unit} {g' : List D → M Unit} (h : RG X cl Φ e g) (h' : RGs X cl Φ es g') (hs : (assignEach (e :: es) X.env).map (·.2) = assign e X.env :: (assignEach es X.env).map (·.2) := by rfl) : RGs X cl Φ (e :: es) (dCons g g') :=
  ⟨(pgs_cons h.pg h'.pgs hs).weak fun _ _ _ _ q => tGs_cons q⟩
theorem rg_tup {es : List Expr} {n : Nat} {g : List D → M Unit} {kk : Nat} (κ : Kx X E k) (h : RGs X cl Φ es g) (hn : (assignEach es X.env).length = n := by rfl) (hst : (assignEach es X.env).findIdx? (·.1) = none := by rfl) : RG X cl Φ (.Tuple es kk pos) (dTup n g) :=
  ⟨(pg_tup (k := kk) (pos := pos) κ.calm h.pgs hn hst).weak fun v σ H Q q => tG_tup q⟩
theorem tG_mono {G : Gx} {g : D → M Unit} {σ : St} {F N R H : Hp} {Q : St → Hp → Prop} : True := trivial
theorem rs_asg {tg : Expr} {m : M D} {g : D → M Unit} (h : RE X cl Φ E c e m) (hg : RG X cl Φ tg g) (hs : swapsWithSole [tg] e pos.line X.env = pure false := by rfl) (hw : swappedStores [tg] e X.env = pure none := by rfl)
    (h1 : (assignEach [tg] X.env).map (·.2) = [assign tg X.env] := by rfl) : RS X cl Φ E (.Assign [tg] e pos) (mAsg g m) := ⟨(ps_asg h.pe hg.pg hs hw h1).weak fun _ _ _ q => tS_asg q⟩
theorem rs_while {t : M Bool} {b : List Stmt} {m : M Fl} (n : Nat) (κ : Kx X E k) (h : RB X cl Φ E c e t) (hb : RSs X cl Φ E b m) : RS X cl Φ E (.While e b [] pos) (mWhile t m n) := ⟨(ps_while κ.hp h.pt hb.pss).weak fun _ _ _ q => tS_while q⟩
theorem rs_for {tg iter : Expr} {it : M (List D × Bk)} {g : D → M Unit} {b : List Stmt} {m : M Fl} (κ : Kx X E k) (h : RI X cl Φ E tg iter it) (hg : RG X cl Φ tg g) (hb : RSs X cl Φ E b m) (hs : ∀ x, foldedSetIterable iter X.env x = pure x := by intro _; rfl) : RS X cl Φ E (.For tg iter b [] pos) (mFor it g m) :=
  ⟨(ps_for κ.hp κ.calm h.pi hg.pg hb.pss hs).weak fun _ _ _ q => tS_for q⟩
/-! x op= e -/
def mAug (i : Nat) (f : D → D → Option D) (m : M D) : M Fl := fun ρ => match ρ[i]? with
  | some d => if shr d = true then (m ρ).bind fun e ρ1 => match f d e with
      | some z => goG (dName i z ρ1) fun ρ2 => .ok .nx ρ2
      | none => .no
    else .no
  | none => .no
theorem tS_aug {G : Gx} {i : Nat} {f : D → D → Option D} {r : R2} {m : M D} {D' : Ends} {σ : St} {H : Hp} (hΦ : ∀ σ v, Φ σ → Φ (σ.set i (some v))) (hf : F2 G r f) (h : tS G Φ E (mAug i f m) D' σ H) : tAug i (tE G Φ E c m) r D' σ H := by
  obtain ⟨F, N, R, ρ, a, q⟩ := h
  unfold mAug at q
  split at q
  · rename_i d e0
    split at q
    · rename_i hs
      obtain ⟨ov, M1, Mr, e1, jm, w, kk⟩ := rel_at a.2.1 e0
      obtain ⟨v, rfl, w1⟩ := ownO_of w (by rintro rfl; cases hs)
      refine ⟨v, e1, ?_⟩
      have j1 : J [M1, Mr, F, R] H := J.nest (xs := [F, R]) jm (a.1.re [1, 0, 2])
      have j2 := (j1.re [2, 1, 0, 3]).give
      have w2 := own_shr_mem w1 hs j2.2.1 j2.2.2
      have r2 := kk _ d (some v) emp Mr j2.2.1 (.inr ⟨v, rfl, w2⟩) (J.emp_iff.mpr J.self)
      rw [set_self e1, set_self e0] at r2
      refine ⟨_, Mr, R, ρ, ⟨j2.1, r2, a.2.2⟩, ?_⟩
      cases e2 : m ρ with
      | no => rw [e2] at q; exact q
      | ex k ρ' => rw [e2] at q; exact PX.le (q σ a.2.2) j2.2.1
      | ok d2 ρ1 =>
        rw [e2] at q
        intro y F1 N1 T1 H1 l1 k1 j3 r3 o3
        simp only [O.bind] at q
        split at q
        · rename_i z hz
          have j4 : J [F1, N1, emp, T1, R] H1 := (J.emp_iff.mpr j3).re [1, 2, 0, 3, 4]
          refine hf j4 (own_le l1 w2) o3 hz fun u F2 T2 H2 l2 k2 j5 o5 => ?_
          have := tG_name (G := G) (Φ := Φ) (i := i) (v := u) (σ := σ) (H := H2) (Q := D'.nx) hΦ ⟨F2, N1, T2, R, ρ1, z, j5, rel_le l2 r3, a.2.2, o5, ?_⟩
          · exact this
          · cases e3 : dName i z ρ1 with
            | no => rw [e3] at q; exact q
            | ex k ρ' => rw [e3] at q; exact q
            | ok u ρ2 => rw [e3] at q; exact fun F' N' H' σ' l => q F' N' H' σ' (((j2.2.1.trans l1).trans l2).trans l)
        · exact q.elim
    · exact q.elim
  · exact q.elim
theorem rs_aug {i : Nat} {x : Str} {op : Operator} {r : R2} {f : D → D → Option D} {pos' : Pos} {m : M D} (κ : Kx X E k) (hi : X.N[i]? = some x) (hx : Loc X.env.scope x) (hΦ : ∀ σ v, Φ σ → Φ (σ.set i (some v))) (ho : OpR X (inplaceOp op) r) (hF : F2 (gx X cl) r f) (h : RE X cl Φ E c e m)
    (hf : X.fn x = true ∨ X.env.scope.names.lookup x = some .local := by first | exact .inl rfl | exact .inr rfl) :
    RS X cl Φ E (.AugAssign (.Name x pos') op e pos) (mAug i f m) := ⟨(ps_aug (ti := r) κ.nd hi hx h.pe ho hf).weak fun _ _ _ q => tS_aug hΦ hF q⟩
end

/-! ### defs -/
inductive O3 where
  | ok (d : D) (as : List D) | ex (k : Nat) (as : List D) | no
def PostF (G : Gx) (vs : List V) (F R : Hp) (Q : VK) (E : XK) : O3 → Prop
  | .ok d as => ∀ v F' M' T H', Le F F' → J [F', M', T, R] H' → OwnL G F' as vs M' → Own G F' d v T → Q v H'
  | .ex k as => ∀ F' M' H', Le F F' → J [F', M', R] H' → OwnL G F' as vs M' → E (.ref (G.cl k)) none H'
  | .no => False
def spR (G : Gx) (r : List D → O3) (n : Nat) : Sp := fun vs H Q E => vs.length = n ∧ ∃ F M R ds, J [F, M, R] H ∧ OwnL G F ds vs M ∧ PostF G vs F R Q E (r ds)
def ent : List Bool → List D → List D
  | true :: st, d :: ds => d :: ent st ds
  | false :: st, d :: ds => frz d :: ent st ds
  | _, _ => []
def outs : List Bool → List D → Env → List D
  | true :: st, _ :: ds, e :: ρ => e :: outs st ds ρ
  | false :: st, d :: ds, _ :: ρ => frz d :: outs st ds ρ
  | _, _, _ => []
/-- what a def is worth -/
def fnEnd (st : List Bool) (ds : List D) (o : O Fl) : O3 := match o with
  | .ok .nx ρ => if ds.length ≤ ρ.length then .ok .non (outs st ds ρ) else .no
  | .ok (.rt d) ρ => if ds.length ≤ ρ.length then .ok d (outs st ds ρ) else .no
  | .ex k ρ => if ds.length ≤ ρ.length then .ex k (outs st ds ρ) else .no
  | _ => .no
def fnR (st : List Bool) (nl : Nat) (body : M Fl) (ds : List D) : O3 := if ds.length = st.length then fnEnd st ds (body (ent st ds ++ List.replicate nl .hole)) else .no
theorem fnR_len {st : List Bool} {nl : Nat} {body : M Fl} {n : Nat} (h : st.length = n) : ∀ ds, fnR st nl body ds ≠ .no → ds.length = n := fun ds q => by
  unfold fnR at q
  split at q
  · omega
  · exact absurd rfl q
def Keep (st : List Bool) (vs : List V) (σ : St) : Prop := ∀ (i : Nat) (v : V), st[i]? = some true → vs[i]? = some v → σ[i]? = some (some v)
theorem keep_set {st : List Bool} {vs : List V} {i : Nat} (h : (st[i]? == some true) = false) : ∀ σ v, Keep st vs σ → Keep st vs (σ.set i (some v)) := fun σ v q j w h1 h2 => by
  have ne : i ≠ j := fun e => by subst e; rw [h1] at h; simp at h
  rw [List.getElem?_set_ne ne]
  exact q j w h1 h2
section
variable {G : Gx}
theorem ent_own {F : Hp} : ∀ {st : List Bool} {ds : List D} {vs : List V} {M : Hp}, st.length = ds.length → OwnL G F ds vs M → ∃ A B, J [A, B] M ∧ ∀ F1, Le F F1 → Le A F1 → Rel G F1 (ent st ds) (vs.map some) B ∧
    ∀ (i : Nat) (d : D) (v : V), st[i]? = some false → ds[i]? = some d → vs[i]? = some v → Own G F1 (frz d) v emp
  | [], [], vs, M, _, h => by
    obtain ⟨rfl, rfl⟩ := h
    exact ⟨emp, emp, J.emps, fun F1 _ _ => ⟨⟨rfl, rfl⟩, fun i d v h => by simp at h⟩⟩
  | s :: st, d :: ds, vs, M, hl, h => by
    obtain ⟨v, r, M1, M2, rfl, j, h1, h2⟩ := h
    obtain ⟨A, B, jab, hk⟩ := ent_own (st := st) (by simpa using hl) h2
    have j1 : J [A, B, M1] M := J.nest (xs := [M1]) jab (j.re [1, 0])
    cases s with
    | true =>
      obtain ⟨j2, j3⟩ := (j1.re [2, 1, 0]).join
      refine ⟨A, _, j3.re [1, 0], fun F1 l la => ?_⟩
      obtain ⟨x, y⟩ := hk F1 l la
      refine ⟨⟨some v, _, M1, B, rfl, j2, .inr ⟨v, rfl, own_le l h1⟩, x⟩, fun i d' v' e1 e2 e3 => ?_⟩
      cases i with
      | zero => simp at e1
      | succ i => exact y i d' v' (by simpa using e1) (by simpa using e2) (by simpa using e3)
    | false =>
      obtain ⟨j2, j3⟩ := (j1.re [2, 0, 1]).join
      refine ⟨_, B, j3, fun F1 l la => ?_⟩
      have la1 : Le M1 F1 := (j_le j2).1.trans la
      obtain ⟨x, y⟩ := hk F1 l ((j_le j2).2.trans la)
      have o := own_frz h1 l la1
      refine ⟨⟨some v, _, emp, B, rfl, J.emp_iff.mpr J.self, .inr ⟨v, rfl, o⟩, x⟩, fun i d' v' e1 e2 e3 => ?_⟩
      cases i with
      | zero => simp at e2 e3; subst e2; subst e3; exact o
      | succ i => exact y i d' v' (by simpa using e1) (by simpa using e2) (by simpa using e3)
  | [], _ :: _, _, _, hl, _ => by simp at hl
  | _ :: _, [], _, _, hl, _ => by simp at hl
theorem rel_holes {F : Hp} (n : Nat) : ∀ {ρ : Env} {σ : St} {M : Hp}, Rel G F ρ σ M → Rel G F (ρ ++ List.replicate n .hole) (σ ++ List.replicate n none) M
  | [], σ, M, h => by
    obtain ⟨rfl, rfl⟩ := h
    induction n with
    | zero => exact ⟨rfl, rfl⟩
    | succ n ih => exact ⟨none, _, emp, emp, rfl, J.emps, .inl ⟨rfl, rfl⟩, ih⟩
  | d :: ρ, σ, M, h => by
    obtain ⟨ov, r, M1, M2, rfl, j, h1, h2⟩ := h
    exact ⟨ov, _, M1, M2, rfl, j, h1, rel_holes n h2⟩
theorem outs_own {F : Hp} : ∀ {st : List Bool} {ds : List D} {vs : List V} {ρ : Env} {σ : St} {N : Hp}, st.length = ds.length → vs.length = ds.length → ds.length ≤ ρ.length → Rel G F ρ σ N → Keep st vs σ →
    (∀ (i : Nat) (d : D) (v : V), st[i]? = some false → ds[i]? = some d → vs[i]? = some v → Own G F (frz d) v emp) → ∃ M' Z, J [M', Z] N ∧ OwnL G F (outs st ds ρ) vs M'
  | [], [], vs, ρ, σ, N, _, hv, _, r, _, _ => by
    have : vs = [] := List.length_eq_zero_iff.mp hv
    subst this
    exact ⟨emp, N, J.emp_iff.mpr J.self, by rw [outs.eq_def]; exact ⟨rfl, rfl⟩⟩
  | s :: st, d :: ds, v :: vs, e :: ρ, σ, N, hl, hv, hr, r, kp, y => by
    obtain ⟨ov, σr, M1, M2, rfl, j, h1, h2⟩ := r
    obtain ⟨M', Z, j1, o⟩ := outs_own (st := st) (ds := ds) (vs := vs) (by simpa using hl) (by simpa using hv) (by simpa using hr) h2 (fun i w a b => by
      have := kp (i + 1) w (by simpa using a) (by simpa using b)
      simpa using this) (fun i d' v' a b c => y (i + 1) d' v' (by simpa using a) (by simpa using b) (by simpa using c))
    have j2 : J [M', Z, M1] N := J.nest (xs := [M1]) j1 (j.re [1, 0])
    cases s with
    | true =>
      have k0 := kp 0 v (by simp) (by simp)
      simp at k0
      subst k0
      obtain ⟨j3, j4⟩ := (j2.re [2, 0, 1]).join
      refine ⟨_, Z, j4, v, vs, M1, M', rfl, j3, ?_, o⟩
      rcases h1 with ⟨rfl, rfl⟩ | ⟨w, e, h1⟩
      · rfl
      · cases e; exact h1
    | false =>
      have o1 := y 0 d v (by simp) (by simp) (by simp)
      obtain ⟨j3, j4⟩ := (j2.re [1, 2, 0]).join
      exact ⟨M', _, j4.re [1, 0], v, vs, emp, M', rfl, J.emp_iff.mpr J.self, o1, o⟩
  | [], _ :: _, _, _, _, _, hl, _, _, _, _, _ => by simp at hl
  | _ :: _, [], _, _, _, _, hl, _, _, _, _, _ => by simp at hl
  | _ :: _, _ :: _, [], _, _, _, _, hv, _, _, _, _ => by simp at hv
  | _ :: _, _ :: _, _ :: _, [], _, _, _, _, hr, _, _, _ => by simp at hr
/-- THE RULE for a def -/
theorem fnZ {P : Program} {w : World} {K : PySem.W.Frag} {mg : Str → Option Value} {base : Heap} {cl : Nat → Addr} {x qual : Str} {stm : Stmt} {f : Addr} {fd : FuncData} {N ps : List Str} {k : Nat} (F : Fun K x qual stm f fd) (S : FnScope N ps (defScope stm))
    (st : List Bool) (nl : Nat) {body : M Fl} (hl : st.length = ps.length) (hN : N.length = ps.length + nl)
    (hb : ∀ (cdv : Value) (A : Around) (outer : List PySem.Env) (s : Shared) (H : Hp) (vs : List V) (E : XK), vs.length = ps.length → Kx (cxOf (L2.CX P w) P w K mg base N qual (defScope stm) f cdv A outer s H E) (fun _ => E) k →
      RSs (cxOf (L2.CX P w) P w K mg base N qual (defScope stm) f cdv A outer s H E) cl (Keep st vs) (fun _ => E) (defBody stm) body) :
    FnOk P w K mg base (L2.CX P w) (k + 1) f fd ps (spR ⟨K, cl⟩ (fnR st nl body) ps.length) := by
  refine F.okX S (fun vs H Q E h => h.1) fun cdv A outer s H vs Q E hr h => ?_
  obtain ⟨hv, F0, M, R, ds, j, o, q⟩ := h
  have κ : Kx (cxOf (L2.CX P w) P w K mg base N qual (defScope stm) f cdv A outer s H E) (fun _ => E) k :=
    ⟨rfl, passes_of rfl, S.nd, hr, takes_of rfl rfl rfl rfl⟩
  refine ⟨_, (hb cdv A outer s H vs E hv κ).pss, ?_⟩
  have hd := ownL_len o
  have hld : st.length = ds.length := by rw [hl, ← hv, hd]
  obtain ⟨A1, B1, j1, hk⟩ := ent_own hld o
  have j2 : J [A1, B1, F0, R] H := J.nest (xs := [F0, R]) j1 (j.re [1, 0, 2])
  have j3 := (j2.re [2, 1, 0, 3]).give
  obtain ⟨r, y⟩ := hk _ j3.2.1 j3.2.2
  have r2 := rel_holes nl r
  have est : vs.map some ++ List.replicate nl none = start N vs := by
    unfold L2.start
    rw [hN, ← hv, Nat.add_sub_cancel_left]
  rw [est] at r2
  have kp : Keep st vs (start N vs) := fun i v h1 h2 => by
    unfold L2.start
    rw [List.getElem?_append_left (by rw [List.length_map]; exact (List.getElem?_eq_some_iff.mp h2).1), List.getElem?_map, h2]
    rfl
  refine ⟨un F0 A1, B1, R, _, ⟨j3.1, r2, kp⟩, ?_⟩
  unfold fnR at q
  rw [if_pos hld.symm] at q
  unfold fnEnd at q
  have fin : ∀ {F' N' T H' σ' ρ'}, Le (un F0 A1) F' → J [F', N', T, R] H' → Rel ⟨K, cl⟩ F' ρ' σ' N' → Keep st vs σ' → ds.length ≤ ρ'.length → ∃ F2 M', Le F' F2 ∧ J [F2, M', T, R] H' ∧ OwnL ⟨K, cl⟩ F2 (outs st ds ρ') vs M' := fun {F' N' T H' σ' ρ'} l jj rr kk hh => by
    obtain ⟨M', Z, jz, oz⟩ := outs_own hld hd hh rr kk fun i d v a b c => own_le l (y i d v a b c)
    have j4 : J [M', Z, F', T, R] H' := J.nest (xs := [F', T, R]) jz (jj.re [1, 0, 2, 3])
    have j5 := (j4.re [2, 0, 1, 3, 4]).give
    exact ⟨_, M', j5.2.1, j5.1, ownL_le j5.2.1 oz⟩
  cases e : body (ent st ds ++ List.replicate nl .hole) with
  | no => rw [e] at q; exact q
  | ex kx ρ' =>
    rw [e] at q
    simp only at q
    split at q
    · intro σ' f' F' N' H' l jj rr
      obtain ⟨F2, M', l2, j6, o2⟩ := fin l (emp_in jj) rr f' ‹_›
      exact q F2 M' H' ((j3.2.1.trans l).trans l2) (emp_out j6) o2
    · exact q.elim
  | ok fl ρ' =>
    rw [e] at q
    cases fl with
    | nx =>
      simp only at q
      split at q
      · intro F' N' H' σ' l a
        obtain ⟨F2, M', l2, j6, o2⟩ := fin l (emp_in a.1) a.2.1 a.2.2 ‹_›
        exact q .non F2 M' emp H' ((j3.2.1.trans l).trans l2) j6 o2 ⟨rfl, rfl⟩
      · exact q.elim
    | rt d =>
      simp only at q
      split at q
      · intro v F' N' T H' σ' l jj rr f' o'
        obtain ⟨F2, M', l2, j6, o2⟩ := fin l jj rr f' ‹_›
        exact q v F2 M' T H' ((j3.2.1.trans l).trans l2) j6 o2 (own_le l2 o')
      · exact q.elim
    | bk => exact q.elim
    | ct => exact q.elim
end
end Z

end
section
set_option maxRecDepth 100000
/-! Z: arguments that may be lent, calls -/
namespace Z
open PySem PySem.Spec L2
open PyProof.Rows hiding St
abbrev Bks := List (Option Nat)
/-- an argument: a value, or a slot that is lent at the call -/
abbrev Ar := Sum D Nat
def aNil : M (List Ar) := fun ρ => .ok [] ρ
def aTmp (m : M D) (r : M (List Ar)) : M (List Ar) := fun ρ => (m ρ).bind fun d ρ1 => (r ρ1).bind fun x ρ2 => .ok (.inl d :: x) ρ2
def isHole : D → Bool
  | .hole => true
  | _ => false
/-- a plain value -/
def isFlat : D → Bool
  | .non => true
  | .bl _ => true
  | .int _ => true
  | .str _ => true
  | _ => false
theorem own_isFlat {G : Gx} {F F' : Hp} {d : D} {v : V} {M : Hp} (o : Own G F d v M) (h : isFlat d = true) : M = emp ∧ Own G F' d v emp := by
  cases d with
  | non => exact ⟨o.2, o.1, rfl⟩
  | bl _ => exact ⟨o.2, o.1, rfl⟩
  | int _ => exact ⟨o.2, o.1, rfl⟩
  | str _ => exact ⟨o.2, o.1, rfl⟩
  | _ => cases h
/-- a name as an argument: what it holds at the call is lent, and comes back -/
def aLend (i : Nat) (r : M (List Ar)) : M (List Ar) := fun ρ => match ρ[i]? with
  | some d => if isHole d = true then .no else (r ρ).bind fun x ρ2 => .ok (.inr i :: x) ρ2
  | none => .no
/-- the arguments at the call: the trees, the slots that they come back to, the slots meanwhile -/
def gath : List Ar → Env → Option (List D × Bks × Env)
  | [], ρ => some ([], [], ρ)
  | .inl d :: as, ρ => (gath as ρ).map fun x => (d :: x.1, none :: x.2.1, x.2.2)
  | .inr i :: as, ρ => match ρ[i]? with
    | some d => if isHole d = true then none else if isFlat d = true then (gath as ρ).map fun x => (d :: x.1, none :: x.2.1, x.2.2) else (gath as (ρ.set i .hole)).map fun x => (d :: x.1, some i :: x.2.1, x.2.2)
    | none => none
def putAll : Bks → List D → Env → Option Env
  | [], _, ρ => some ρ
  | _ :: _, [], _ => none
  | none :: bs, _ :: as, ρ => putAll bs as ρ
  | some i :: bs, a :: as, ρ => match ρ[i]? with
    | some .hole => putAll bs as (ρ.set i a)
    | _ => none
def mCall (r : List D → O3) (ma : M (List Ar)) : M D := fun ρ => (ma ρ).bind fun as ρ1 => match gath as ρ1 with
  | some (ds, bs, ρ2) => (match r ds with
    | .ok d as => (match putAll bs as ρ2 with
      | some ρ3 => .ok d ρ3
      | none => .no)
    | .ex k as => (match putAll bs as ρ2 with
      | some ρ3 => .ex k ρ3
      | none => .no)
    | .no => .no)
  | none => .no
def LentOk (σ : St) (vs : List V) (bs : Bks) : Prop := ∀ (j i : Nat), bs[j]? = some (some i) → ∃ v, vs[j]? = some v ∧ σ[i]? = some (some v)
def OwnAr (G : Gx) (F : Hp) (σ : St) : List Ar → List V → Hp → Prop
  | [], vs, M => vs = [] ∧ M = emp
  | .inl d :: as, vs, M => ∃ v r M1 M2, vs = v :: r ∧ J [M1, M2] M ∧ Own G F d v M1 ∧ OwnAr G F σ as r M2
  | .inr i :: as, vs, M => ∃ v r, vs = v :: r ∧ σ[i]? = some (some v) ∧ OwnAr G F σ as r M
section
variable (G : Gx) (Φ : St → Prop) (E : St → XK)
def PostAB (σ : St) (F R : Hp) (Q : List V → Hp → Prop) : O (List Ar) → Prop
  | .ok as ρ' => ∀ vs F' N' T H', Le F F' → J [F', N', T, R] H' → Rel G F' ρ' σ N' → OwnAr G F' σ as vs T → Q vs H'
  | .ex k ρ' => PX G E σ F R k ρ'
  | .no => False
def tAB (m : M (List Ar)) : TA := fun σ H Q => ∃ F N R ρ, Here G Φ σ F N R H ρ ∧ PostAB G E σ F R Q (m ρ)
end
structure RC (X : Cx) (cl : Nat → Addr) (Φ : St → Prop) (E : St → XK) (es : List Expr) (m : M (List Ar)) : Prop where
  pa : PA X es (tAB (gx X cl) Φ E m)
section
variable {G : Gx} {Φ : St → Prop} {E : St → XK} {c : Bool} {σ : St} {H : Hp}
theorem ownAr_le {F F' : Hp} (l : Le F F') : ∀ {as : List Ar} {vs : List V} {M : Hp}, OwnAr G F σ as vs M → OwnAr G F' σ as vs M
  | [], _, _, h => h
  | .inl d :: as, _, _, ⟨v, r, M1, M2, e, j, o, h⟩ => ⟨v, r, M1, M2, e, j, own_le l o, ownAr_le l h⟩
  | .inr i :: as, _, _, ⟨v, r, e, s, h⟩ => ⟨v, r, e, s, ownAr_le l h⟩
theorem tAB_nil {Q : List V → Hp → Prop} (h : tAB G Φ E aNil σ H Q) : tNil σ H Q := by
  obtain ⟨F, N, R, ρ, a, q⟩ := h
  exact q [] F N emp H Le.refl (emp_in a.1) a.2.1 ⟨rfl, rfl⟩
theorem tAB_tmp {m : M D} {r : M (List Ar)} {Q : List V → Hp → Prop} (h : tAB G Φ E (aTmp m r) σ H Q) : tE G Φ E c m σ H fun x H1 => tAB G Φ E r σ H1 fun xs H2 => Q (x :: xs) H2 := by
  obtain ⟨F, N, R, ρ, a, q⟩ := h
  refine ⟨F, N, R, ρ, a, ?_⟩
  unfold aTmp at q
  cases e : m ρ with
  | no => rw [e] at q; exact q
  | ex k ρ' => rw [e] at q; exact q
  | ok d ρ1 =>
    rw [e] at q
    intro v F1 N1 T1 H1 l1 k1 j1 r1 o1
    simp only [O.bind] at q
    have jt : J [T1, R] (un T1 R) := (j1.re [2, 3, 0, 1]).join.1
    refine ⟨F1, N1, un T1 R, ρ1, ⟨j1.hide, r1, a.2.2⟩, ?_⟩
    cases e1 : r ρ1 with
    | no => rw [e1] at q; exact q
    | ex k ρ' => rw [e1] at q; exact PX.more q l1 jt
    | ok as ρ2 =>
      rw [e1] at q
      intro vs F2 N2 T2 H2 l2 j2 r2 o2
      have j3 : J [T1, T2, F2, N2, R] H2 := (J.unhide (ys := [T2]) jt (j2.re [0, 1, 3, 2])).re [2, 4, 0, 1, 3]
      obtain ⟨j4, j5⟩ := j3.join
      exact q (v :: vs) F2 N2 (un T1 T2) H2 (l1.trans l2) (j5.re [1, 2, 0, 3]) r2 ⟨v, vs, T1, T2, rfl, j4, own_le l2 o1, o2⟩
theorem tAB_lend {i : Nat} {r : M (List Ar)} {Q : List V → Hp → Prop} (h : tAB G Φ E (aLend i r) σ H Q) : ∃ v, σ[i]? = some (some v) ∧ tAB G Φ E r σ H fun xs H2 => Q (v :: xs) H2 := by
  obtain ⟨F, N, R, ρ, a, q⟩ := h
  unfold aLend at q
  split at q
  · rename_i d e0
    split at q
    · exact q.elim
    · rename_i hn
      obtain ⟨ov, M1, Mr, e1, j, w, kk⟩ := rel_at a.2.1 e0
      obtain ⟨v, rfl, w1⟩ := ownO_of w (by rintro rfl; exact hn rfl)
      refine ⟨v, e1, F, N, R, ρ, a, ?_⟩
      cases e2 : r ρ with
      | no => rw [e2] at q; exact q
      | ex k ρ' => rw [e2] at q; exact q
      | ok as ρ2 =>
        rw [e2] at q
        intro vs F2 N2 T2 H2 l2 j3 r3 o3
        exact q (v :: vs) F2 N2 T2 H2 l2 j3 r3 ⟨v, vs, rfl, e1, o3⟩
  · exact q.elim
theorem lent_cons {vs : List V} {bs : Bks} {v : V} {o : Option Nat} (h : LentOk σ vs bs) (ho : ∀ i, o = some i → σ[i]? = some (some v)) : LentOk σ (v :: vs) (o :: bs) := fun j i e => by
  cases j with
  | zero => simp at e; exact ⟨v, rfl, ho i e⟩
  | succ j => obtain ⟨w, e1, e2⟩ := h j i (by simpa using e); exact ⟨w, by simpa using e1, e2⟩
theorem gath_ok : ∀ {as : List Ar} {ρ ρ1 : Env} {ds : List D} {bs : Bks} {vs : List V} {F T N U : Hp}, gath as ρ = some (ds, bs, ρ1) → OwnAr G F σ as vs T → Rel G F ρ σ N → J [T, N] U →
    ∃ T1 N1 Z, J [T1, N1, Z] U ∧ LentOk σ vs bs ∧ ∀ F', Le F F' → Le Z F' → OwnL G F' ds vs T1 ∧ Rel G F' ρ1 σ N1
  | [], ρ, ρ1, ds, bs, vs, F, T, N, U, h, o, r, j => by
    cases h
    obtain ⟨rfl, rfl⟩ := o
    exact ⟨emp, N, emp, (J.emp_iff.mpr j).re [1, 2, 0], fun j i e => by simp at e, fun F' l _ => ⟨⟨rfl, rfl⟩, rel_le l r⟩⟩
  | .inl d :: as, ρ, ρ1, ds, bs, vs, F, T, N, U, h, o, r, j => by
    obtain ⟨v, w, M1, M2, rfl, jm, o1, o2⟩ := o
    rw [gath] at h
    cases hg : gath as ρ with
    | none => rw [hg] at h; cases h
    | some x =>
      obtain ⟨ds', bs', ρ'⟩ := x
      rw [hg] at h
      cases h
      have j1 : J [M1, M2, N] U := J.nest (xs := [N]) jm j
      obtain ⟨j2, j3⟩ := (j1.re [1, 2, 0]).join
      obtain ⟨T1, N1, Z, j4, lo, k⟩ := gath_ok hg o2 r j2
      have j5 : J [T1, N1, Z, M1] U := J.nest (xs := [M1]) j4 j3
      obtain ⟨j6, j7⟩ := (j5.re [3, 0, 1, 2]).join
      exact ⟨_, N1, Z, j7, lent_cons lo (fun i z => nomatch z), fun F' l lz => ⟨⟨v, w, M1, T1, rfl, j6, own_le l o1, (k F' l lz).1⟩, (k F' l lz).2⟩⟩
  | .inr i :: as, ρ, ρ1, ds, bs, vs, F, T, N, U, h, o, r, j => by
    obtain ⟨v, w, rfl, s, o2⟩ := o
    rw [gath] at h
    split at h
    · rename_i d e0
      split at h
      · cases h
      · rename_i hn
        obtain ⟨ov, M1, Mr, e1, jm, ow, kk⟩ := rel_at r e0
        obtain ⟨v', rfl, w1⟩ := ownO_of ow (by rintro rfl; exact hn rfl)
        rw [s] at e1; cases e1
        have j1 : J [M1, Mr, T] U := J.nest (xs := [T]) jm (j.re [1, 0])
        split at h
        · rename_i hs
          cases hg : gath as ρ with
          | none => rw [hg] at h; cases h
          | some x =>
            obtain ⟨ds', bs', ρ'⟩ := x
            rw [hg] at h
            cases h
            obtain ⟨T1, N1, Z, j4, lo, k⟩ := gath_ok hg o2 r j
            exact ⟨T1, N1, Z, j4, lent_cons lo (fun i z => nomatch z), fun F' l lz => ⟨⟨v, w, emp, T1, rfl, J.emp_iff.mpr J.self, (own_isFlat w1 hs).2, (k F' l lz).1⟩, (k F' l lz).2⟩⟩
        · cases hg : gath as (ρ.set i .hole) with
          | none => rw [hg] at h; cases h
          | some x =>
            obtain ⟨ds', bs', ρ'⟩ := x
            rw [hg] at h
            cases h
            have r2 := kk F .hole (some v) emp Mr Le.refl (.inl ⟨rfl, rfl⟩) (J.emp_iff.mpr J.self)
            rw [set_self s] at r2
            obtain ⟨j2, j3⟩ := (j1.re [2, 1, 0]).join
            obtain ⟨T1, N1, Z, j4, lo, k⟩ := gath_ok hg o2 r2 j2
            have j5 : J [T1, N1, Z, M1] U := J.nest (xs := [M1]) j4 j3
            obtain ⟨j6, j7⟩ := (j5.re [3, 0, 1, 2]).join
            exact ⟨_, N1, Z, j7, lent_cons lo (fun i' z => by cases z; exact s), fun F' l lz => ⟨⟨v, w, M1, T1, rfl, j6, own_le l w1, (k F' l lz).1⟩, (k F' l lz).2⟩⟩
    · cases h
theorem putAll_ok {F : Hp} : ∀ {bs : Bks} {as : List D} {ρ ρ2 : Env} {vs : List V} {M N U : Hp}, putAll bs as ρ = some ρ2 → OwnL G F as vs M → Rel G F ρ σ N → LentOk σ vs bs → J [N, M] U → ∃ N2 Z, J [N2, Z] U ∧ Rel G F ρ2 σ N2
  | [], as, ρ, ρ2, vs, M, N, U, h, o, r, lo, j => by cases h; exact ⟨N, M, j, r⟩
  | none :: bs, a :: as, ρ, ρ2, vs, M, N, U, h, o, r, lo, j => by
    obtain ⟨v, w, M1, M2, rfl, jm, o1, o2⟩ := o
    have j1 : J [M1, M2, N] U := J.nest (xs := [N]) jm (j.re [1, 0])
    obtain ⟨j2, j3⟩ := (j1.re [2, 1, 0]).join
    rw [putAll] at h
    obtain ⟨N2, Z, j4, r2⟩ := putAll_ok (bs := bs) (as := as) (vs := w) h o2 r (fun jx i e => lo (jx + 1) i (by simpa using e) |> fun ⟨v', a1, a2⟩ => ⟨v', by simpa using a1, a2⟩) j2
    have j5 : J [N2, Z, M1] U := J.nest (xs := [M1]) j4 j3
    exact ⟨N2, _, (j5.re [1, 2, 0]).join.2.re [1, 0], r2⟩
  | some i :: bs, a :: as, ρ, ρ2, vs, M, N, U, h, o, r, lo, j => by
    obtain ⟨v, w, M1, M2, rfl, jm, o1, o2⟩ := o
    rw [putAll] at h
    split at h
    · rename_i hh
      obtain ⟨v', a1, a2⟩ := lo 0 i (by simp)
      simp at a1; subst a1
      obtain ⟨ov, M0, Mr, e1, jr, w0, kk⟩ := rel_at r hh
      have em : M0 = emp := by
        rcases w0 with w0 | ⟨_, _, w0⟩
        · exact w0.2
        · exact w0
      subst em
      have en := (J.emp_iff.mp jr).eq1
      subst en
      have j1 : J [M1, M2, N] U := J.nest (xs := [N]) jm (j.re [1, 0])
      obtain ⟨j2, j3⟩ := (j1.re [0, 2, 1]).join
      have r2 := kk F a (some v) M1 _ Le.refl (.inr ⟨v, rfl, o1⟩) j2
      rw [set_self a2] at r2
      exact putAll_ok (vs := w) h o2 r2 (fun jx i e => lo (jx + 1) i (by simpa using e) |> fun ⟨v', a1, a2⟩ => ⟨v', by simpa using a1, a2⟩) j3
    · cases h
  | _ :: _, [], _, _, _, _, _, _, h, _, _, _, _ => by simp [putAll] at h
theorem tE_call {r : List D → O3} {ma : M (List Ar)} {n : Nat} {Q : VK} (hn : ∀ ds, r ds ≠ .no → ds.length = n) (h : tE G Φ E c (mCall r ma) σ H Q) (hc : c = false) : tCallS (spR G r n) E (tAB G Φ E ma) σ H Q := by
  subst hc
  obtain ⟨F, N, R, ρ, a, q⟩ := h
  refine ⟨F, N, R, ρ, a, ?_⟩
  unfold mCall at q
  cases e : ma ρ with
  | no => rw [e] at q; exact q
  | ex k ρ' => rw [e] at q; exact q
  | ok as0 ρ1 =>
    rw [e] at q
    simp only [O.bind] at q
    intro vs F0 N0 T0 H1 l0 j0 r0 o0
    cases hg : gath as0 ρ1 with
    | none => rw [hg] at q; exact q.elim
    | some x =>
      obtain ⟨ds, bs, ρ2⟩ := x
      rw [hg] at q
      simp only at q
      obtain ⟨jU, jV⟩ := (j0.re [2, 1, 0, 3]).join
      obtain ⟨T1, N1, Z, jz, lo, kz⟩ := gath_ok hg o0 r0 jU
      have jw : J [T1, N1, Z, F0, R] H1 := J.nest (xs := [F0, R]) jz jV
      have jg := (jw.re [3, 0, 2, 1, 4]).give
      obtain ⟨F1, l01, o1, r1, j1⟩ : ∃ F1, Le F0 F1 ∧ OwnL G F1 ds vs T1 ∧ Rel G F1 ρ2 σ N1 ∧ J [F1, N1, T1, R] H1 := ⟨_, jg.2.1, (kz _ jg.2.1 jg.2.2).1, (kz _ jg.2.1 jg.2.2).2, jg.1.re [0, 2, 1, 3]⟩
      have l1 := l0.trans l01
      have hr : r ds ≠ .no := fun z => by rw [z] at q; exact q
      have jt : J [N1, R] (un N1 R) := (j1.re [1, 3, 0, 2]).join.1
      have j1' : J [F1, T1, un N1 R] H1 := (j1.re [0, 2, 1, 3]).hide
      refine ⟨by rw [ownL_len o1]; exact hn ds hr, F1, T1, un N1 R, ds, j1', o1, ?_⟩
      cases e2 : r ds with
      | no => exact hr e2
      | ok d as =>
        simp only [e2] at q
        intro v F2 M2 T2 H2 l2 j2 o2 ov
        have j3 : J [F2, M2, T2, N1, R] H2 := (J.unhide (ys := [T2]) jt (j2.re [0, 1, 3, 2])).re [0, 1, 4, 2, 3]
        split at q
        · rename_i ρ3 hp
          obtain ⟨j4, j5⟩ := (j3.re [3, 1, 0, 2, 4]).join
          obtain ⟨N2, Z2, j6, r2⟩ := putAll_ok (σ := σ) hp o2 (rel_le l2 r1) lo j4
          have j7 : J [N2, Z2, F2, T2, R] H2 := J.nest (xs := [F2, T2, R]) j6 j5
          have j8 := (j7.re [2, 0, 1, 3, 4]).give
          exact q v _ N2 T2 H2 ((l1.trans l2).trans j8.2.1) (fun z => nomatch z) j8.1 (rel_le j8.2.1 r2) (own_le j8.2.1 ov)
        · exact q.elim
      | ex k as =>
        simp only [e2] at q
        intro F2 M2 H2 l2 j2 o2
        have j3 : J [F2, M2, N1, R] H2 := J.unhide (ys := []) jt j2
        split at q
        · rename_i ρ3 hp
          obtain ⟨j4, j5⟩ := (j3.re [2, 1, 0, 3]).join
          obtain ⟨N2, Z2, j6, r2⟩ := putAll_ok (σ := σ) hp o2 (rel_le l2 r1) lo j4
          have j7 : J [N2, Z2, F2, R] H2 := J.nest (xs := [F2, R]) j6 j5
          have j8 := (j7.re [2, 0, 1, 3]).give
          exact q _ N2 H2 ((l1.trans l2).trans j8.2.1) j8.1 (rel_le j8.2.1 r2)
        · exact q.elim
end
section
variable {X : Cx} {cl : Nat → Addr} {Φ : St → Prop} {E : St → XK} {c : Bool} {k : Nat} {pos p : Pos} {e : Expr} {es : List Expr}
theorem rc_nil : RC X cl Φ E [] aNil := ⟨pa_nil.weak fun _ _ _ h => tAB_nil h⟩
theorem rc_tmp {m : M D} {r : M (List Ar)} (h : RE X cl Φ E c e m) (h' : RC X cl Φ E es r) (hs : starEach (e :: es) X.env = (false, eval e X.env) :: starEach es X.env := by rfl) : RC X cl Φ E (e :: es) (aTmp m r) :=
  ⟨(pa_cons h.pe h'.pa hs).weak fun _ _ _ h => tAB_tmp h⟩
theorem rc_lend {i : Nat} {x : Str} {r : M (List Ar)} (hp : PE X (.Name x pos) (tVar i)) (h' : RC X cl Φ E es r) (hs : starEach (.Name x pos :: es) X.env = (false, eval (.Name x pos) X.env) :: starEach es X.env := by rfl) : RC X cl Φ E (.Name x pos :: es) (aLend i r) :=
  ⟨(pa_cons hp h'.pa hs).weak fun _ _ _ h => tAB_lend h⟩
/-- a def is called -/
theorem re_call {x : Str} {f : Addr} {fd : FuncData} {ps : List Str} {r : List D → O3} {ma : M (List Ar)} {j : Nat} (κ : Kx X E k) (Fk : FnOk X.prog X.w X.K X.mg X.base (L2.CX X.prog X.w) j f fd ps (spR (gx X cl) r ps.length)) (hj : j ≤ k)
    (hm : X.mg x = some (.ref f)) (hk : PySem.W.keepIn X.K (.ref f) = true) (hb : Binds X.K fd ps []) (hn : ∀ ds, r ds ≠ .no → ds.length = ps.length) (ha : RC X cl Φ E (e :: es) ma) (hg : Gl X x := by rfl)
    (hdb : (x == ("__debug__" : Str)) = false := by decide) (he : starEach (e :: es) X.env = (false, eval e X.env) :: starEach es X.env := by rfl) (hpl : (backTo pos (starEach es X.env)).any (·.1) = false := by rfl) :
    RE X cl Φ E false (.Call (.Name x p) (e :: es) [] pos) (mCall r ma) :=
  ⟨(pe_callS Fk (κ.room.mono hj) hg hm hk hb κ.pass ha.pa hdb he hpl).weak fun _ _ _ q => tE_call hn q rfl⟩
end
end Z

end
section
set_option maxRecDepth 100000
/-! Z: displays, what loops walk, comprehensions -/
namespace Z
open PySem PySem.Spec L2
open PyProof.Rows hiding St
def mTup (m : M (List D)) : M D := fun ρ => (m ρ).bind fun ds ρ1 => if ds.length ≤ sizeLine then .ok (.tup ds) ρ1 else .no
def mLst (m : M (List D)) : M D := fun ρ => (m ρ).bind fun ds ρ1 => if ds.length ≤ sizeLine then .ok (.lst true ds) ρ1 else .no
section
variable {G : Gx} {Φ : St → Prop} {E : St → XK} {c : Bool} {σ : St} {H : Hp}
theorem tA_then {m : M (List D)} {k : List D → Env → O D} {Q : VK} {t : List V → Hp → Prop} (h : tE G Φ E c (fun ρ => (m ρ).bind k) σ H Q)
    (hk : ∀ ds vs F N T R ρ H1, J [F, N, T, R] H1 → Rel G F ρ σ N → OwnL G F ds vs T → PostE G E true σ F R H1 Q (k ds ρ) → t vs H1) : tA G Φ E c m σ H t := by
  obtain ⟨F, N, R, ρ, a, q⟩ := h
  refine ⟨F, N, R, ρ, a, ?_⟩
  have q : PostE G E c σ F R H Q ((m ρ).bind k) := q
  cases e : m ρ with
  | no => rw [e] at q; exact q
  | ex k ρ' => rw [e] at q; exact q
  | ok ds ρ1 =>
    rw [e] at q
    simp only [O.bind] at q
    intro vs F1 N1 T1 H1 l1 k1 j1 r1 o1
    refine hk ds vs F1 N1 T1 R ρ1 H1 j1 r1 o1 ?_
    cases e1 : k ds ρ1 with
    | no => rw [e1] at q; exact q
    | ex k ρ' => rw [e1] at q; exact PX.le q l1
    | ok d ρ' => rw [e1] at q; exact fun v F' N' T H' l k => q v F' N' T H' (l1.trans l) fun z => (k1 z).trans (k rfl)
theorem tE_tup {m : M (List D)} {Q : VK} (h : tE G Φ E c (mTup m) σ H Q) : tTup (tA G Φ E c m) σ H Q :=
  tA_then h fun ds vs F N T R ρ H1 j r o q => by
    split at q
    · exact ⟨by rw [ownL_len o]; assumption, new_tup j o fun v F' T' H' l k j' o' => q v F' N T' H' l (fun _ => k) j' (rel_le l r) o'⟩
    · exact q.elim
theorem tE_lst {m : M (List D)} {Q : VK} (h : tE G Φ E c (mLst m) σ H Q) : tLst (tA G Φ E c m) σ H Q :=
  tA_then h fun ds vs F N T R ρ H1 j r o q => by
    split at q
    · exact ⟨by rw [ownL_len o]; assumption, new_lst j o fun v F' T' H' l k j' o' => q v F' N T' H' l (fun _ => k) j' (rel_le l r) o'⟩
    · exact q.elim
end
section
variable {X : Cx} {cl : Nat → Addr} {Φ : St → Prop} {E : St → XK} {c : Bool} {k : Nat} {pos p : Pos} {e : Expr} {es : List Expr} {tg : Expr}
theorem re_tup {kk : Nat} {m : M (List D)} (h : RA X cl Φ E c es m) : RE X cl Φ E c (.Tuple es kk pos) (mTup m) := ⟨(pe_tup h.pa).weak fun _ _ _ q => tE_tup q⟩
theorem re_lst {m : M (List D)} (h : RA X cl Φ E c es m) : RE X cl Φ E c (.List es pos) (mLst m) := ⟨(pe_lst h.pa).weak fun _ _ _ q => tE_lst q⟩
/-- a built-in, a built-in type called -/
theorem re_blt {x : Str} {id : String} {r : List V → Hp → VK → Prop} {f : List D → Option D} {m : M (List D)} (hc : CallR X (.builtin id) r) (hF : FN (gx X cl) r f) (hm : X.mg x = none) (hv : bootBuiltins x = some (.builtin id)) (h : RA X cl Φ E c (e :: es) m)
    (hg : Gl X x := by rfl) (hn : x ≠ "__name__" := by decide) (hdb : (x == ("__debug__" : Str)) = false := by decide) (he : starEach (e :: es) X.env = (false, eval e X.env) :: starEach es X.env := by rfl) (hpl : (backTo pos (starEach es X.env)).any (·.1) = false := by rfl) :
    RE X cl Φ E c (.Call (.Name x p) (e :: es) [] pos) (mFun f m) := ⟨(pe_callB hc hg hm hv h.pa hn hdb he hpl).weak fun _ _ _ q => tA_fun hF q⟩
theorem re_ty {x : Str} {T : String} {r : List V → Hp → VK → Prop} {f : List D → Option D} {m : M (List D)} (hc : CallR X (.type T) r) (hF : FN (gx X cl) r f) (hm : X.mg x = none) (hv : bootBuiltins x = some (.type T)) (h : RA X cl Φ E c (e :: es) m)
    (hg : Gl X x := by rfl) (hn : x ≠ "__name__" := by decide) (hdb : (x == ("__debug__" : Str)) = false := by decide) (he : starEach (e :: es) X.env = (false, eval e X.env) :: starEach es X.env := by rfl) (hpl : (backTo pos (starEach es X.env)).any (·.1) = false := by rfl) :
    RE X cl Φ E c (.Call (.Name x p) (e :: es) [] pos) (mFun f m) := ⟨(pe_callTy hc hg hm hv h.pa hn hdb he hpl).weak fun _ _ _ q => tA_fun hF q⟩
end
/-! ### what loops walk -/
theorem _root_.L2.PI.or {X : Cx} {tg l : Expr} {w w' : TI} (h : PI X tg l w) (h' : PI X tg l w') : PI X tg l (fun σ H R => w σ H R ∨ w' σ H R) :=
  ⟨fun pins s σ H R I q => q.elim (h.run pins s σ H R I) (h'.run pins s σ H R I)⟩
theorem _root_.L2.PI.weak {X : Cx} {tg l : Expr} {w w' : TI} (h : PI X tg l w) (q : ∀ σ H R, w' σ H R → w σ H R) : PI X tg l w' := ⟨fun pins s σ H R I p => h.run pins s σ H R I (q σ H R p)⟩
def itemsOf : D → Option (List D)
  | .lst _ ds => some (frzL ds)
  | .tup ds => some (frzL ds)
  | .out ds => some (frzL ds)
  | .str x => some (x.cps.toList.map fun c => .str ⟨#[c]⟩)
  | _ => none
def mItems (m : M D) : M (List D × Bk) := fun ρ => (m ρ).bind fun d ρ1 => match itemsOf d with
  | some ds => .ok (ds, none) ρ1
  | none => .no
def mRng1 (m : M (List D)) : M (List D × Bk) := fun ρ => (m ρ).bind fun ds ρ1 => match ds with
  | [.int j] => if -(2 ^ 62) ≤ j ∧ j < 2 ^ 62 then .ok ((List.range j.toNat).map (fun i : Nat => .int (i : Int)), none) ρ1 else .no
  | _ => .no
def mRng2 (m : M (List D)) : M (List D × Bk) := fun ρ => (m ρ).bind fun ds ρ1 => match ds with
  | [.int i, .int j] => if (-(2 ^ 62) ≤ i ∧ i < 2 ^ 62) ∧ (-(2 ^ 62) ≤ j ∧ j < 2 ^ 62) then .ok ((List.range (j - i).toNat).map (fun n : Nat => .int (i + (n : Int))), none) ρ1 else .no
  | _ => .no
/-- a list that a parameter holds is walked; it is lent meanwhile -/
def mLend (i : Nat) : M (List D × Bk) := fun ρ => match ρ[i]? with
  | some (.lst o ds) => .ok (frzL ds, some (i, .lst o (frzL ds))) (ρ.set i .hole)
  | some (.str x) => .ok (x.cps.toList.map fun c => .str ⟨#[c]⟩, none) ρ
  | some (.out ds) => if shrL ds = true then .ok (ds, none) ρ else .no
  | some (.tup ds) => if shrL ds = true then .ok (ds, none) ρ else .no
  | _ => .no
section
variable {G : Gx} {Φ : St → Prop} {E : St → XK} {c : Bool} {σ : St} {H : Hp}
theorem tI_ofA {m : M (List D)} {k : List D → Env → O (List D × Bk)} {Q : It → Hp → Prop} {t : List V → Hp → Prop} (h : tI G Φ E (fun ρ => (m ρ).bind k) σ H Q)
    (hk : ∀ ds vs F N T R ρ H1, J [F, N, T, R] H1 → Rel G F ρ σ N → OwnL G F ds vs T → PostI G Φ E σ F R Q (k ds ρ) → t vs H1) : tA G Φ E c m σ H t := by
  obtain ⟨F, N, R, ρ, a, q⟩ := h
  refine ⟨F, N, R, ρ, a, ?_⟩
  have q : PostI G Φ E σ F R Q ((m ρ).bind k) := q
  cases e : m ρ with
  | no => rw [e] at q; exact q
  | ex k ρ' => rw [e] at q; exact q
  | ok ds ρ1 =>
    rw [e] at q
    simp only [O.bind] at q
    intro vs F1 N1 T1 H1 l1 k1 j1 r1 o1
    refine hk ds vs F1 N1 T1 R ρ1 H1 j1 r1 o1 ?_
    cases e1 : k ds ρ1 with
    | no => rw [e1] at q; exact q
    | ex k ρ' => rw [e1] at q; exact PX.le q l1
    | ok d ρ' => rw [e1] at q; exact fun Jt F' N' T H' l => q Jt F' N' T H' (l1.trans l)
theorem range0 (n : Nat) : ((List.range n).map fun i : Nat => D.int (i : Int)) = (List.range n).map fun i : Nat => D.int (0 + (i : Int)) := by
  apply List.map_congr_left
  intro a _
  rw [Int.zero_add]
theorem tI_rng1 {m : M (List D)} {Q : It → Hp → Prop} (h : tI G Φ E (mRng1 m) σ H Q) : iRng1 (tA G Φ E c m) σ H Q :=
  tI_ofA h fun ds vs F N T R ρ H1 j r o q => by
    split at q
    · rename_i i
      split at q
      · rename_i hb
        obtain ⟨v, w, M1, M2, rfl, jm, o1, o2⟩ := o
        obtain ⟨rfl, rfl⟩ := o1
        obtain ⟨rfl, rfl⟩ := o2
        refine ⟨i, rfl, hb.1, hb.2, q _ F N T H1 Le.refl j r ?_ trivial⟩
        rw [range0]
        exact feeds_range
      · exact q.elim
    · exact q.elim
theorem tI_rng2 {m : M (List D)} {Q : It → Hp → Prop} (h : tI G Φ E (mRng2 m) σ H Q) : iRng2 (tA G Φ E c m) σ H Q :=
  tI_ofA h fun ds vs F N T R ρ H1 j r o q => by
    split at q
    · rename_i i i'
      split at q
      · rename_i hb
        obtain ⟨v, w, M1, M2, rfl, jm, o1, o2⟩ := o
        obtain ⟨rfl, rfl⟩ := o1
        obtain ⟨v', w', M1', M2', rfl, jm', o1', o2'⟩ := o2
        obtain ⟨rfl, rfl⟩ := o1'
        obtain ⟨rfl, rfl⟩ := o2'
        exact ⟨i, i', rfl, ⟨hb.1.1, hb.1.2, hb.2.1, hb.2.2⟩, q _ F N T H1 Le.refl j r feeds_range trivial⟩
      · exact q.elim
    · exact q.elim
theorem feeds_str {F T : Hp} {x : Str} : Feeds G F T (Its x) (x.cps.toList.map fun c => .str ⟨#[c]⟩) := by
  intro F' H' l l1 l2
  refine ⟨by simp [Its], fun i d e => ?_⟩
  rw [List.getElem?_map] at e
  cases hh : x.cps.toList[i]? with
  | none => rw [hh] at e; cases e
  | some cc =>
    rw [hh] at e
    cases e
    have hi : i < x.cps.size := by simpa using (List.getElem?_eq_some_iff.mp hh).1
    refine ⟨hi, fun v H2 N R y j => ?_⟩
    obtain ⟨rfl, c', e1, rfl⟩ := y
    rw [Array.getElem?_toList] at hh
    rw [hh] at e1
    cases e1
    exact ⟨F', emp, Le.refl, emp_in j, rfl, rfl⟩
theorem tI_items {K : PySem.W.Frag} {m : M D} {Q : It → Hp → Prop} (h : tI G Φ E (mItems m) σ H Q) : (iList G.K (tE G Φ E c m) σ H Q ∨ iTup G.K (tE G Φ E c m) σ H Q) ∨ iStr (tE G Φ E c m) σ H Q := by
  obtain ⟨F, N, R, ρ, a, q⟩ := h
  unfold mItems at q
  cases e : m ρ with
  | no => rw [e] at q; exact q.elim
  | ex k ρ' =>
    rw [e] at q
    exact .inr ⟨F, N, R, ρ, a, by rw [e]; exact q⟩
  | ok d ρ1 =>
    rw [e] at q
    simp only [O.bind] at q
    cases d with
    | lst o ds =>
      refine .inl (.inl ⟨F, N, R, ρ, a, ?_⟩)
      rw [e]
      intro v F1 N1 T1 H1 l1 k1 j1 r1 o1
      have dd := dump1 j1
      obtain ⟨p, vs, S, C, rfl, jc, w, g⟩ := own_lst o1
      exact ⟨p, rfl, ⟨vs, .of (g H1 j1.le (j1.sub (by simp)))⟩, q _ _ N1 emp H1 (l1.trans dd.2.1) dd.1 (rel_le dd.2.1 r1)
        (feeds_list (vs := vs) (fun H' l _ => .of (g H' (dd.2.1.trans l) (dd.2.2.trans l))) (ownL_frz w dd.2.1 ((j_le jc).2.trans dd.2.2))) trivial⟩
    | out ds =>
      refine .inl (.inl ⟨F, N, R, ρ, a, ?_⟩)
      rw [e]
      intro v F1 N1 T1 H1 l1 k1 j1 r1 o1
      have dd := dump1 j1
      obtain ⟨p, vs, rfl, rfl, g, w⟩ := o1
      exact ⟨p, rfl, ⟨vs, sqL_le g j1.le⟩, q _ _ N1 emp H1 (l1.trans dd.2.1) dd.1 (rel_le dd.2.1 r1)
        (feeds_list (vs := vs) (fun H' l _ => sqL_le g (dd.2.1.trans l)) (ownL_frz w dd.2.1 dd.2.2)) trivial⟩
    | tup ds =>
      refine .inl (.inr ⟨F, N, R, ρ, a, ?_⟩)
      rw [e]
      intro v F1 N1 T1 H1 l1 k1 j1 r1 o1
      have dd := dump1 j1
      obtain ⟨p, vs, S, C, rfl, jc, w, g⟩ := own_tup o1
      exact ⟨p, rfl, ⟨vs, g H1 j1.le (j1.sub (by simp))⟩, q _ _ N1 emp H1 (l1.trans dd.2.1) dd.1 (rel_le dd.2.1 r1)
        (feeds_tup (vs := vs) (fun H' l _ => g H' (dd.2.1.trans l) (dd.2.2.trans l)) (ownL_frz w dd.2.1 ((j_le jc).2.trans dd.2.2))) trivial⟩
    | str x =>
      refine .inr ⟨F, N, R, ρ, a, ?_⟩
      rw [e]
      intro v F1 N1 T1 H1 l1 k1 j1 r1 o1
      obtain ⟨rfl, rfl⟩ := o1
      exact ⟨x, rfl, q _ F1 N1 emp H1 l1 j1 r1 feeds_str trivial⟩
    | _ => exact q.elim
theorem tI_lend {i : Nat} {Q : It → Hp → Prop} (hst : ∀ σ σ', Φ σ → Φ σ' → σ[i]? = σ'[i]?) (h : tI G Φ E (mLend i) σ H Q) : (iList G.K (tVar i) σ H Q ∨ iTup G.K (tVar i) σ H Q) ∨ iStr (tVar i) σ H Q := by
  obtain ⟨F, N, R, ρ, a, q⟩ := h
  unfold mLend at q
  split at q
  · rename_i o ds e0
    obtain ⟨ov, M1, Mr, e1, j, w, kk⟩ := rel_at a.2.1 e0
    obtain ⟨v, rfl, w1⟩ := ownO_of w (by simp)
    have j1 : J [M1, Mr, F, R] H := J.nest (xs := [F, R]) j (a.1.re [1, 0, 2])
    obtain ⟨p, vs, rfl, w1⟩ := w1
    rcases w1 with ⟨z, rfl, g, wl⟩ | ⟨z, M', jc, wl⟩
    · have j2 : J [F, Mr, emp, R] H := j1.re [2, 1, 0, 3]
      have r2 := kk F .hole (some (.ref p)) emp Mr Le.refl (.inl ⟨rfl, rfl⟩) (J.emp_iff.mpr J.self)
      rw [set_self e1] at r2
      have wf := ownL_frz wl Le.refl (fun _ _ e => nomatch e)
      exact .inl (.inl ⟨.ref p, e1, p, rfl, ⟨vs, .of (j2.le _ _ g)⟩, q _ F Mr emp H Le.refl j2 r2 (feeds_list (vs := vs) (fun H' l m => .of (l _ _ g)) wf) ⟨.ref p, e1, ⟨p, vs, rfl, .inl ⟨z, rfl, g, wf⟩⟩, fun σ' f => (hst σ σ' a.2.2 f).symm.trans e1⟩⟩)
    · have jx : J [one p (.lst vs), M', Mr, F, R] H := J.nest (xs := [Mr, F, R]) jc j1
      have jy := (jx.re [3, 2, 1, 0, 4]).give
      have wl2 := ownL_frz wl jy.2.1 jy.2.2
      have r2 := kk (un F M') .hole (some (.ref p)) emp Mr jy.2.1 (.inl ⟨rfl, rfl⟩) (J.emp_iff.mpr J.self)
      rw [set_self e1] at r2
      exact .inl (.inl ⟨.ref p, e1, p, rfl, ⟨vs, .of jx.at⟩, q _ _ Mr _ H jy.2.1 jy.1 r2 (feeds_list (vs := vs) (fun H' l m => .of (m _ _ one_same)) wl2)
        ⟨.ref p, e1, ⟨p, vs, rfl, .inr ⟨z, emp, (J.emp_iff.mpr J.self).re [1, 0], wl2⟩⟩, fun σ' f => (hst σ σ' a.2.2 f).symm.trans e1⟩⟩)
  · rename_i x e0
    obtain ⟨ov, M1, Mr, e1, j, w, kk⟩ := rel_at a.2.1 e0
    obtain ⟨v, rfl, w1⟩ := ownO_of w (by simp)
    obtain ⟨rfl, rfl⟩ := w1
    exact .inr ⟨.str x, e1, x, rfl, q _ F N emp H Le.refl (emp_in a.1) a.2.1 feeds_str trivial⟩
  · rename_i ds e0
    split at q
    · rename_i hs
      obtain ⟨ov, M1, Mr, e1, j, w, kk⟩ := rel_at a.2.1 e0
      obtain ⟨v, rfl, w1⟩ := ownO_of w (by simp)
      obtain ⟨p, vs, rfl, rfl, g, wl⟩ := w1
      exact .inl (.inl ⟨.ref p, e1, p, rfl, ⟨vs, sqL_le g a.1.le⟩, q _ F N emp H Le.refl (emp_in a.1) a.2.1 (feeds_list (vs := vs) (fun H' l m => sqL_le g l) wl) trivial⟩)
    · exact q.elim
  · rename_i ds e0
    split at q
    · rename_i hs
      obtain ⟨ov, M1, Mr, e1, j, w, kk⟩ := rel_at a.2.1 e0
      obtain ⟨v, rfl, w1⟩ := ownO_of w (by simp)
      have j1 : J [M1, Mr, F, R] H := J.nest (xs := [F, R]) j (a.1.re [1, 0, 2])
      have jy := (j1.re [2, 1, 0, 3]).give
      have w2 : Own G (un F M1) (.tup ds) v emp := own_shr_mem w1 (by rw [shr]; exact hs) jy.2.1 jy.2.2
      have r2 := kk (un F M1) (.tup ds) (some v) emp Mr jy.2.1 (.inr ⟨v, rfl, w2⟩) (J.emp_iff.mpr J.self)
      rw [set_self e1, set_self e0] at r2
      obtain ⟨p, vs, S, C, rfl, jc, wl, g⟩ := own_tup w2
      have : C = emp := by funext b; exact J.clear jc (a := b) rfl (by simp)
      subst this
      exact .inl (.inr ⟨.ref p, e1, p, rfl, ⟨vs, g H jy.1.le (fun _ _ z => nomatch z)⟩, q _ _ Mr emp H jy.2.1 (emp_in jy.1) r2 (feeds_tup (vs := vs) (fun H' l m => g H' l (fun _ _ z => nomatch z)) wl) trivial⟩)
    · exact q.elim
  · exact q.elim
end
section
variable {X : Cx} {cl : Nat → Addr} {Φ : St → Prop} {E : St → XK} {c : Bool} {k : Nat} {pos p : Pos} {e : Expr} {es : List Expr} {tg : Expr}
theorem ri_items {m : M D} (h : RE X cl Φ E c e m) : RI X cl Φ E tg e (mItems m) := ⟨(((pi_list h.pe).or (pi_tup h.pe)).or (pi_str h.pe)).weak fun σ H R q => tI_items (K := X.K) q⟩
theorem ri_rng1 {m : M (List D)} (hm : X.mg "range" = none) (h : RA X cl Φ E c [e] m) (hg : Gl X "range" := by rfl) (hs : starEach [e] X.env = [(false, eval e X.env)] := by rfl) : RI X cl Φ E tg (.Call (.Name "range" p) [e] [] pos) (mRng1 m) :=
  ⟨(pi_range1 hg hm h.pa hs).weak fun σ H R q => tI_rng1 q⟩
theorem ri_rng2 {e' : Expr} {m : M (List D)} (hm : X.mg "range" = none) (h : RA X cl Φ E c [e, e'] m) (hg : Gl X "range" := by rfl) (hs : starEach [e, e'] X.env = [(false, eval e X.env), (false, eval e' X.env)] := by rfl) (hs2 : starEach [e'] X.env = [(false, eval e' X.env)] := by rfl) :
    RI X cl Φ E tg (.Call (.Name "range" p) [e, e'] [] pos) (mRng2 m) := ⟨(pi_range2 hg hm h.pa hs hs2).weak fun σ H R q => tI_rng2 q⟩
theorem ri_lend {i : Nat} {x : Str} (hst : ∀ σ σ', Φ σ → Φ σ' → σ[i]? = σ'[i]?) (hp : PE X (.Name x pos) (tVar i)) : RI X cl Φ E tg (.Name x pos) (mLend i) := ⟨(((pi_list hp).or (pi_tup hp)).or (pi_str hp)).weak fun σ H R q => tI_lend hst q⟩
theorem keep_same {st : List Bool} {vs : List V} {i : Nat} (h : (st[i]? == some true) = true) (hl : st.length ≤ vs.length) : ∀ σ σ', Keep st vs σ → Keep st vs σ' → σ[i]? = σ'[i]? := fun σ σ' q q' => by
  have e : st[i]? = some true := by simpa using h
  have hi : i < vs.length := Nat.lt_of_lt_of_le (List.getElem?_eq_some_iff.mp e).1 hl
  rw [q i _ e (List.getElem?_eq_getElem hi), q' i _ e (List.getElem?_eq_getElem hi)]
end
end Z

end
section
set_option maxRecDepth 100000
/-! Z: comprehensions -/
namespace Z
open PySem PySem.Spec L2
open PyProof.Rows hiding St
abbrev E00 : St → XK := fun _ _ _ _ => False
def wipeR : List Nat → Env → Env
  | [], ρ => ρ
  | v :: vs, ρ => (wipeR vs ρ).set v .hole
def restR : List Nat → Env → Env → Env
  | [], _, ρ2 => ρ2
  | v :: vs, ρ1, ρ2 => restR vs ρ1 (match (wipeR vs ρ1)[v]? with
    | some d => ρ2.set v d
    | none => ρ2)
def mYes : M Bool := fun ρ => .ok true ρ
def loopC (vs : List Nat) (g : D → M Unit) (t : M Bool) (m : M D) : List D → List D → Env → O (List D)
  | [], acc, ρ => .ok acc ρ
  | d :: ds, acc, ρ => match g d ρ with
    | .ok _ ρ1 => (match t ρ1 with
      | .ok true ρ2 => (match m ρ2 with
        | .ok z ρ3 => if acc.length < sizeLine then loopC vs g t m ds (acc ++ [z]) (wipeR vs ρ3) else .no
        | _ => .no)
      | .ok false ρ2 => loopC vs g t m ds acc (wipeR vs ρ2)
      | _ => .no)
    | _ => .no
/-- [m for g in it if t]; vs: the block's own names -/
def mLc (vs : List Nat) (it : M (List D × Bk)) (g : D → M Unit) (t : M Bool) (m : M D) : M D := fun ρ => (it ρ).bind fun x ρ1 => match loopC vs g t m x.1 [] (wipeR vs ρ1) with
  | .ok acc ρ2 => if holeAt x.2 (restR vs ρ1 ρ2) = true then .ok (.lst true acc) (putBk x.2 (restR vs ρ1 ρ2)) else .no
  | _ => .no
/-- the block's own slots are as they were ahead of it -/
def Wp (vs : List Nat) (σ0 : St) (σ : St) : Prop := wipe σ vs = wipe σ0 vs
theorem wipe_set {i : Nat} {v : Option V} : ∀ {vs : List Nat} {σ : St}, i ∈ vs → wipe (σ.set i v) vs = wipe σ vs
  | [], _, h => by simp at h
  | w :: vs, σ, h => by
    by_cases e : i ∈ vs
    · show (wipe (σ.set i v) vs).set w none = (wipe σ vs).set w none
      rw [wipe_set e]
    · have ew : i = w := by
        rcases List.mem_cons.mp h with z | z
        · exact z
        · exact absurd z e
      subst ew
      show (wipe (σ.set i v) vs).set i none = (wipe σ vs).set i none
      have : ∀ {vs : List Nat} {σ : St}, wipe (σ.set i v) vs = (wipe σ vs).set i (if i ∈ vs then none else v) := by
        intro vs
        induction vs with
        | nil => intro σ; simp [wipe]
        | cons u us ih =>
          intro σ
          show (wipe (σ.set i v) us).set u none = ((wipe σ us).set u none).set i _
          rw [ih]
          by_cases eu : u = i
          · subst eu
            simp
          · rw [List.set_comm _ _ (Ne.symm eu)]
            have : (i ∈ u :: us) = (i ∈ us) := by simp [Ne.symm eu]
            simp only [this]
      rw [this, List.set_set]
def packB (ys : List Hp) : Hp := fun a => (ys.filterMap (fun A : Hp => A a)).head?
theorem J.pack {ys xs : List Hp} {H : Hp} (h : J (ys ++ xs) H) : ∃ B, J ys B ∧ J (B :: xs) H := by
  have key : J ys (packB ys) := fun a => by
    have e := h a
    rw [List.filterMap_append] at e
    have hl := congrArg List.length e
    rw [List.length_append] at hl
    have : (H a).toList.length ≤ 1 := by cases H a <;> simp
    unfold packB
    generalize ys.filterMap (fun A : Hp => A a) = l at hl ⊢
    match l, hl with
    | [], _ => rfl
    | [u], _ => rfl
    | u :: v :: us, hl => simp only [List.length_cons] at hl; omega
  refine ⟨packB ys, key, fun a => ?_⟩
  rw [← h a, List.filterMap_append, List.filterMap_cons, key a]
  cases packB ys a <;> rfl
section
variable {G : Gx} {Φ : St → Prop} {E : St → XK} {c : Bool} {σ : St} {H : Hp}
theorem wipe_idem : ∀ (vs : List Nat) (σ : St), wipe (wipe σ vs) vs = wipe σ vs := by
  intro vs
  induction vs with
  | nil => intro σ; rfl
  | cons v vs ih =>
    intro σ
    show (wipe ((wipe σ vs).set v none) vs).set v none = (wipe σ vs).set v none
    by_cases e : v ∈ vs
    · rw [wipe_set e, ih]
    · have : ∀ (us : List Nat) (τ : St), v ∉ us → wipe (τ.set v none) us = (wipe τ us).set v none := by
        intro us
        induction us with
        | nil => intro τ _; rfl
        | cons u us ih2 =>
          intro τ h
          have h1 : v ≠ u := fun z => h (by simp [z])
          have h2 : v ∉ us := fun z => h (by simp [z])
          show (wipe (τ.set v none) us).set u none = ((wipe τ us).set u none).set v none
          rw [ih2 τ h2, List.set_comm _ _ h1]
      rw [this vs _ e, ih, List.set_set]
/-- own slots are emptied; what they held is put aside and put back -/
theorem rel_wipe : ∀ {vs : List Nat} {F : Hp} {ρ : Env} {σ : St} {N : Hp}, Rel G F ρ σ N → ∃ P Nw, J [P, Nw] N ∧ Rel G F (wipeR vs ρ) (wipe σ vs) Nw ∧
    ∀ F' ρ2 N2 N', Le F F' → Rel G F' ρ2 (wipe σ vs) N2 → J [P, N2] N' → ∃ N3 Z, J [N3, Z] N' ∧ Rel G F' (restR vs ρ ρ2) σ N3
  | [], F, ρ, σ, N, r => ⟨emp, N, J.emp_iff.mpr J.self, r, fun F' ρ2 N2 N' l r2 j => ⟨N2, emp, j.re [1, 0], r2⟩⟩
  | v :: vs, F, ρ, σ, N, r => by
    obtain ⟨P, Nw, j, rw1, back⟩ := rel_wipe (vs := vs) r
    cases e : (wipeR vs ρ)[v]? with
    | none =>
      have e2 : (wipe σ vs)[v]? = none := by
        rw [List.getElem?_eq_none_iff] at e ⊢
        rw [rel_len rw1]; exact e
      have z1 : (wipe σ (v :: vs)) = wipe σ vs := List.set_eq_of_length_le (List.getElem?_eq_none_iff.mp e2)
      have z2 : wipeR (v :: vs) ρ = wipeR vs ρ := List.set_eq_of_length_le (List.getElem?_eq_none_iff.mp e)
      refine ⟨P, Nw, j, by rw [z1, z2]; exact rw1, fun F' ρ2 N2 N' l r2 j2 => ?_⟩
      rw [z1] at r2
      have := back F' ρ2 N2 N' l r2 j2
      rw [restR, e]
      exact this
    | some d =>
      obtain ⟨ov, M1, Mr, e1, jm, w, kk⟩ := rel_at rw1 e
      have r2 := kk F .hole none emp Mr Le.refl (.inl ⟨rfl, rfl⟩) (J.emp_iff.mpr J.self)
      have j1 : J [M1, Mr, P] N := J.nest (xs := [P]) jm (j.re [1, 0])
      obtain ⟨j2, j3⟩ := (j1.re [0, 2, 1]).join
      refine ⟨un M1 P, Mr, j3, r2, fun F' ρ2 N2 N' l r3 j4 => ?_⟩
      have j5 : J [M1, P, N2] N' := J.nest (xs := [N2]) j2 j4
      have lv : v < (wipe σ vs).length := (List.getElem?_eq_some_iff.mp e1).1
      have e3 : (wipe σ (v :: vs))[v]? = some none := by
        show ((wipe σ vs).set v none)[v]? = _
        rw [List.getElem?_set_self lv]
      have lr : v < ρ2.length := by
        rw [← rel_len r3]
        exact (List.getElem?_eq_some_iff.mp e3).1
      obtain ⟨ov2, M2, Mr2, e4, jm2, w2, kk2⟩ := rel_at r3 (List.getElem?_eq_getElem lr)
      have j6 : J [M2, Mr2, M1, P] N' := J.nest (xs := [M1, P]) jm2 (j5.re [2, 0, 1])
      obtain ⟨j7, j8⟩ := (j6.re [2, 1, 0, 3]).join
      have r4 := kk2 F' d ov M1 _ Le.refl (ownO_le l w) j7
      have e5 : (wipe σ (v :: vs)).set v ov = wipe σ vs := by
        show ((wipe σ vs).set v none).set v ov = wipe σ vs
        rw [List.set_set, set_self e1]
      rw [e5] at r4
      obtain ⟨j9, j10⟩ := (j8.re [2, 0, 1]).join
      obtain ⟨N3, Z, j11, r5⟩ := back F' _ _ _ l r4 j9
      refine ⟨N3, un Z M2, ?_, by rw [restR, e]; exact r5⟩
      have j12 : J [N3, Z, M2] N' := J.nest (xs := [M2]) j11 j10
      exact (j12.re [1, 2, 0]).join.2.re [1, 0]
end
section
variable {X : Cx} {cl : Nat → Addr} {Φ : St → Prop} {E : St → XK} {c : Bool} {k : Nat} {pos p : Pos} {e : Expr} {es : List Expr} {tg iter elt : Expr} {ifs : List Expr}
structure RT (X : Cx) (cl : Nat → Addr) (Φ : St → Prop) (E : St → XK) (c : Bool) (ifs : List Expr) (t : M Bool) : Prop where
  pts : PTs X ifs (tB (gx X cl) Φ E c t)
theorem _root_.L2.PTs.weak {X : Cx} {e : List Expr} {t t' : TT} (h : PTs X e t) (w : ∀ σ H Q, t' σ H Q → t σ H Q) : PTs X e t' := ⟨fun pins s σ H Q I q => h.run pins s σ H Q I (w σ H Q q)⟩
theorem rt_nil : RT X cl Φ E true [] mYes := ⟨pts_nil.weak fun σ H Q ⟨F, N, R, ρ, a, q⟩ => q F N H Le.refl (fun _ => Le.refl) a.1 a.2.1⟩
theorem rt_one {t : M Bool} (h : RB X cl Φ E c e t) : RT X cl Φ E c [e] t := ⟨pts_one h.pt⟩
/-- the block's frame -/
abbrev bX (X : Cx) (scope : Scope) (s : Shared) (H : Hp) (C : Addr) (cs : List (Str × Addr)) (fp : List Addr) : Cx := X.blk s H scope (compEnvC scope cs C X.env) fp
theorem Kx.blk {scope : Scope} {s : Shared} {H : Hp} {C : Addr} {cs : List (Str × Addr)} {fp : List Addr} (κ : Kx X E k) : Kx (bX X scope s H C cs fp) E00 k :=
  ⟨κ.calm, PassesOwn.never, κ.nd, ⟨κ.room.hd, κ.room.dp, κ.room.un⟩, takes0⟩
theorem wp_set {vs : List Nat} {σ0 : St} {i : Nat} (h : vs.contains i = true) : ∀ σ v, Wp vs σ0 σ → Wp vs σ0 (σ.set i (some v)) := fun σ v q => by
  have hm : i ∈ vs := by simpa using h
  show wipe (σ.set i (some v)) vs = _
  rw [wipe_set hm]
  exact q
theorem tE_lc {G : Gx} {vs : List Nat} {it : M (List D × Bk)} {g : D → M Unit} {t : M Bool} {m : M D} {c1 c2 : Bool} {σ : St} {H : Hp} {Q : VK} (h : tE G Φ E false (mLc vs it g t m) σ H Q) :
    tLc (tI G Φ E it) (fun v σ H Q => ∃ σ0, tG G (Wp vs σ0) g v σ H Q) (fun σ H Q => ∃ σ0, tB G (Wp vs σ0) E00 c1 t σ H Q) (fun σ H Q => ∃ σ0, tE G (Wp vs σ0) E00 c2 m σ H Q) vs σ H Q := by
  obtain ⟨F, N, R, ρ, a, q⟩ := h
  refine ⟨F, N, R, ρ, a, ?_⟩
  unfold mLc at q
  cases e : it ρ with
  | no => rw [e] at q; exact q
  | ex k ρ' => rw [e] at q; exact q
  | ok x ρ1 =>
    obtain ⟨ds, bk⟩ := x
    rw [e] at q
    simp only [O.bind] at q
    intro Jt F1 N1 T H1 l1 j1 r1 fd bo Dp hD
    obtain ⟨P, Nw, jp, rw1, back⟩ := rel_wipe (vs := vs) r1
    have j2 : J [P, Nw, F1, T, R] H1 := J.nest (xs := [F1, T, R]) jp (j1.re [1, 0, 2, 3])
    have j3 := (j2.alloc (o := .lst []) hD).re [3, 2, 0, 1, 4, 5]
    let Fin : O (List D) → Prop := fun o => match o with
      | .ok acc ρ2 => ∀ F2 N2 C accv H2, Le F1 F2 → J [F2, N2, one Dp (.lst accv), C, P, T, R] H2 → Rel G F2 ρ2 (wipe σ vs) N2 → OwnL G F2 acc accv C → Q (.ref Dp) H2
      | _ => False
    have fin0 : Fin (loopC vs g t m ds [] (wipeR vs ρ1)) := by
      cases e2 : loopC vs g t m ds [] (wipeR vs ρ1) with
      | no => rw [e2] at q; exact q
      | ex k ρ' => rw [e2] at q; exact q
      | ok acc ρ2 =>
        rw [e2] at q
        intro F2 N2 C accv H2 l2 jj rr oo
        obtain ⟨ja, jb⟩ := (jj.re [4, 1, 0, 2, 3, 5, 6]).join
        obtain ⟨N3, Z, jc, r3⟩ := back F2 ρ2 N2 _ l2 rr ja
        have jd : J [N3, Z, F2, one Dp (.lst accv), C, T, R] H2 := J.nest (xs := [F2, one Dp (.lst accv), C, T, R]) jc jb
        have je := (jd.re [2, 0, 1, 3, 4, 5, 6]).give
        obtain ⟨jf, jg⟩ := (je.1.re [2, 3, 0, 1, 4, 5]).join
        simp only at q
        split at q
        · rename_i hh
          have bo2 : BackOk G Φ (un F2 Z) T σ ρ1 bk := by
            cases bk with
            | none => trivial
            | some p =>
              obtain ⟨i, d⟩ := p
              obtain ⟨v, e', o', s'⟩ := bo
              exact ⟨v, e', own_le (l2.trans je.2.1) o', s'⟩
          obtain ⟨jh, ji⟩ := (jg.re [0, 4, 1, 2, 3]).join
          obtain ⟨F3, N4, l3, a3⟩ := back_in (G := G) (Φ := Φ) (H := H2) (ji.re [1, 2, 3, 0]) (rel_le je.2.1 r3) a.2.2 bo2 hh
          exact q (.ref Dp) F3 N4 _ H2 (((l1.trans l2).trans je.2.1).trans l3) (fun z => nomatch z) (J.unhide (ys := []) jh a3.1) a3.2.1 ⟨Dp, accv, rfl, .inr ⟨rfl, C, jf, ownL_le (je.2.1.trans l3) oo⟩⟩
        · exact q.elim
    refine ⟨fun i mm H' => i + mm = ds.length ∧ ∃ F' N' ρ' accv acc C, Le F1 F' ∧ J [F', N', one Dp (.lst accv), C, P, T, R] H' ∧ Rel G F' ρ' (wipe σ vs) N' ∧ OwnL G F' acc accv C ∧ Fin (loopC vs g t m (ds.drop i) acc ρ'),
      ⟨ds.length, by omega, F1, Nw, _, [], [], emp, Le.refl, (J.emp_iff.mpr j3).re [1, 2, 3, 0, 4, 5, 6], rw1, ⟨rfl, rfl⟩, fin0⟩, ?_⟩
    rintro i mm H' ⟨hm, F', N', ρ', accv, acc, C, l', j', r', o', q'⟩
    obtain ⟨f1, f2⟩ := fd F' H' l' j'.le (j'.sub (by simp))
    by_cases hi : i < ds.length
    · have e1 : ds[i]? = some ds[i] := List.getElem?_eq_getElem hi
      rw [List.drop_eq_getElem_cons hi] at q'
      obtain ⟨g1, g2⟩ := f2 i _ e1
      refine .inr ⟨g1, _, fun H2 w => ⟨mm - 1, by omega, w⟩, fun x H2 y => ?_⟩
      obtain ⟨B, jb1, jb2⟩ := J.pack (ys := [one Dp (.lst accv), C, P, T, R]) (xs := [F', N']) (j'.re [2, 3, 4, 5, 6, 0, 1])
      obtain ⟨F2, T', l2, jj2, o2⟩ := g2 x H2 N' B y (jb2.re [1, 2, 0])
      refine ⟨σ, F2, N', T', B, ρ', _, jj2, rel_le l2 r', wipe_idem vs σ, o2, ?_⟩
      unfold loopC at q'
      cases eg : g ds[i] ρ' with
      | no => rw [eg] at q'; exact q'.elim
      | ex k ρ' => rw [eg] at q'; exact q'.elim
      | ok u ρ1' =>
        rw [eg] at q'
        intro F3 N3 H3 σ3 l3 a3
        have ew : wipe σ3 vs = wipe σ vs := a3.2.2
        refine ⟨ew, σ, F3, N3, B, ρ1', a3, ?_⟩
        simp only at q'
        cases et : t ρ1' with
        | no => rw [et] at q'; exact q'.elim
        | ex k ρ' => rw [et] at q'; exact q'.elim
        | ok b ρ2 =>
          rw [et] at q'
          intro F4 N4 H4 l4 k4 j4 r4
          cases b with
          | false =>
            simp only at q'
            refine ite_ff ?_
            obtain ⟨P5, Nw5, jw, rw5, _⟩ := rel_wipe (vs := vs) r4
            rw [ew] at rw5
            have ja := J.nest (xs := [F4, N4]) jb1 (j4.re [2, 0, 1])
            have jc := J.nest (xs := [one Dp (.lst accv), C, P, T, R, F4]) jw (ja.re [6, 0, 1, 2, 3, 4, 5])
            have jd := (jc.re [7, 1, 0, 2, 3, 4, 5, 6]).give
            exact ⟨by omega, _, Nw5, _, accv, acc, C, (((l'.trans l2).trans l3).trans l4).trans jd.2.1, jd.1, rel_le jd.2.1 rw5, ownL_le (((l2.trans l3).trans l4).trans jd.2.1) o', q'⟩
          | true =>
            simp only at q'
            refine ite_tt ⟨σ, F4, N4, B, ρ2, ⟨j4, r4, a3.2.2⟩, ?_⟩
            cases em : m ρ2 with
            | no => rw [em] at q'; exact q'.elim
            | ex k ρ' => rw [em] at q'; exact q'.elim
            | ok z ρ3 =>
              rw [em] at q'
              intro v F5 N5 T5 H5 l5 k5 j5 r5 o5
              simp only at q'
              split at q'
              · rename_i hlt
                obtain ⟨P5, Nw5, jw, rw5, _⟩ := rel_wipe (vs := vs) r5
                rw [ew] at rw5
                have ja := J.nest (xs := [F5, N5, T5]) jb1 (j5.re [3, 0, 1, 2])
                have jw1 := ja.write (o' := .lst (accv ++ [v]))
                have jc := J.nest (xs := [one Dp (.lst (accv ++ [v])), C, P, T, R, F5, T5]) jw (jw1.re [6, 0, 1, 2, 3, 4, 5, 7])
                have jd := (jc.re [7, 1, 0, 2, 3, 4, 5, 6, 8]).give
                obtain ⟨je, jf⟩ := (jd.1.re [3, 7, 0, 1, 2, 4, 5, 6]).join
                have lz := ((l2.trans l3).trans l4).trans (l5.trans jd.2.1)
                refine ⟨accv, ja.at, by rw [ownL_len o']; exact hlt, by omega, _, Nw5, _, accv ++ [v], acc ++ [z], _, l'.trans lz, jf.re [1, 2, 3, 0, 4, 5, 6], rel_le jd.2.1 rw5, ?_, q'⟩
                exact ownL_app (ownL_le lz o') ⟨v, [], T5, emp, rfl, (J.emp_iff.mpr J.self).re [1, 0], own_le jd.2.1 o5, ⟨rfl, rfl⟩⟩ je
              · exact q'.elim
    · have ei : i = ds.length := by omega
      subst ei
      rw [List.drop_length] at q'
      exact .inl ⟨f1, q' F' N' C accv H' l' j' r' o'⟩
theorem re_lc {scope : Scope} {own : List (Str × Nat)} {it : M (List D × Bk)} {g : D → M Unit} {t : M Bool} {m : M D} {c1 c2 : Bool} (κ : Kx X E k) (hi : RI X cl Φ E tg iter it) (ok : BlkOk X.N X.env.scope scope own)
    (hg : ∀ (s : Shared) (H : Hp) (C : Addr) (cs : List (Str × Addr)) (fp : List Addr) (σ0 : St), Kx (bX X scope s H C cs fp) E00 k → RG (bX X scope s H C cs fp) cl (Wp (own.map (·.2)) σ0) tg g)
    (ht : ∀ (s : Shared) (H : Hp) (C : Addr) (cs : List (Str × Addr)) (fp : List Addr) (σ0 : St), Kx (bX X scope s H C cs fp) E00 k → RT (bX X scope s H C cs fp) cl (Wp (own.map (·.2)) σ0) E00 c1 ifs t)
    (he : ∀ (s : Shared) (H : Hp) (C : Addr) (cs : List (Str × Addr)) (fp : List Addr) (σ0 : St), Kx (bX X scope s H C cs fp) E00 k → RE (bX X scope s H C cs fp) cl (Wp (own.map (·.2)) σ0) E00 c2 elt m)
    (hs : ∀ x, foldedSetIterable iter X.env x = pure x := by intro _; rfl) : RE X cl Φ E false (.ListComp elt [⟨tg, iter, ifs, 0⟩] scope pos) (mLc (own.map (·.2)) it g t m) := by
  have hg' : ∀ (s : Shared) (H : Hp) (C : Addr) (cs : List (Str × Addr)) (fp : List Addr), PG (bX X scope s H C cs fp) tg (fun v σ H Q => ∃ σ0, tG (gx X cl) (Wp (own.map (·.2)) σ0) g v σ H Q) := fun s H C cs fp =>
    ⟨fun pins s' σ H' v u Q I r ⟨σ0, q⟩ => (hg s H C cs fp σ0 κ.blk).pg.run pins s' σ H' v u Q I r q⟩
  have ht' : ∀ (s : Shared) (H : Hp) (C : Addr) (cs : List (Str × Addr)) (fp : List Addr), PTs (bX X scope s H C cs fp) ifs (fun σ H Q => ∃ σ0, tB (gx X cl) (Wp (own.map (·.2)) σ0) E00 c1 t σ H Q) := fun s H C cs fp =>
    ⟨fun pins s' σ H' Q I ⟨σ0, q⟩ => (ht s H C cs fp σ0 κ.blk).pts.run pins s' σ H' Q I q⟩
  have he' : ∀ (s : Shared) (H : Hp) (C : Addr) (cs : List (Str × Addr)) (fp : List Addr), PE (bX X scope s H C cs fp) elt (fun σ H Q => ∃ σ0, tE (gx X cl) (Wp (own.map (·.2)) σ0) E00 c2 m σ H Q) := fun s H C cs fp =>
    ⟨fun pins s' σ H' Q I ⟨σ0, q⟩ => (he s H C cs fp σ0 κ.blk).pe.run pins s' σ H' Q I q⟩
  exact ⟨(pe_lc κ.calm κ.nd hi.pi ok hg' ht' he' hs).weak fun σ H Q h => tE_lc h⟩
theorem tE_mono {G : Gx} {m : M D} {σ : St} {H : Hp} {Q Q' : VK} (h : tE G Φ E c m σ H Q) (w : ∀ v H', Q v H' → Q' v H') : tE G Φ E c m σ H Q' := by
  obtain ⟨F, N, R, ρ, a, p⟩ := h
  refine ⟨F, N, R, ρ, a, ?_⟩
  cases e1 : m ρ with
  | no => rw [e1] at p; exact p
  | ex k ρ' => rw [e1] at p; exact p
  | ok d ρ' => rw [e1] at p; exact fun v F' N' T H' l k' j r o => w _ _ (p v F' N' T H' l k' j r o)
theorem rs_setLc {i : Nat} {y : Str} {py spos : Pos} {scope : Scope} {own : List (Str × Nat)} {it : M (List D × Bk)} {g : D → M Unit} {t : M Bool} {m : M D} {c1 c2 : Bool} (hy : X.N[i]? = some y) (hyl : X.env.scope.names.lookup y = some .local) (hΦ : ∀ σ v, Φ σ → Φ (σ.set i (some v)))
    (hsw : swapsWith (.ListComp elt [⟨tg, iter, ifs, 0⟩] scope pos) (some (.Name y py)) spos.line X.env = pure true) (κ : Kx X E k) (hi : RI X cl Φ E tg iter it) (ok : BlkOk X.N X.env.scope scope own)
    (hg : ∀ (s : Shared) (H : Hp) (C : Addr) (cs : List (Str × Addr)) (fp : List Addr) (σ0 : St), Kx (bX X scope s H C cs fp) E00 k → RG (bX X scope s H C cs fp) cl (Wp (own.map (·.2)) σ0) tg g)
    (ht : ∀ (s : Shared) (H : Hp) (C : Addr) (cs : List (Str × Addr)) (fp : List Addr) (σ0 : St), Kx (bX X scope s H C cs fp) E00 k → RT (bX X scope s H C cs fp) cl (Wp (own.map (·.2)) σ0) E00 c1 ifs t)
    (he : ∀ (s : Shared) (H : Hp) (C : Addr) (cs : List (Str × Addr)) (fp : List Addr) (σ0 : St), Kx (bX X scope s H C cs fp) E00 k → RE (bX X scope s H C cs fp) cl (Wp (own.map (·.2)) σ0) E00 c2 elt m)
    (hs : ∀ x, foldedSetIterable iter X.env x = pure x := by intro _; rfl) : RS X cl Φ E (.Assign [.Name y py] (.ListComp elt [⟨tg, iter, ifs, 0⟩] scope pos) spos) (mAsg (dName i) (mLc (own.map (·.2)) it g t m)) := by
  have hg' : ∀ (s : Shared) (H : Hp) (C : Addr) (cs : List (Str × Addr)) (fp : List Addr), PG (bX X scope s H C cs fp) tg (fun v σ H Q => ∃ σ0, tG (gx X cl) (Wp (own.map (·.2)) σ0) g v σ H Q) := fun s H C cs fp =>
    ⟨fun pins s' σ H' v u Q I r ⟨σ0, q⟩ => (hg s H C cs fp σ0 κ.blk).pg.run pins s' σ H' v u Q I r q⟩
  have ht' : ∀ (s : Shared) (H : Hp) (C : Addr) (cs : List (Str × Addr)) (fp : List Addr), PTs (bX X scope s H C cs fp) ifs (fun σ H Q => ∃ σ0, tB (gx X cl) (Wp (own.map (·.2)) σ0) E00 c1 t σ H Q) := fun s H C cs fp =>
    ⟨fun pins s' σ H' Q I ⟨σ0, q⟩ => (ht s H C cs fp σ0 κ.blk).pts.run pins s' σ H' Q I q⟩
  have he' : ∀ (s : Shared) (H : Hp) (C : Addr) (cs : List (Str × Addr)) (fp : List Addr), PE (bX X scope s H C cs fp) elt (fun σ H Q => ∃ σ0, tE (gx X cl) (Wp (own.map (·.2)) σ0) E00 c2 m σ H Q) := fun s H C cs fp =>
    ⟨fun pins s' σ H' Q I ⟨σ0, q⟩ => (he s H C cs fp σ0 κ.blk).pe.run pins s' σ H' Q I q⟩
  exact ⟨(ps_setLc κ.calm κ.nd hy hyl hsw hi.pi ok hg' ht' he' hs).weak fun D σ H q => tE_lc (tE_mono (tS_asg (c := false) q) fun v H' z => tG_name hΦ z)⟩
end
end Z

end
section
set_option maxRecDepth 100000
/-! Z: places -/
namespace Z
open PySem PySem.Spec L2
open PyProof.Rows hiding St
inductive Stp where
  | at (i : Int) | fld (f : Str) | key (k : Key)
abbrev Pth := Nat × List Stp
def findK (k : Key) : List Key → Option Nat
  | [] => none
  | a :: r => if decide (a = k) = true then some 0 else (findK k r).map (· + 1)
def findF (f : Str) : List Str → Option Nat
  | [] => none
  | a :: r => if (f == a) = true then some 0 else (findF f r).map (· + 1)
/-- the place among the parts -/
def ixS : D → Stp → Option Nat
  | .lst _ ds, .at i => ixN ds.length i
  | .tup ds, .at i => ixN ds.length i
  | .out ds, .at i => ixN ds.length i
  | .ins _ _ fs _, .fld f => findF f fs
  | .dic _ ks _, .key k => findK k ks
  | _, _ => none
def partsD : D → List D
  | .lst _ ds => ds
  | .tup ds => ds
  | .out ds => ds
  | .ins _ _ _ ds => ds
  | .dic _ _ ds => ds
  | .dit _ _ ds => ds
  | _ => []
def withParts : D → List D → D
  | .lst o _, ds => .lst o ds
  | .tup _, ds => .tup ds
  | .out _, ds => .out ds
  | .ins o c fs _, ds => .ins o c fs ds
  | .dic o ks _, ds => .dic o ks ds
  | .dit o ks _, ds => .dit o ks ds
  | d, _ => d
def getS (d : D) (s : Stp) : Option D := (ixS d s).bind fun j => (partsD d)[j]?
def setS (d : D) (s : Stp) (x : D) : D := match ixS d s with
  | some j => withParts d ((partsD d).set j x)
  | none => d
def getP : D → List Stp → Option D
  | d, [] => some d
  | d, s :: π => (getS d s).bind fun e => getP e π
def setP : D → List Stp → D → D
  | _, [], x => x
  | d, s :: π, x => match getS d s with
    | some e => setS d s (setP e π x)
    | none => d
/-- v has w at the step -/
def AtS (K : PySem.W.Frag) (H : Hp) (v : V) : Stp → V → Prop
  | .at i, w => ∃ a vs, v = .ref a ∧ (SqL K H a vs ∨ SqT K H a vs) ∧ atI vs i = some w
  | .fld f, w => ∃ a C dx fs, v = .ref a ∧ H a = some (.ins C dx fs) ∧ fs.lookup f = some w
  | .key k, w => ∃ a kvs, v = .ref a ∧ Rd H a (.dK kvs) ∧ valV kvs k = some w
def AtP (K : PySem.W.Frag) (H : Hp) : V → List Stp → V → Prop
  | v, [], w => w = v
  | v, s :: π, w => ∃ u, AtS K H v s u ∧ AtP K H u π w
section
variable {G : Gx} {Φ : St → Prop} {E : St → XK} {c : Bool} {σ : St} {H : Hp}
theorem emp_le {H : Hp} : Le emp H := fun _ _ e => nomatch e
theorem j_emp2 {A B : Hp} (j : J [A, B] emp) : A = emp ∧ B = emp := ⟨funext fun a => J.clear j (a := a) rfl (by simp), funext fun a => J.clear j (a := a) rfl (by simp)⟩
theorem ownL_at {F : Hp} : ∀ {ds : List D} {vs : List V} {M : Hp} {j : Nat} {d : D}, OwnL G F ds vs M → ds[j]? = some d → ∃ v M1 Mr, vs[j]? = some v ∧ J [M1, Mr] M ∧ Own G F d v M1 ∧
    ∀ F' d' M1' M', Le F F' → Own G F' d' v M1' → J [M1', Mr] M' → OwnL G F' (ds.set j d') vs M'
  | [], _, _, _, _, _, e => by simp at e
  | d :: ds, vs, M, 0, d0, h, e => by
    obtain ⟨v, r, M1, M2, rfl, j, h1, h2⟩ := h
    simp at e; subst e
    exact ⟨v, M1, M2, rfl, j, h1, fun F' d' M1' M' l q j' => ⟨v, r, M1', M2, rfl, j', q, ownL_le l h2⟩⟩
  | d :: ds, vs, M, i + 1, d0, h, e => by
    obtain ⟨v, r, M1, M2, rfl, j, h1, h2⟩ := h
    obtain ⟨w, M3, Mr, e2, j2, q, k⟩ := ownL_at (j := i) h2 (by simpa using e)
    have jj : J [M3, Mr, M1] M := J.nest (xs := [M1]) j2 (j.re [1, 0])
    obtain ⟨b1, b2⟩ := (jj.re [2, 1, 0]).join
    refine ⟨w, M3, _, by simpa using e2, b2.re [1, 0], q, fun F' d' M1' M' l q' j' => ?_⟩
    have j3 : J [M1, Mr, M1'] M' := J.nest (xs := [M1']) b1 (j'.re [1, 0])
    exact ⟨v, r, M1, _, rfl, (j3.re [2, 1, 0]).join.2.re [1, 0], own_le l h1, k F' d' M1' _ l q' ((j3.re [2, 1, 0]).join.1)⟩
theorem findK_val {vs : List V} {k : Key} : ∀ {ks : List Key} {vs : List V} {j : Nat} {w : V}, findK k ks = some j → vs[j]? = some w → valV (ks.zip vs) k = some w
  | [], _, _, _, h, _ => by cases h
  | a :: r, [], _, _, _, e => by simp at e
  | a :: r, v :: vs, j, w, h, e => by
    unfold findK at h
    unfold valV
    by_cases q : decide (a = k) = true
    · rw [if_pos q] at h
      cases h
      simp at e; subst e
      simp only [List.zip_cons_cons, List.find?_cons, q]
      rfl
    · rw [if_neg q] at h
      cases hf : findK k r with
      | none => rw [hf] at h; cases h
      | some i =>
        rw [hf] at h
        cases h
        have := findK_val (vs := vs) hf (by simpa using e)
        simp only [List.zip_cons_cons, List.find?_cons]
        have q' : decide (a = k) = false := by simpa using q
        rw [q']
        exact this
theorem findF_val {f : Str} : ∀ {fs : List Str} {vs : List V} {j : Nat} {w : V}, findF f fs = some j → vs[j]? = some w → (fs.zip vs).lookup f = some w
  | [], _, _, _, h, _ => by cases h
  | a :: r, [], _, _, _, e => by simp at e
  | a :: r, v :: vs, j, w, h, e => by
    unfold findF at h
    by_cases q : (f == a) = true
    · rw [if_pos q] at h
      cases h
      simp at e; subst e
      simp only [List.zip_cons_cons, List.lookup, q]
    · rw [if_neg q] at h
      cases hf : findF f r with
      | none => rw [hf] at h; cases h
      | some i =>
        rw [hf] at h
        cases h
        have := findF_val (vs := vs) hf (by simpa using e)
        have q' : (f == a) = false := by simpa using q
        simp only [List.zip_cons_cons, List.lookup, q']
        exact this
theorem atI_of {α : Type} {xs : List α} {i : Int} {j : Nat} {w : α} (h : ixN xs.length i = some j) (e : xs[j]? = some w) : atI xs i = some w := by unfold atI; rw [h]; exact e
/-- a step into a value: what lies there, and what may be laid there -/
theorem own_at {F : Hp} {d d1 : D} {v : V} {M : Hp} {s : Stp} (o : Own G F d v M) (e : getS d s = some d1) : ∃ v1 M1 Mr, J [M1, Mr] M ∧ Own G F d1 v1 M1 ∧ (∀ H, Le F H → Le M H → AtS G.K H v s v1) ∧
    ∀ F' d1' M1' M', Le F F' → Own G F' d1' v1 M1' → J [M1', Mr] M' → (M1' = emp ∨ M1 ≠ emp) → Own G F' (setS d s d1') v M' := by
  unfold getS at e
  cases hi : ixS d s with
  | none => rw [hi] at e; cases e
  | some j =>
    rw [hi] at e
    have e : (partsD d)[j]? = some d1 := e
    unfold setS
    rw [hi]
    cases d with
    | lst b ds =>
      obtain ⟨a, vs, rfl, o⟩ := o
      cases s with
      | «at» i =>
        have hs : ∀ {ws : List V} {M}, OwnL G F ds ws M → ixN ws.length i = some j := fun w => by rw [ownL_len w]; exact hi
        rcases o with ⟨z, rfl, g, w⟩ | ⟨z, M', jm, w⟩
        · obtain ⟨v1, M1, Mr, e1, jj, o1, kk⟩ := ownL_at w e
          refine ⟨v1, M1, Mr, jj, o1, fun H l _ => ⟨a, vs, rfl, .inl (.of (l _ _ g)), atI_of (hs w) e1⟩, fun F' d1' M1' M' l q j' hc => ?_⟩
          obtain ⟨z1, z2⟩ := j_emp2 jj
          have : M1' = emp := hc.resolve_right fun n => n z1
          subst this; subst z2
          have := J.emps.uniq j'
          subst this
          exact ⟨a, vs, rfl, .inl ⟨z, rfl, l _ _ g, kk F' d1' emp emp l q J.emps⟩⟩
        · obtain ⟨v1, M1, Mr, e1, jj, o1, kk⟩ := ownL_at w e
          have j1 : J [M1, Mr, one a (.lst vs)] M := J.nest (xs := [one a (.lst vs)]) jj (jm.re [1, 0])
          obtain ⟨j2, j3⟩ := (j1.re [1, 2, 0]).join
          refine ⟨v1, M1, _, j3.re [1, 0], o1, fun H _ l => ⟨a, vs, rfl, .inl (.of (l _ _ (jm.le _ _ one_same))), atI_of (hs w) e1⟩, fun F' d1' M1' M2 l q j' _ => ?_⟩
          have j4 : J [Mr, one a (.lst vs), M1'] M2 := J.nest (xs := [M1']) j2 (j'.re [1, 0])
          obtain ⟨j5, j6⟩ := (j4.re [2, 0, 1]).join
          exact ⟨a, vs, rfl, .inr ⟨z, _, j6.re [1, 0], kk F' d1' M1' _ l q j5⟩⟩
      | _ => cases hi
    | out ds =>
      obtain ⟨a, vs, rfl, rfl, g, w⟩ := o
      cases s with
      | «at» i =>
        have hs : ixN vs.length i = some j := by rw [ownL_len w]; exact hi
        obtain ⟨v1, M1, Mr, e1, jj, o1, kk⟩ := ownL_at w e
        refine ⟨v1, M1, Mr, jj, o1, fun H l _ => ⟨a, vs, rfl, .inl (sqL_le g l), atI_of hs e1⟩, fun F' d1' M1' M' l q j' hc => ?_⟩
        obtain ⟨z1, z2⟩ := j_emp2 jj
        have : M1' = emp := hc.resolve_right fun n => n z1
        subst this; subst z2
        have := J.emps.uniq j'
        subst this
        exact ⟨a, vs, rfl, rfl, sqL_le g l, kk F' d1' emp emp l q J.emps⟩
      | _ => cases hi
    | tup ds =>
      obtain ⟨a, vs, rfl, o⟩ := o
      cases s with
      | «at» i =>
        have hs : ∀ {ws : List V} {M}, OwnL G F ds ws M → ixN ws.length i = some j := fun w => by rw [ownL_len w]; exact hi
        rcases o with ⟨rfl, g, w⟩ | ⟨M', jm, w⟩
        · obtain ⟨v1, M1, Mr, e1, jj, o1, kk⟩ := ownL_at w e
          refine ⟨v1, M1, Mr, jj, o1, fun H l _ => ⟨a, vs, rfl, .inr (.inl (.inl (l _ _ g))), atI_of (hs w) e1⟩, fun F' d1' M1' M' l q j' hc => ?_⟩
          obtain ⟨z1, z2⟩ := j_emp2 jj
          have : M1' = emp := hc.resolve_right fun n => n z1
          subst this; subst z2
          have := J.emps.uniq j'
          subst this
          exact ⟨a, vs, rfl, .inl ⟨rfl, l _ _ g, kk F' d1' emp emp l q J.emps⟩⟩
        · obtain ⟨v1, M1, Mr, e1, jj, o1, kk⟩ := ownL_at w e
          have j1 : J [M1, Mr, one a (.tup vs)] M := J.nest (xs := [one a (.tup vs)]) jj (jm.re [1, 0])
          obtain ⟨j2, j3⟩ := (j1.re [1, 2, 0]).join
          refine ⟨v1, M1, _, j3.re [1, 0], o1, fun H _ l => ⟨a, vs, rfl, .inr (.inl (.inl (l _ _ (jm.le _ _ one_same)))), atI_of (hs w) e1⟩, fun F' d1' M1' M2 l q j' _ => ?_⟩
          have j4 : J [Mr, one a (.tup vs), M1'] M2 := J.nest (xs := [M1']) j2 (j'.re [1, 0])
          obtain ⟨j5, j6⟩ := (j4.re [2, 0, 1]).join
          exact ⟨a, vs, rfl, .inr ⟨_, j6.re [1, 0], kk F' d1' M1' _ l q j5⟩⟩
      | _ => cases hi
    | ins b cn fs ds =>
      obtain ⟨a, dx, vs, rfl, hl, o⟩ := o
      cases s with
      | fld f =>
        have hi : findF f fs = some j := hi
        rcases o with ⟨z, rfl, g, w⟩ | ⟨z, M', jm, w⟩
        · obtain ⟨v1, M1, Mr, e1, jj, o1, kk⟩ := ownL_at w e
          refine ⟨v1, M1, Mr, jj, o1, fun H l _ => ⟨a, _, dx, _, rfl, l _ _ g, findF_val hi e1⟩, fun F' d1' M1' M' l q j' hc => ?_⟩
          obtain ⟨z1, z2⟩ := j_emp2 jj
          have : M1' = emp := hc.resolve_right fun n => n z1
          subst this; subst z2
          have := J.emps.uniq j'
          subst this
          exact ⟨a, dx, vs, rfl, by rw [hl]; simp [partsD], .inl ⟨z, rfl, l _ _ g, kk F' d1' emp emp l q J.emps⟩⟩
        · obtain ⟨v1, M1, Mr, e1, jj, o1, kk⟩ := ownL_at w e
          have j1 : J [M1, Mr, one a (.ins (G.cl cn) dx (fs.zip vs))] M := J.nest (xs := [_]) jj (jm.re [1, 0])
          obtain ⟨j2, j3⟩ := (j1.re [1, 2, 0]).join
          refine ⟨v1, M1, _, j3.re [1, 0], o1, fun H _ l => ⟨a, _, dx, _, rfl, l _ _ (jm.le _ _ one_same), findF_val hi e1⟩, fun F' d1' M1' M2 l q j' _ => ?_⟩
          have j4 : J [Mr, one a (.ins (G.cl cn) dx (fs.zip vs)), M1'] M2 := J.nest (xs := [M1']) j2 (j'.re [1, 0])
          obtain ⟨j5, j6⟩ := (j4.re [2, 0, 1]).join
          exact ⟨a, dx, vs, rfl, by rw [hl]; simp [partsD], .inr ⟨z, _, j6.re [1, 0], kk F' d1' M1' _ l q j5⟩⟩
      | _ => cases hi
    | dic b ks ds =>
      obtain ⟨a, vs, rfl, hl, o⟩ := o
      cases s with
      | key k =>
        have hi : findK k ks = some j := hi
        rcases o with ⟨z, rfl, g, w⟩ | ⟨z, M', jm, w⟩
        · obtain ⟨v1, M1, Mr, e1, jj, o1, kk⟩ := ownL_at w e
          refine ⟨v1, M1, Mr, jj, o1, fun H l _ => ⟨a, _, rfl, Rd.le g l, findK_val (vs := vs) hi e1⟩, fun F' d1' M1' M' l q j' hc => ?_⟩
          obtain ⟨z1, z2⟩ := j_emp2 jj
          have : M1' = emp := hc.resolve_right fun n => n z1
          subst this; subst z2
          have := J.emps.uniq j'
          subst this
          exact ⟨a, vs, rfl, by rw [hl]; simp [partsD], .inl ⟨z, rfl, Rd.le g l, kk F' d1' emp emp l q J.emps⟩⟩
        · obtain ⟨v1, M1, Mr, e1, jj, o1, kk⟩ := ownL_at w e
          have j1 : J [M1, Mr, one a (.dK (ks.zip vs))] M := J.nest (xs := [_]) jj (jm.re [1, 0])
          obtain ⟨j2, j3⟩ := (j1.re [1, 2, 0]).join
          refine ⟨v1, M1, _, j3.re [1, 0], o1, fun H _ l => ⟨a, _, rfl, .inl (l _ _ (jm.le _ _ one_same)), findK_val (vs := vs) hi e1⟩, fun F' d1' M1' M2 l q j' _ => ?_⟩
          have j4 : J [Mr, one a (.dK (ks.zip vs)), M1'] M2 := J.nest (xs := [M1']) j2 (j'.re [1, 0])
          obtain ⟨j5, j6⟩ := (j4.re [2, 0, 1]).join
          exact ⟨a, vs, rfl, by rw [hl]; simp [partsD], .inr ⟨z, _, j6.re [1, 0], kk F' d1' M1' _ l q j5⟩⟩
      | _ => cases hi
    | dit b ks ds => cases s <;> cases hi
    | dnk b ds => cases s <;> cases hi
    | hole => cases s <;> cases hi
    | non => cases s <;> cases hi
    | bl b => cases s <;> cases hi
    | int i => cases s <;> cases hi
    | str x => cases s <;> cases hi
/-- the same along a path -/
theorem own_path {F : Hp} : ∀ {π : List Stp} {d d1 : D} {v : V} {M : Hp}, Own G F d v M → getP d π = some d1 → ∃ v1 M1 Mr, J [M1, Mr] M ∧ Own G F d1 v1 M1 ∧ (∀ H, Le F H → Le M H → AtP G.K H v π v1) ∧
    ∀ F' d1' M1' M', Le F F' → Own G F' d1' v1 M1' → J [M1', Mr] M' → (M1' = emp ∨ M1 ≠ emp) → Own G F' (setP d π d1') v M'
  | [], d, d1, v, M, o, e => by
    cases e
    refine ⟨v, M, emp, (J.emp_iff.mpr J.self).re [1, 0], o, fun H _ _ => rfl, fun F' d1' M1' M' l q j _ => ?_⟩
    have := (J.emp_iff.mp (j.re [1, 0])).eq1
    subst this
    exact q
  | s :: π, d, d1, v, M, o, e => by
    rw [getP] at e
    cases hs : getS d s with
    | none => rw [hs] at e; cases e
    | some d0 =>
      rw [hs] at e
      obtain ⟨v0, M0, Mr0, j0, o0, a0, k0⟩ := own_at o hs
      obtain ⟨v1, M1, Mr, j1, o1, a1, k1⟩ := own_path (π := π) o0 e
      have j2 : J [M1, Mr, Mr0] M := J.nest (xs := [Mr0]) j1 j0
      obtain ⟨j3, j4⟩ := (j2.re [1, 2, 0]).join
      refine ⟨v1, M1, _, j4.re [1, 0], o1, fun H l m => ⟨v0, a0 H l m, a1 H l ((j_le j0).1.trans m)⟩, fun F' d1' M1' M' l q j hc => ?_⟩
      rw [setP, hs]
      have j5 : J [Mr, Mr0, M1'] M' := J.nest (xs := [M1']) j3 (j.re [1, 0])
      obtain ⟨j6, j7⟩ := (j5.re [2, 0, 1]).join
      refine k0 F' _ _ M' l (k1 F' d1' M1' _ l q j6 hc) j7 ?_
      rcases hc with hc | hc
      · by_cases hm : M0 = emp
        · left
          subst hm
          obtain ⟨z1, z2⟩ := j_emp2 j1
          subst hc; subst z2
          exact J.emps.uniq j6 |>.symm
        · exact .inr hm
      · right
        intro z
        subst z
        exact hc (j_emp2 j1).1
theorem AtS.le {K : PySem.W.Frag} {H H' : Hp} {v w : V} {s : Stp} (h : AtS K H v s w) (l : Le H H') : AtS K H' v s w := by
  cases s with
  | «at» i => obtain ⟨a, vs, e, q, r⟩ := h; exact ⟨a, vs, e, q.imp (fun z => sqL_le z l) (fun z => sqT_le z l), r⟩
  | fld f => obtain ⟨a, C, dx, fs, e, q, r⟩ := h; exact ⟨a, C, dx, fs, e, l _ _ q, r⟩
  | key k => obtain ⟨a, kvs, e, q, r⟩ := h; exact ⟨a, kvs, e, Rd.le q l, r⟩
theorem AtP.le {K : PySem.W.Frag} {H H' : Hp} (l : Le H H') : ∀ {π : List Stp} {v w : V}, AtP K H v π w → AtP K H' v π w
  | [], _, _, h => h
  | s :: π, _, _, ⟨u, a, b⟩ => ⟨u, a.le l, AtP.le l b⟩
end
end Z

end
section
set_option maxRecDepth 100000
/-! Z: places that are read, taken from, written -/
namespace Z
open PySem PySem.Spec L2
open PyProof.Rows hiding St
def getR (ρ : Env) (p : Pth) : Option D := (ρ[p.1]?).bind fun d => getP d p.2
def setR (ρ : Env) (p : Pth) (x : D) : Env := match ρ[p.1]? with
  | some d => ρ.set p.1 (setP d p.2 x)
  | none => ρ
/-- a name as a place -/
def pVar (i : Nat) : M Pth := fun ρ => match ρ[i]? with
  | some d => if isHole d = true then .no else .ok (i, []) ρ
  | none => .no
def pFld (cs : List Nat) (f : Str) (q : M Pth) : M Pth := fun ρ => (q ρ).bind fun p ρ1 => match getR ρ1 p with
  | some (.ins o c fs ds) => if cs.contains c = true then (match findF f fs with
      | some j => match ds[j]? with
        | some d => if isHole d = true then .no else .ok (p.1, p.2 ++ [.fld f]) ρ1
        | none => .no
      | none => .no) else .no
  | _ => .no
def pIx (q : M Pth) (m : M D) : M Pth := fun ρ => (q ρ).bind fun p ρ1 => (m ρ1).bind fun e ρ2 => match e with
  | .int i => (match getR ρ2 (p.1, p.2 ++ [.at i]) with
    | some d => if isHole d = true then .no else .ok (p.1, p.2 ++ [.at i]) ρ2
    | none => .no)
  | _ => .no
/-- what lies at a place is taken as a value: shared from then on -/
def mTake (q : M Pth) : M D := fun ρ => (q ρ).bind fun p ρ1 => match getR ρ1 p with
  | some d => if shr d = true then .ok d ρ1 else if isHole d = true then .no else .ok (frz d) (setR ρ1 p (frz d))
  | none => .no
/-- a look at what lies at a place -/
def mPeek (q : M Pth) (f : D → Option D) : M D := fun ρ => (q ρ).bind fun p ρ1 => match getR ρ1 p with
  | some d => ofOpt (f d) ρ1
  | none => .no
section
variable (G : Gx) (Φ : St → Prop) (E : St → XK)
def PostP (σ : St) (F R H : Hp) (Q : VK) : O Pth → Prop
  | .ok p ρ' => ∀ v0 v F' N' H', Le F F' → Le H H' → J [F', N', R] H' → Rel G F' ρ' σ N' → σ[p.1]? = some (some v0) → AtP G.K H' v0 p.2 v → Q v H'
  | .ex k ρ' => PX G E σ F R k ρ'
  | .no => False
def tP (m : M Pth) : TE := fun σ H Q => ∃ F N R ρ, Here G Φ σ F N R H ρ ∧ PostP G E σ F R H Q (m ρ)
end
structure RP (X : Cx) (cl : Nat → Addr) (Φ : St → Prop) (E : St → XK) (e : Expr) (m : M Pth) : Prop where
  pe : PE X e (tP (gx X cl) Φ E m)
  wf : ∀ ρ p ρ', m ρ = .ok p ρ' → ∃ d, getR ρ' p = some d ∧ isHole d = false
section
variable {G : Gx} {Φ : St → Prop} {E : St → XK} {c : Bool} {σ : St} {H : Hp}
theorem ownO_path {F : Hp} {d : D} {ov : Option V} {M : Hp} {π : List Stp} {d1 : D} (h : OwnO G F d ov M) (e : getP d π = some d1) (n : isHole d1 = false) : ∃ v, ov = some v ∧ Own G F d v M := by
  rcases h with ⟨rfl, _⟩ | h
  · cases π with
    | nil => cases e; cases n
    | cons s π =>
      rw [getP] at e
      have : getS .hole s = none := by cases s <;> rfl
      rw [this] at e
      cases e
  · exact h
/-- what lies at a path of the slots -/
theorem rel_path {F : Hp} {ρ : Env} {N : Hp} {p : Pth} {d : D} (r : Rel G F ρ σ N) (e : getR ρ p = some d) (n : isHole d = false) : ∃ v0 v M1 Mr, σ[p.1]? = some (some v0) ∧ J [M1, Mr] N ∧ Own G F d v M1 ∧ (∀ H, Le F H → Le N H → AtP G.K H v0 p.2 v) ∧
    ∀ F' d' M1' N', Le F F' → Own G F' d' v M1' → J [M1', Mr] N' → (M1' = emp ∨ M1 ≠ emp) → Rel G F' (setR ρ p d') σ N' := by
  unfold getR at e
  cases hi : ρ[p.1]? with
  | none => rw [hi] at e; cases e
  | some d0 =>
    rw [hi] at e
    have e : getP d0 p.2 = some d := e
    obtain ⟨ov, M0, Mr0, e1, j0, w, k0⟩ := rel_at r hi
    obtain ⟨v0, rfl, w0⟩ := ownO_path w e n
    obtain ⟨v, M1, Mr, j1, o1, a1, k1⟩ := own_path w0 e
    have j2 : J [M1, Mr, Mr0] N := J.nest (xs := [Mr0]) j1 j0
    obtain ⟨j3, j4⟩ := (j2.re [1, 2, 0]).join
    refine ⟨v0, v, M1, _, e1, j4.re [1, 0], o1, fun H l m => a1 H l ((j_le j0).1.trans m), fun F' d' M1' N' l q j hc => ?_⟩
    have j5 : J [Mr, Mr0, M1'] N' := J.nest (xs := [M1']) j3 (j.re [1, 0])
    obtain ⟨j6, j7⟩ := (j5.re [2, 0, 1]).join
    have := k0 F' (setP d0 p.2 d') (some v0) _ N' l (.inr ⟨v0, rfl, k1 F' d' M1' _ l q j6 hc⟩) j7
    rw [set_self e1] at this
    unfold setR
    rw [hi]
    exact this
theorem atP_inj {X : Cx} {pins : List (Addr × Obj)} {s : Shared} : True := trivial
end
section
variable {X : Cx} {cl : Nat → Addr} {Φ : St → Prop} {E : St → XK} {c : Bool} {k : Nat} {pos p : Pos} {e o : Expr} {es : List Expr}
theorem rp_var {i : Nat} {x : Str} (hp : PE X (.Name x pos) (tVar i)) : RP X cl Φ E (.Name x pos) (pVar i) := by
  refine ⟨hp.weak fun σ H Q ⟨F, N, R, ρ, a, q⟩ => ?_, fun ρ p ρ' h => ?_⟩
  · unfold pVar at q
    split at q
    · rename_i d e0
      split at q
      · exact q.elim
      · rename_i hn
        obtain ⟨ov, M1, Mr, e1, j, w, kk⟩ := rel_at a.2.1 e0
        obtain ⟨v, rfl, w1⟩ := ownO_of w (by rintro rfl; exact hn rfl)
        exact ⟨v, e1, q v v F N H Le.refl Le.refl a.1 a.2.1 e1 rfl⟩
    · exact q.elim
  · unfold pVar at h
    split at h
    · rename_i d e0
      split at h
      · cases h
      · cases h
        rename_i hn
        exact ⟨d, by unfold getR; rw [e0]; rfl, by simpa using hn⟩
    · cases h
theorem getP_app : ∀ {π : List Stp} {d : D} {s : Stp}, getP d (π ++ [s]) = (getP d π).bind fun e => getS e s
  | [], d, s => by
    show (getS d s).bind (fun e => getP e []) = getS d s
    cases getS d s <;> rfl
  | t :: π, d, s => by
    rw [List.cons_append, getP, getP]
    cases getS d t with
    | none => rfl
    | some e => exact getP_app
theorem atP_app {K : PySem.W.Frag} {H : Hp} : ∀ {π : List Stp} {v w u : V} {s : Stp}, AtP K H v π w → AtS K H w s u → AtP K H v (π ++ [s]) u
  | [], v, w, u, s, h, h' => by cases h; exact ⟨u, h', rfl⟩
  | t :: π, v, w, u, s, ⟨z, a, b⟩, h' => ⟨z, a, atP_app b h'⟩
end
/-! the text's own objects are apart from what is tracked -/
def KF (K : PySem.W.Frag) (H : Hp) : Prop := ∀ a o, K.lookup a = some o → H a = none
section
variable {X : Cx} {e : Expr}
theorem inv_kf {pins : List (Addr × Obj)} {σ : St} {H : Hp} {s : Shared} (I : Inv X pins σ H s) : KF X.K H := fun a o e => (I.bs a o (I.ok.mod.kin a o e)).2
theorem _root_.L2.PE.kf {t : TE} (h : PE X e t) : PE X e (fun σ H Q => t σ H fun v H' => KF X.K H' → Q v H') :=
  ⟨fun pins s σ H Q I q => thn (h.run pins s σ H _ I q) fun u s' ⟨v, H', I', r, z⟩ => ⟨v, H', I', r, z (inv_kf I')⟩⟩
theorem _root_.L2.PA.kf {es : List Expr} {t : TA} (h : PA X es t) : PA X es (fun σ H Q => t σ H fun v H' => KF X.K H' → Q v H') :=
  ⟨fun pos pins s σ H Q I q => thn (h.run pos pins s σ H _ I q) fun u s' ⟨v, H', I', r, z⟩ => ⟨v, H', I', r, z (inv_kf I')⟩⟩
theorem rd_one {H : Hp} {a : Addr} {u w : HO} (h : Rd H a u) (h' : Rd H a w) (nu : ∀ o z, u ≠ .frz o z) (nw : ∀ o z, w ≠ .frz o z) : u = w := by
  rcases h with h | ⟨o, h⟩ <;> rcases h' with h' | ⟨o', h'⟩ <;> rw [h] at h' <;> cases h'
  · rfl
  · exact absurd rfl (nu _ _)
  · exact absurd rfl (nw _ _)
  · rfl
theorem rd_some {H : Hp} {a : Addr} {u : HO} (h : Rd H a u) : H a ≠ none := by
  rcases h with h | ⟨o, h⟩ <;> rw [h] <;> simp
theorem sq_one {K : PySem.W.Frag} {H : Hp} {a : Addr} {xs ys : List V} (kf : KF K H) (h : SqL K H a xs ∨ SqT K H a xs) (h' : SqL K H a ys ∨ SqT K H a ys) : xs = ys := by
  have k1 : ∀ {xs}, (SqL K H a xs ∨ SqT K H a xs) → (Rd H a (.lst xs) ∨ Rd H a (.tup xs)) ∨ ∃ o its n, K.lookup a = some o ∧ o.data = .seq its n ∧ Vals xs its.toList := fun {xs} h => by
    rcases h with (h | ⟨o, its, n, a1, a2, a3, a4, a5, a6⟩) | (h | ⟨o, its, n, a1, a2, a3, a4, a5⟩)
    · exact .inl (.inl h)
    · exact .inr ⟨o, its, n, a1, a4, a6⟩
    · exact .inl (.inr h)
    · exact .inr ⟨o, its, n, a1, a3, a5⟩
  rcases k1 h with h | ⟨o, its, n, a1, a2, a3⟩ <;> rcases k1 h' with h' | ⟨o', its', n', b1, b2, b3⟩
  · rcases h with h | h <;> rcases h' with h' | h'
    · have := rd_one h h' (fun _ _ z => nomatch z) (fun _ _ z => nomatch z); cases this; rfl
    · have := rd_one h h' (fun _ _ z => nomatch z) (fun _ _ z => nomatch z); cases this
    · have := rd_one h h' (fun _ _ z => nomatch z) (fun _ _ z => nomatch z); cases this
    · have := rd_one h h' (fun _ _ z => nomatch z) (fun _ _ z => nomatch z); cases this; rfl
  · have n := kf a _ b1
    rcases h with h | h <;> exact absurd n (rd_some h)
  · have n := kf a _ a1
    rcases h' with h | h <;> exact absurd n (rd_some h)
  · rw [a1] at b1; cases b1
    rw [a2] at b2; cases b2
    exact a3.inj b3
theorem atS_one {K : PySem.W.Frag} {H : Hp} {v u w : V} {s : Stp} (kf : KF K H) (h : AtS K H v s u) (h' : AtS K H v s w) : u = w := by
  cases s with
  | «at» i =>
    obtain ⟨a, vs, rfl, q, r⟩ := h
    obtain ⟨a', vs', e, q', r'⟩ := h'
    cases e
    have := sq_one kf q q'
    subst this
    rw [r] at r'; cases r'; rfl
  | fld f =>
    obtain ⟨a, C, dx, fs, rfl, q, r⟩ := h
    obtain ⟨a', C', dx', fs', e, q', r'⟩ := h'
    cases e
    rw [q] at q'; cases q'
    rw [r] at r'; cases r'; rfl
  | key k =>
    obtain ⟨a, kvs, rfl, q, r⟩ := h
    obtain ⟨a', kvs', e, q', r'⟩ := h'
    cases e
    have := rd_one q q' (fun _ _ z => nomatch z) (fun _ _ z => nomatch z)
    cases this
    rw [r] at r'; cases r'; rfl
theorem atP_one {K : PySem.W.Frag} {H : Hp} (kf : KF K H) : ∀ {π : List Stp} {v u w : V}, AtP K H v π u → AtP K H v π w → u = w
  | [], _, _, _, h, h' => h.trans h'.symm
  | s :: π, _, _, _, ⟨z, a, b⟩, ⟨z', a', b'⟩ => by
    have := atS_one kf a a'
    subst this
    exact atP_one kf b b'
end
section
variable {X : Cx} {cl : Nat → Addr} {Φ : St → Prop} {E : St → XK} {c : Bool} {k : Nat} {pos p : Pos} {e o : Expr} {es : List Expr}
/-- what the value at a place is, and how it may be changed -/
theorem place {G : Gx} {F N R H : Hp} {ρ : Env} {σ : St} {p : Pth} {d : D} {v0 v : V} (j : J [F, N, R] H) (r : Rel G F ρ σ N) (g : getR ρ p = some d) (n : isHole d = false) (kf : KF G.K H) (s : σ[p.1]? = some (some v0)) (a : AtP G.K H v0 p.2 v) :
    ∃ M1 Mr, J [M1, Mr] N ∧ Own G F d v M1 ∧ ∀ F' d' M1' N', Le F F' → Own G F' d' v M1' → J [M1', Mr] N' → (M1' = emp ∨ M1 ≠ emp) → Rel G F' (setR ρ p d') σ N' := by
  obtain ⟨w0, w, M1, Mr, s2, jm, ow, at2, kk⟩ := rel_path r g n
  rw [s] at s2; cases s2
  have := atP_one kf a (at2 H j.le (j.sub (by simp)))
  subst this
  exact ⟨M1, Mr, jm, ow, kk⟩
theorem setS_get {d e : D} {s : Stp} (h : getS d s = some e) : setS d s e = d := by
  unfold getS at h
  unfold setS
  cases hi : ixS d s with
  | none => rfl
  | some j =>
    rw [hi] at h
    have h : (partsD d)[j]? = some e := h
    show withParts d ((partsD d).set j e) = d
    rw [set_self h]
    cases d <;> rfl
theorem setP_get : ∀ {π : List Stp} {d e : D}, getP d π = some e → setP d π e = d
  | [], _, _, h => by cases h; rfl
  | s :: π, d, e, h => by
    rw [getP] at h
    cases hs : getS d s with
    | none => rw [hs] at h; cases h
    | some d0 =>
      rw [hs] at h
      rw [setP, hs]
      show setS d s (setP d0 π e) = d
      rw [setP_get h]
      exact setS_get hs
theorem setR_get {ρ : Env} {p : Pth} {d : D} (h : getR ρ p = some d) : setR ρ p d = ρ := by
  unfold getR at h
  unfold setR
  cases hi : ρ[p.1]? with
  | none => rfl
  | some d0 =>
    rw [hi] at h
    show ρ.set p.1 (setP d0 p.2 d) = ρ
    rw [setP_get h]
    exact set_self hi
theorem re_take {m : M Pth} (h : RP X cl Φ E e m) : RE X cl Φ E true e (mTake m) := by
  refine ⟨h.pe.kf.weak fun σ H Q ⟨F, N, R, ρ, a, q⟩ => ⟨F, N, R, ρ, a, ?_⟩⟩
  unfold mTake at q
  cases e1 : m ρ with
  | no => rw [e1] at q; exact q
  | ex k ρ' => rw [e1] at q; exact q
  | ok p ρ1 =>
    rw [e1] at q
    simp only [O.bind] at q
    intro v0 v F1 N1 H1 l1 k1 j1 r1 s1 at1 kf
    obtain ⟨d, g, n⟩ := h.wf _ _ _ e1
    rw [g] at q
    simp only at q
    obtain ⟨M1, Mr, jm, ow, kk⟩ := place (G := gx X cl) j1 r1 g n kf s1 at1
    have j2 : J [M1, Mr, F1, R] H1 := J.nest (xs := [F1, R]) jm (j1.re [1, 0, 2])
    have j3 := (j2.re [2, 1, 0, 3]).give
    have o3 := own_frz ow j3.2.1 j3.2.2
    have r3 := kk _ (frz d) emp Mr j3.2.1 o3 (J.emp_iff.mpr J.self) (.inl rfl)
    split at q
    · rename_i hs
      rw [frz_shr hs] at o3 r3
      rw [setR_get g] at r3
      exact q v _ Mr emp H1 (l1.trans j3.2.1) (fun _ => k1) (emp_in j3.1) r3 o3
    · rw [n] at q
      exact q v _ Mr emp H1 (l1.trans j3.2.1) (fun _ => k1) (emp_in j3.1) r3 o3
/-- looks: what is seen of a value that stays where it is -/
def FO (G : Gx) (r : V → Hp → VK → Prop) (f : D → Option D) : Prop := ∀ {F T H : Hp} {x : V} {d z : D} {Q : VK}, Le F H → Le T H → Own G F d x T → f d = some z → (∀ w, (∀ F', Own G F' z w emp) → Q w H) → r x H Q
theorem re_peek {e' : Expr} {r : V → Hp → VK → Prop} {f : D → Option D} {m : M Pth} (h : RP X cl Φ E e m) (hF : FO (gx X cl) r f) (hp : ∀ {t : TE}, PE X e t → PE X e' (fun σ H Q => t σ H fun x H1 => r x H1 Q)) : RE X cl Φ E true e' (mPeek m f) := by
  refine ⟨(hp h.pe.kf).weak fun σ H Q ⟨F, N, R, ρ, a, q⟩ => ⟨F, N, R, ρ, a, ?_⟩⟩
  unfold mPeek at q
  cases e1 : m ρ with
  | no => rw [e1] at q; exact q
  | ex k ρ' => rw [e1] at q; exact q
  | ok p ρ1 =>
    rw [e1] at q
    simp only [O.bind] at q
    intro v0 v F1 N1 H1 l1 k1 j1 r1 s1 at1 kf
    obtain ⟨d, g, n⟩ := h.wf _ _ _ e1
    rw [g] at q
    simp only at q
    obtain ⟨M1, Mr, jm, ow, kk⟩ := place (G := gx X cl) j1 r1 g n kf s1 at1
    cases e2 : f d with
    | none => rw [e2] at q; exact q.elim
    | some z =>
      rw [e2] at q
      exact hF j1.le ((j_le jm).1.trans (j1.sub (by simp))) ow e2 fun w ow2 => q w F1 N1 emp H1 l1 (fun _ => k1) (emp_in j1) r1 (ow2 F1)
/-- place[i] -/
theorem rp_ix {m : M Pth} {mi : M D} (h : RP X cl Φ E o m) (hi : RE X cl Φ E true e mi) (hs : PlainIx e := by first | exact fun _ _ => rfl) : RP X cl Φ E (.Subscript o e pos) (pIx m mi) := by
  refine ⟨(pe_ix (ix_list.or ix_tup) h.pe hi.pe.kf hs).weak fun σ H Q ⟨F, N, R, ρ, a, q⟩ => ⟨F, N, R, ρ, a, ?_⟩, fun ρ p ρ' hh => ?_⟩
  · unfold pIx at q
    cases e1 : m ρ with
    | no => rw [e1] at q; exact q
    | ex k ρ' => rw [e1] at q; exact q
    | ok p ρ1 =>
      rw [e1] at q
      simp only [O.bind] at q
      intro v0 v F1 N1 H1 l1 k1 j1 r1 s1 at1
      refine ⟨F1, N1, R, ρ1, ⟨j1, r1, a.2.2⟩, ?_⟩
      cases e2 : mi ρ1 with
      | no => rw [e2] at q; exact q
      | ex k ρ' => rw [e2] at q; exact PX.le q l1
      | ok d ρ2 =>
        rw [e2] at q
        intro w F2 N2 T2 H2 l2 k2 j2 r2 o2 kf
        simp only at q
        split at q
        · rename_i i
          split at q
          · rename_i d2 g2
            split at q
            · exact q.elim
            · rename_i hn
              have hn : isHole d2 = false := by simpa using hn
              obtain ⟨rfl, rfl⟩ := o2
              have j3 := emp_out j2
              obtain ⟨w0, w1, M1, Mr, s2, jm, ow, at2, kk⟩ := rel_path (G := gx X cl) r2 g2 hn
              have s2 : σ[p.1]? = some (some w0) := s2
              rw [s1] at s2; cases s2
              have a3 := at2 H2 j3.le (j3.sub (by simp))
              have at1' := AtP.le (k2 rfl) at1
              have fin : ∀ u, AtS X.K H2 v (.at i) u → Q u H2 := fun u hu => q v0 u F2 N2 H2 (l1.trans l2) (k1.trans (k2 rfl)) j3 r2 s1 (atP_app at1' hu)
              have : ∃ u, AtS X.K H2 v (.at i) u := by
                have key : ∀ {π : List Stp} {x y z : V}, AtP X.K H2 x π y → AtP X.K H2 x (π ++ [.at i]) z → ∃ u, AtS X.K H2 y (.at i) u := by
                  intro π
                  induction π with
                  | nil => intro x y z h1 h2; cases h1; obtain ⟨u, h3, _⟩ := h2; exact ⟨u, h3⟩
                  | cons s π ih =>
                    intro x y z h1 h2
                    obtain ⟨u, b1, b2⟩ := h1
                    obtain ⟨u', c1, c2⟩ := h2
                    have := atS_one kf b1 c1
                    subst this
                    exact ih b2 c2
                exact key at1' a3
              obtain ⟨u, hu⟩ := this
              obtain ⟨b, vs, rfl, hq, hv⟩ := hu
              rcases hq with hq | hq
              · exact .inl ⟨b, vs, i, u, rfl, rfl, hq, hv, fin u ⟨b, vs, rfl, .inl hq, hv⟩⟩
              · exact .inr ⟨b, vs, i, u, rfl, rfl, hq, hv, fin u ⟨b, vs, rfl, .inr hq, hv⟩⟩
          · exact q.elim
        · exact q.elim
  · unfold pIx at hh
    cases e1 : m ρ with
    | no => rw [e1] at hh; cases hh
    | ex k ρ' => rw [e1] at hh; cases hh
    | ok p0 ρ1 =>
      rw [e1] at hh
      simp only [O.bind] at hh
      cases e2 : mi ρ1 with
      | no => rw [e2] at hh; cases hh
      | ex k ρ' => rw [e2] at hh; cases hh
      | ok d ρ2 =>
        rw [e2] at hh
        simp only at hh
        split at hh
        · split at hh
          · split at hh
            · cases hh
            · rename_i hn
              cases hh
              exact ⟨_, by assumption, by simpa using hn⟩
          · cases hh
        · cases hh
end
end Z

end
section
set_option maxRecDepth 100000
/-! Z: lists that are changed in place; looks -/
namespace Z
open PySem PySem.Spec L2
open PyProof.Rows hiding St
/-- what a method does to a list: the items behind it, the answer -/
def ML (G : Gx) (r : V → List V → Hp → VK → Prop) (f : List D → List D → Option (List D × D)) : Prop := ∀ {F H U C T : Hp} {a : Addr} {vs ws : List V} {ds as ds' : List D} {d : D} {Q : VK}, Le F H → Le U H → H a = some (.lst vs) → J [C, T] U → OwnL G F ds vs C → OwnL G F as ws T → f ds as = some (ds', d) →
  ∃ vs' w C' T' Z, J [C', T', Z] U ∧ OwnL G F ds' vs' C' ∧ Own G F d w T' ∧ (Q w (upd H a (.lst vs')) → r (.ref a) ws H Q)
/-- c: the arguments only lay new objects -/
def mMethL (c : Bool) (f : List D → List D → Option (List D × D)) (q : M Pth) (ma : M (List D)) : M D := fun ρ => (q ρ).bind fun p ρ1 => match getR ρ1 p with
  | some (.lst _ _) => if (p.2.isEmpty || c) = true then (ma ρ1).bind fun as ρ2 => (match getR ρ2 p with
    | some (.lst true ds) => (match f ds as with
      | some (ds', d) => .ok d (setR ρ2 p (.lst true ds'))
      | none => .no)
    | _ => .no) else .no
  | _ => .no
def dSetI (q : M Pth) (mi : M D) : D → M Unit := fun d ρ => match q ρ with
  | .ok p ρ1 => (match mi ρ1 with
    | .ok (.int i) ρ2 => (match getR ρ2 p with
      | some (.lst true ds) => (match ixN ds.length i with
        | some j => .ok () (setR ρ2 p (.lst true (ds.set j d)))
        | none => .no)
      | _ => .no)
    | _ => .no)
  | _ => .no
section
variable {G : Gx} {Φ : St → Prop} {E : St → XK} {c : Bool} {σ : St} {H : Hp}
theorem ownL_put {F : Hp} : ∀ {ds : List D} {vs : List V} {M : Hp} {j : Nat} {d : D}, OwnL G F ds vs M → ds[j]? = some d → ∃ v Mj Mr, vs[j]? = some v ∧ J [Mj, Mr] M ∧ Own G F d v Mj ∧
    ∀ F' d' v' M1' M', Le F F' → Own G F' d' v' M1' → J [M1', Mr] M' → OwnL G F' (ds.set j d') (vs.set j v') M'
  | [], _, _, _, _, _, e => by simp at e
  | d :: ds, vs, M, 0, d0, h, e => by
    obtain ⟨v, r, M1, M2, rfl, j, h1, h2⟩ := h
    simp at e; subst e
    exact ⟨v, M1, M2, rfl, j, h1, fun F' d' v' M1' M' l q j' => ⟨v', r, M1', M2, rfl, j', q, ownL_le l h2⟩⟩
  | d :: ds, vs, M, i + 1, d0, h, e => by
    obtain ⟨v, r, M1, M2, rfl, j, h1, h2⟩ := h
    obtain ⟨w, M3, Mr, e2, j2, q, k⟩ := ownL_put (j := i) h2 (by simpa using e)
    have jj : J [M3, Mr, M1] M := J.nest (xs := [M1]) j2 (j.re [1, 0])
    obtain ⟨b1, b2⟩ := (jj.re [2, 1, 0]).join
    refine ⟨w, M3, _, by simpa using e2, b2.re [1, 0], q, fun F' d' v' M1' M' l q' j' => ?_⟩
    have j3 : J [M1, Mr, M1'] M' := J.nest (xs := [M1']) b1 (j'.re [1, 0])
    exact ⟨v, r.set i v', M1, _, rfl, (j3.re [2, 1, 0]).join.2.re [1, 0], own_le l h1, k F' d' v' M1' _ l q' ((j3.re [2, 1, 0]).join.1)⟩
theorem own_true {F : Hp} {ds : List D} {v : V} {M : Hp} (o : Own G F (.lst true ds) v M) : ∃ a vs C, v = .ref a ∧ J [one a (.lst vs), C] M ∧ OwnL G F ds vs C ∧ M ≠ emp := by
  obtain ⟨a, vs, rfl, o⟩ := o
  rcases o with ⟨z, _⟩ | ⟨_, C, j, w⟩
  · cases z
  · refine ⟨a, vs, C, rfl, j, w, fun z => ?_⟩
    have := j.at
    rw [z] at this
    cases this
end
section
variable {X : Cx} {cl : Nat → Addr} {Φ : St → Prop} {E : St → XK} {c : Bool} {k : Nat} {pos p apos : Pos} {e o i : Expr} {es : List Expr}
theorem rg_sub {m : M Pth} {mi : M D} (κ : Kx X E k) (h : RP X cl Φ E o m) (hi : RE X cl Φ E true i mi)
    (ha : ∀ v, assign (.Subscript o i pos) X.env v = (do
      let ov ← holding [v] (eval o X.env)
      let iv ← holding [v, ov] (eval i X.env)
      standAt pos
      holding [v, ov, iv] (setItem ov iv v)
      release [v, ov, iv] []) := by intro _; rfl) : RG X cl Φ (.Subscript o i pos) (dSetI m mi) := by
  refine ⟨(pg_sub h.pe hi.pe.kf set_list ha).weak fun v σ H Q ⟨F, N, T, R, ρ, d, j, r, f, ow, q⟩ => ?_⟩
  have jt : J [T, R] (un T R) := (j.re [2, 3, 0, 1]).join.1
  unfold dSetI at q
  refine ⟨F, N, un T R, ρ, ⟨j.hide, r, f⟩, ?_⟩
  cases e1 : m ρ with
  | no => rw [e1] at q; exact q
  | ex k ρ' => rw [e1] at q; exact q.elim
  | ok p ρ1 =>
    rw [e1] at q
    simp only at q
    intro v0 w F1 N1 H1 l1 k1 j1 r1 s1 at1
    refine ⟨F1, N1, un T R, ρ1, ⟨j1, r1, f⟩, ?_⟩
    cases e2 : mi ρ1 with
    | no => rw [e2] at q; exact q
    | ex k ρ' => rw [e2] at q; exact q.elim
    | ok di ρ2 =>
      rw [e2] at q
      intro u F2 N2 T2 H2 l2 k2 j2 r2 o2 kf
      cases di with
      | int ii =>
        simp only at q
        split at q
        · rename_i ds g
          split at q
          · rename_i jx hx
            obtain ⟨rfl, rfl⟩ := o2
            have j3 : J [F2, N2, T, R] H2 := J.unhide (ys := []) jt (emp_out j2)
            obtain ⟨M1, Mr, jm, om, kk⟩ := place (G := gx X cl) (emp_out j2) r2 g rfl kf s1 (AtP.le (k2 rfl) at1)
            obtain ⟨a, vs, C, rfl, jc, wc, ne⟩ := own_true om
            have hj : ∃ d0, ds[jx]? = some d0 := by
              have := (ixN_seq hx).2.1
              exact ⟨ds[jx], List.getElem?_eq_getElem this⟩
            obtain ⟨d0, hd⟩ := hj
            obtain ⟨v1, Mj, Mr1, ev, jj, oj, kp⟩ := ownL_put wc hd
            -- parts: one a, Mj, Mr1, Mr, F2, T, R
            have j4 : J [M1, Mr, F2, T, R] H2 := J.nest (xs := [F2, T, R]) jm (j3.re [1, 0, 2, 3])
            have j5 : J [one a (.lst vs), C, Mr, F2, T, R] H2 := J.nest (xs := [Mr, F2, T, R]) jc j4
            have j6 : J [Mj, Mr1, one a (.lst vs), Mr, F2, T, R] H2 := J.nest (xs := [one a (.lst vs), Mr, F2, T, R]) jj (j5.re [1, 0, 2, 3, 4, 5])
            refine ⟨a, vs, ii, jx, rfl, rfl, j5.at, by rw [ownL_len wc]; exact hx, ?_⟩
            have j7 := (j6.re [2, 0, 1, 3, 4, 5, 6]).write (o' := .lst (vs.set jx v))
            have j9 := (j7.re [4, 0, 1, 2, 3, 5, 6]).give
            obtain ⟨ja, jb⟩ := (j9.1.re [4, 2, 0, 1, 3, 5]).join
            obtain ⟨jc2, jd⟩ := (jb.re [2, 0, 1, 3, 4]).join
            obtain ⟨je, jf⟩ := (jd.re [0, 2, 1, 3]).join
            have ow2 := kp _ d v T _ j9.2.1 (own_le (l1.trans (l2.trans j9.2.1)) ow) ja
            have r3 := kk _ (.lst true (ds.set jx d)) _ _ j9.2.1 ⟨a, _, rfl, .inr ⟨rfl, _, jc2, ow2⟩⟩ je (.inr ne)
            exact q _ _ _ σ (l1.trans (l2.trans j9.2.1)) ⟨jf.re [1, 0, 2], r3, f⟩
          · exact q.elim
        · exact q.elim
      | _ => exact q.elim
/-- place.method(args) of a list -/
theorem re_methL {name : Str} {id : String} {r : V → List V → Hp → VK → Prop} {f : List D → List D → Option (List D × D)} {m : M Pth} {ma : M (List D)} (hF : ML (gx X cl) r f) (h : RP X cl Φ E o m) (ha : RA X cl Φ E c es ma)
    (hp : ∀ {to : TE} {t : TA}, PE X o to → PA X es t → PE X e (tBM X.K "list" r to t)) : RE X cl Φ E false e (mMethL c f m ma) := by
  refine ⟨(hp h.pe.kf ha.pa.kf).weak fun σ H Q ⟨F, N, R, ρ, a, q⟩ => ⟨F, N, R, ρ, a, ?_⟩⟩
  unfold mMethL at q
  cases e1 : m ρ with
  | no => rw [e1] at q; exact q
  | ex k ρ' => rw [e1] at q; exact q
  | ok p ρ1 =>
    rw [e1] at q
    simp only [O.bind] at q
    intro v0 v F1 N1 H1 l1 k1 j1 r1 s1 at1 kf1
    split at q
    · rename_i b0 ds0 g1
      split at q
      · rename_i hc
        obtain ⟨M1, Mr, jm, om, kk⟩ := place (G := gx X cl) j1 r1 g1 rfl kf1 s1 at1
        obtain ⟨a0, vs0, S0, C0, rfl, _, _, g0⟩ := own_lst om
        refine ⟨.inl ⟨rfl, vs0, .of (g0 H1 j1.le ((j_le jm).1.trans (j1.sub (by simp))))⟩, F1, N1, R, ρ1, ⟨j1, r1, a.2.2⟩, ?_⟩
        cases e2 : ma ρ1 with
        | no => rw [e2] at q; exact q
        | ex k ρ' => rw [e2] at q; exact PX.le q l1
        | ok as ρ2 =>
          rw [e2] at q
          intro ws F2 N2 T2 H2 l2 k2 j2 r2 o2 kf2
          simp only at q
          have at2 : AtP X.K H2 v0 p.2 (.ref a0) := by
            cases hp2 : p.2 with
            | nil => rw [hp2] at at1; exact at1
            | cons s π =>
              have : c = true := by
                rw [hp2] at hc
                simpa using hc
              rw [← hp2]
              exact AtP.le (k2 this) at1
          split at q
          · rename_i ds g2
            split at q
            · rename_i ds' d hf
              -- the place's own part, the arguments' part
              have j3 : J [T2, R] (un T2 R) := (j2.re [2, 3, 0, 1]).join.1
              obtain ⟨M2, Mr2, jm2, om2, kk2⟩ := place (G := gx X cl) j2.hide r2 g2 rfl kf2 s1 at2
              obtain ⟨a2, vs, C, e3, jc, wc, ne⟩ := own_true om2
              cases e3
              have j4 : J [M2, Mr2, F2, T2, R] H2 := J.nest (xs := [F2, T2, R]) jm2 (j2.re [1, 0, 2, 3])
              have j5 : J [one a0 (.lst vs), C, Mr2, F2, T2, R] H2 := J.nest (xs := [Mr2, F2, T2, R]) jc j4
              obtain ⟨ju, jv⟩ := (j5.re [1, 4, 0, 2, 3, 5]).join
              obtain ⟨vs', w, C', T', Z, jz, oC, oT, fin⟩ := hF (Q := Q) (j5.sub (by simp)) jv.le j5.at ju wc o2 hf
              refine fin ?_
              have j6 := (jv.re [1, 0, 2, 3, 4]).write (o' := .lst vs')
              have j7 : J [C', T', Z, one a0 (.lst vs'), Mr2, F2, R] _ := J.nest (xs := [one a0 (.lst vs'), Mr2, F2, R]) jz (j6.re [1, 0, 2, 3, 4])
              have j8 := (j7.re [5, 0, 2, 1, 3, 4, 6]).give
              obtain ⟨ja, jb⟩ := (j8.1.re [3, 1, 0, 2, 4, 5]).join
              obtain ⟨jc2, jd⟩ := (jb.re [0, 3, 1, 2, 4]).join
              have r3 := kk2 _ (.lst true ds') _ _ j8.2.1 ⟨a0, vs', rfl, .inr ⟨rfl, C', ja, ownL_le j8.2.1 oC⟩⟩ jc2 (.inr ne)
              exact q w _ _ T' _ ((l1.trans l2).trans j8.2.1) (fun z => nomatch z) (jd.re [1, 0, 2, 3]) r3 (own_le j8.2.1 oT)
            · exact q.elim
          · exact q.elim
      · exact q.elim
    · exact q.elim
end
/-! the methods -/
section
variable {G : Gx}
def lAppend : List D → List D → Option (List D × D) := fun ds as => match as with
  | [d] => if ds.length < sizeLine then some (ds ++ [d], .non) else none
  | _ => none
theorem ml_append : ML G rAppend lAppend := by
  intro F H U C T a vs ws ds as ds' d Q lF lU h j oC oT hf
  unfold lAppend at hf
  split at hf
  · split at hf
    · cases hf
      obtain ⟨y, r, M1, M2, rfl, jt, o1, o2⟩ := oT
      obtain ⟨rfl, rfl⟩ := o2
      have e := (J.emp_iff.mp (jt.re [1, 0])).eq1
      subst e
      refine ⟨vs ++ [y], .non, U, emp, emp, J.re (J.emp_iff.mpr (J.emp_iff.mpr J.self)) [2, 0, 1], ownL_app oC ⟨y, [], T, emp, rfl, jt, o1, ⟨rfl, rfl⟩⟩ j, ⟨rfl, rfl⟩, fun q => ⟨a, vs, y, rfl, rfl, h, by rw [ownL_len oC]; assumption, q⟩⟩
    · cases hf
  · cases hf
def lExtend : List D → List D → Option (List D × D) := fun ds as => match as with
  | [.lst _ es] => if ds.length + es.length ≤ sizeLine then some (ds ++ es, .non) else none
  | _ => none
theorem ml_extend : ML G rExtend lExtend := by
  intro F H U C T a vs ws ds as ds' d Q lF lU h j oC oT hf
  unfold lExtend at hf
  split at hf
  · split at hf
    · cases hf
      obtain ⟨y, r, M1, M2, rfl, jt, o1, o2⟩ := oT
      obtain ⟨rfl, rfl⟩ := o2
      have e := (J.emp_iff.mp (jt.re [1, 0])).eq1
      subst e
      obtain ⟨b, zs, S, C2, rfl, js, w, g⟩ := own_lst o1
      have j1 : J [S, C2, C] U := J.nest (xs := [C]) js (j.re [1, 0])
      obtain ⟨j2, j3⟩ := (j1.re [2, 1, 0]).join
      refine ⟨vs ++ zs, .non, _, emp, S, (J.emp_iff.mpr j3).re [1, 0, 2], ownL_app oC w j2, ⟨rfl, rfl⟩, fun q => ⟨a, b, vs, zs, rfl, rfl, h, g H lF ((j_le j).2.trans lU), by rw [ownL_len oC, ownL_len w]; assumption, q⟩⟩
    · cases hf
  · cases hf
def lPop : List D → List D → Option (List D × D) := fun ds as => match as with
  | [] => (ds.getLast?).map fun d => (ds.dropLast, d)
  | _ => none
theorem ownL_split {F : Hp} : ∀ {ds es : List D} {vs : List V} {M : Hp}, OwnL G F (ds ++ es) vs M → ∃ ws us A B, vs = ws ++ us ∧ J [A, B] M ∧ OwnL G F ds ws A ∧ OwnL G F es us B
  | [], es, vs, M, h => ⟨[], vs, emp, M, rfl, J.emp_iff.mpr J.self, ⟨rfl, rfl⟩, h⟩
  | d :: ds, es, vs, M, h => by
    obtain ⟨v, r, M1, M2, rfl, j, h1, h2⟩ := h
    obtain ⟨ws, us, A, B, rfl, j2, o1, o2⟩ := ownL_split (ds := ds) h2
    have j3 : J [A, B, M1] M := J.nest (xs := [M1]) j2 (j.re [1, 0])
    obtain ⟨j4, j5⟩ := (j3.re [2, 0, 1]).join
    exact ⟨v :: ws, us, _, B, rfl, j5, ⟨v, ws, M1, A, rfl, j4, h1, o1⟩, o2⟩
theorem ml_pop : ML G rPop lPop := by
  intro F H U C T a vs ws ds as ds' d Q lF lU h j oC oT hf
  unfold lPop at hf
  split at hf
  · obtain ⟨rfl, rfl⟩ := oT
    cases hl : ds.getLast? with
    | none => rw [hl] at hf; cases hf
    | some x =>
      rw [hl] at hf
      cases hf
      have hd : ds = ds.dropLast ++ [d] := by
        have hn : ds ≠ [] := by intro z; subst z; cases hl
        have := List.dropLast_concat_getLast hn
        rw [List.getLast?_eq_getLast hn] at hl
        cases hl
        exact this.symm
      have oC' := oC
      rw [hd] at oC'
      obtain ⟨ws, us, A, B, rfl, jj, o1, y, r, M1, M2, rfl, jt, o2, o3⟩ := ownL_split oC'
      obtain ⟨rfl, rfl⟩ := o3
      have e := (J.emp_iff.mp (jt.re [1, 0])).eq1
      subst e
      have eC := (J.emp_iff.mp (j.re [1, 0])).eq1
      subst eC
      refine ⟨ws, y, A, B, emp, (J.emp_iff.mpr jj).re [1, 2, 0], o1, o2, fun q => ⟨a, ws ++ [y], y, rfl, rfl, h, by simp, by simpa using q⟩⟩
  · cases hf
end
section
variable {X : Cx} {cl : Nat → Addr} {Φ : St → Prop} {E : St → XK} {c : Bool} {k : Nat} {pos p apos : Pos} {e o : Expr} {es : List Expr}
theorem re_append {m : M Pth} {ma : M (List D)} (h : RP X cl Φ E o m) (ha : RA X cl Φ E c [e] ma) (hbase : attributeBase o "append" X.env (eval o X.env) = eval o X.env := by rfl)
    (hfew : ((backTo pos (starEach [e] X.env)).all (fun x => !x.1) && (backToKw pos (keywordEach [] X.env)).all (fun x => x.1.isSome) && decide ([e].length + ([] : List Keyword).length + (if ([] : List Keyword).isEmpty then 0 else 1) < 30)) = true := by rfl)
    (hline : (apos.endLine == pos.line) = true := by rfl) (hs : starEach [e] X.env = (false, eval e X.env) :: starEach [] X.env := by rfl) (hplain : (backTo pos (starEach [] X.env)).any (·.1) = false := by rfl) :
    RE X cl Φ E false (.Call (.Attribute o "append" apos) [e] [] pos) (mMethL c lAppend m ma) :=
  re_methL (name := "append") (id := "list.append") ml_append h ha fun h1 h2 => pe_bm PySem.F.plainAttrs_list PySem.F.slot_list_append PySem.F.type_list_append mt_append h1 h2 hbase hfew hline hs hplain
theorem re_extend {m : M Pth} {ma : M (List D)} (h : RP X cl Φ E o m) (ha : RA X cl Φ E c [e] ma) (hbase : attributeBase o "extend" X.env (eval o X.env) = eval o X.env := by rfl)
    (hfew : ((backTo pos (starEach [e] X.env)).all (fun x => !x.1) && (backToKw pos (keywordEach [] X.env)).all (fun x => x.1.isSome) && decide ([e].length + ([] : List Keyword).length + (if ([] : List Keyword).isEmpty then 0 else 1) < 30)) = true := by rfl)
    (hline : (apos.endLine == pos.line) = true := by rfl) (hs : starEach [e] X.env = (false, eval e X.env) :: starEach [] X.env := by rfl) (hplain : (backTo pos (starEach [] X.env)).any (·.1) = false := by rfl) :
    RE X cl Φ E false (.Call (.Attribute o "extend" apos) [e] [] pos) (mMethL c lExtend m ma) :=
  re_methL (name := "extend") (id := "list.extend") ml_extend h ha fun h1 h2 => pe_bm PySem.F.plainAttrs_list PySem.F.slot_list_extend PySem.F.type_list_extend mt_extend h1 h2 hbase hfew hline hs hplain
end
end Z

end
section
set_option maxRecDepth 100000
/-! Z: built-ins -/
namespace Z
open PySem PySem.Spec L2
open PyProof.Rows hiding St
def dLen : D → Option D
  | .lst _ ds => some (.int ds.length)
  | .tup ds => some (.int ds.length)
  | .out ds => some (.int ds.length)
  | .str x => if x.length ≤ sizeLine then some (.int x.length) else none
  | _ => none
def tyName : D → Option String
  | .non => some "NoneType"
  | .bl _ => some "bool"
  | .int _ => some "int"
  | .str _ => some "str"
  | .tup _ => some "tuple"
  | .lst _ _ => some "list"
  | .out _ => some "list"
  | _ => none
def dIsi (T : String) (d : D) : Option D := (tyName d).bind fun n => (kitB n T).map .bl
section
variable {G : Gx}
theorem fo_len : FO G (fun x H Q => ∃ y n, [x] = [y] ∧ LenV G.K y H n ∧ Q (.int n) H) dLen := by
  intro F T H x d z Q lF lT o hz k
  unfold dLen at hz
  split at hz
  · cases hz
    obtain ⟨a, vs, S, C, rfl, j, w, g⟩ := own_lst o
    exact ⟨_, vs.length, rfl, .inl ⟨vs, .of (g H lF lT), rfl⟩, by rw [ownL_len w]; exact k _ fun _ => ⟨rfl, rfl⟩⟩
  · cases hz
    obtain ⟨a, vs, S, C, rfl, j, w, g⟩ := own_tup o
    exact ⟨_, vs.length, rfl, .inr ⟨vs, g H lF lT, rfl⟩, by rw [ownL_len w]; exact k _ fun _ => ⟨rfl, rfl⟩⟩
  · cases hz
    obtain ⟨a, vs, rfl, rfl, g, w⟩ := o
    exact ⟨_, vs.length, rfl, .inl ⟨vs, sqL_le g lF, rfl⟩, by rw [ownL_len w]; exact k _ fun _ => ⟨rfl, rfl⟩⟩
  · split at hz
    · cases hz
      obtain ⟨rfl, rfl⟩ := o
      exact ⟨_, _, rfl, ⟨by assumption, rfl⟩, k _ fun _ => ⟨rfl, rfl⟩⟩
    · cases hz
  · cases hz
theorem own_ty {F T H : Hp} {d : D} {x : V} {n : String} (lF : Le F H) (lT : Le T H) (o : Own G F d x T) (h : tyName d = some n) : TyX G.K H x (.type n) := by
  cases d with
  | non => cases h; cases o.1; exact .base .non
  | bl b => cases h; cases o.1; exact .base (.bl b)
  | int b => cases h; cases o.1; exact .base (.int b)
  | str b => cases h; cases o.1; exact .base (.str b)
  | tup ds =>
    cases h
    obtain ⟨a, vs, S, C, rfl, j, w, g⟩ := own_tup o
    rcases g H lF lT with (g | ⟨o, g⟩) | ⟨o, its, n, g, c, _⟩
    · exact .base (.tup g)
    · exact .fTuple g
    · exact .kTuple g c
  | lst b ds =>
    cases h
    obtain ⟨a, vs, S, C, rfl, j, w, g⟩ := own_lst o
    exact .base (.lst (g H lF lT))
  | out ds =>
    cases h
    obtain ⟨a, vs, rfl, rfl, g, w⟩ := o
    rcases sqL_le g lF with (g | ⟨o, g⟩) | ⟨o, its, n, g, c, _⟩
    · exact .base (.lst g)
    · exact .base (.frz g)
    · exact .kList g c
  | _ => cases h
theorem fo_isi {T : String} : FO G (fun x H Q => rIsi G.K [x, .ty T] H Q) (dIsi T) := by
  intro F M H x d z Q lF lT o hz k
  unfold dIsi at hz
  cases hn : tyName d with
  | none => rw [hn] at hz; cases hz
  | some n =>
    rw [hn] at hz
    have hz : (kitB n T).map D.bl = some z := hz
    cases hb : kitB n T with
    | none => rw [hb] at hz; cases hz
    | some b =>
      rw [hb] at hz; cases hz
      exact ⟨x, .ty T, _, _, b, rfl, .ty T, own_ty lF lT o hn, kit_ty hb, k _ fun _ => ⟨rfl, rfl⟩⟩
/-- int(n), int(flag) -/
def fInt : List D → Option D
  | [.int i] => some (.int i)
  | [.bl b] => some (.int (if b then 1 else 0))
  | _ => none
theorem fn_int : FN G (fun xs H Q => (∃ i, xs = [.int i] ∧ Q (.int i) H) ∨ ∃ k, xs = [.bl k] ∧ Q (.int (if k then 1 else 0)) H) fInt := by
  intro F N T R H xs ds z Q j o hz k
  unfold fInt at hz
  split at hz
  · cases hz
    obtain ⟨v, r, M1, M2, rfl, jm, ⟨rfl, rfl⟩, rfl, rfl⟩ := o
    exact .inl ⟨_, rfl, k _ F T H Le.refl Le.refl j ⟨rfl, (J.emp_iff.mp (J.emp_iff.mp jm)).of_nil⟩⟩
  · cases hz
    obtain ⟨v, r, M1, M2, rfl, jm, ⟨rfl, rfl⟩, rfl, rfl⟩ := o
    exact .inr ⟨_, rfl, k _ F T H Le.refl Le.refl j ⟨rfl, (J.emp_iff.mp (J.emp_iff.mp jm)).of_nil⟩⟩
  · cases hz
/-- list(xs): a new list; the items are shared -/
def fList : List D → Option D
  | [.lst _ ds] => some (.lst true (frzL ds))
  | [.tup ds] => some (.lst true (frzL ds))
  | [.out ds] => some (.lst true (frzL ds))
  | _ => none
theorem fn_list : FN G (fun xs H Q => ∃ p ys, xs = [.ref p] ∧ (SqL G.K H p ys ∨ SqT G.K H p ys) ∧ ∀ l, H l = none → Q (.ref l) (upd H l (.lst ys))) fList := by
  intro F N T R H xs ds z Q j o hz k
  have dd := dump1 j
  unfold fList at hz
  split at hz
  · cases hz
    obtain ⟨v, r, M1, M2, rfl, jm, o1, rfl, rfl⟩ := o
    have e := (J.emp_iff.mp (jm.re [1, 0])).eq1
    subst e
    obtain ⟨a, vs, S, C, rfl, jc, w, g⟩ := own_lst o1
    exact ⟨a, vs, rfl, .inl (.of (g H j.le (j.sub (by simp)))), new_lst dd.1 (ownL_frz w dd.2.1 ((j_le jc).2.trans dd.2.2)) fun v F' T' H' l => k v F' T' H' (dd.2.1.trans l)⟩
  · cases hz
    obtain ⟨v, r, M1, M2, rfl, jm, o1, rfl, rfl⟩ := o
    have e := (J.emp_iff.mp (jm.re [1, 0])).eq1
    subst e
    obtain ⟨a, vs, S, C, rfl, jc, w, g⟩ := own_tup o1
    exact ⟨a, vs, rfl, .inr (g H j.le (j.sub (by simp))), new_lst dd.1 (ownL_frz w dd.2.1 ((j_le jc).2.trans dd.2.2)) fun v F' T' H' l => k v F' T' H' (dd.2.1.trans l)⟩
  · cases hz
    obtain ⟨v, r, M1, M2, rfl, jm, o1, rfl, rfl⟩ := o
    obtain ⟨a, vs, rfl, rfl, g, w⟩ := o1
    exact ⟨a, vs, rfl, .inl (sqL_le g j.le), new_lst dd.1 (ownL_frz w dd.2.1 fun _ _ z => nomatch z) fun v F' T' H' l => k v F' T' H' (dd.2.1.trans l)⟩
  · cases hz
def dBits : D → Option D
  | .int i => some (.int (Builtin.Int.intBits i : Nat))
  | _ => none
theorem f1_bits : F1 G (fun x H Q => ∃ i, x = .int i ∧ Q (.int (Builtin.Int.intBits i : Nat)) H) dBits := by
  intro F N T R H x d z Q j o hz k
  cases d with
  | int i =>
    cases hz
    obtain ⟨rfl, rfl⟩ := o
    exact ⟨i, rfl, k _ F emp H Le.refl Le.refl j ⟨rfl, rfl⟩⟩
  | _ => cases hz
/-! slices -/
theorem cutV_own {F : Hp} : ∀ {ds : List D} {vs : List V}, OwnL G F ds vs emp → ∀ n, OwnL G F (ds.drop n) (vs.drop n) emp
  | ds, vs, h, 0 => h
  | [], vs, h, n + 1 => by obtain ⟨rfl, _⟩ := h; exact ⟨rfl, rfl⟩
  | d :: ds, vs, h, n + 1 => by
    obtain ⟨v, r, M1, M2, rfl, j, h1, h2⟩ := h
    obtain ⟨rfl, rfl⟩ := j_emp2 j
    exact cutV_own h2 n
theorem takeV_own {F : Hp} : ∀ {ds : List D} {vs : List V}, OwnL G F ds vs emp → ∀ n, OwnL G F (ds.take n) (vs.take n) emp
  | ds, vs, h, 0 => ⟨rfl, rfl⟩
  | [], vs, h, n + 1 => by obtain ⟨rfl, _⟩ := h; exact ⟨rfl, rfl⟩
  | d :: ds, vs, h, n + 1 => by
    obtain ⟨v, r, M1, M2, rfl, j, h1, h2⟩ := h
    obtain ⟨rfl, rfl⟩ := j_emp2 j
    exact ⟨v, r.take n, emp, emp, rfl, J.emps, h1, takeV_own h2 n⟩
end
def cutD (ds : List D) (lo hi : Option Int) : List D := (ds.drop (HT.sIx ds.length 0 lo)).take (HT.sIx ds.length ds.length hi - HT.sIx ds.length 0 lo)
section
variable {X : Cx} {cl : Nat → Addr} {Φ : St → Prop} {E : St → XK} {c : Bool} {k : Nat} {pos p p2 apos : Pos} {e o i : Expr} {es : List Expr}
theorem re_lenP {m : M Pth} (h : RP X cl Φ E e m) (hm : X.mg "len" = none) (hg : Gl X "len" := by rfl) (he : starEach [e] X.env = (false, eval e X.env) :: starEach [] X.env := by rfl) (hpl : (backTo pos (starEach [] X.env)).any (·.1) = false := by rfl) :
    RE X cl Φ E true (.Call (.Name "len" p) [e] [] pos) (mPeek m dLen) := re_peek h fo_len fun ht => pe_callB call_len hg hm PySem.boot_len (pa_cons ht pa_nil he) (by decide) (by decide) he hpl
theorem F1.of {G : Gx} {r : V → Hp → VK → Prop} {f : D → Option D} (h : FO G r f) : F1 G r f := fun j o hz k => h j.le (j.sub (by simp)) o hz fun w ow => k w _ emp _ (dump1 j).2.1 Le.refl (dump1 j).1 (ow _)
def one1 (f : D → Option D) (ds : List D) : Option D := match ds with
  | [d] => f d
  | _ => none
theorem FN.of1 {G : Gx} {r : List V → Hp → VK → Prop} {f : D → Option D} (h : F1 G (fun x => r [x]) f) : FN G r (one1 f) := by
  intro F N T R H xs ds z Q j o hz k
  unfold one1 at hz
  split at hz
  · obtain ⟨v, w, M1, M2, rfl, jm, o1, rfl, rfl⟩ := o
    have e := (J.emp_iff.mp (jm.re [1, 0])).eq1
    subst e
    exact h j o1 hz k
  · cases hz
/-- len of a value -/
theorem re_len {m : M (List D)} (h : RA X cl Φ E c [e] m) (hm : X.mg "len" = none) (hg : Gl X "len" := by rfl) (he : starEach [e] X.env = (false, eval e X.env) :: starEach [] X.env := by rfl) (hpl : (backTo pos (starEach [] X.env)).any (·.1) = false := by rfl) :
    RE X cl Φ E c (.Call (.Name "len" p) [e] [] pos) (mFun (one1 dLen) m) := re_blt call_len (FN.of1 (G := gx X cl) (r := fun xs H Q => ∃ y n, xs = [y] ∧ LenV X.K y H n ∧ Q (.int n) H) (F1.of fo_len)) hm PySem.boot_len h hg (by decide) (by decide) he hpl
theorem re_isiP {m : M Pth} {T : String} (h : RP X cl Φ E e m) (hm : X.mg "isinstance" = none) (hT : PE X (.Name T p2) (tC (.ty T))) (hg : Gl X "isinstance" := by rfl) (he : starEach [e, .Name T p2] X.env = (false, eval e X.env) :: starEach [.Name T p2] X.env := by rfl)
    (he2 : starEach [.Name T p2] X.env = (false, eval (.Name T p2) X.env) :: starEach [] X.env := by rfl) (hpl : (backTo pos (starEach [.Name T p2] X.env)).any (·.1) = false := by rfl) :
    RE X cl Φ E true (.Call (.Name "isinstance" p) [e, .Name T p2] [] pos) (mPeek m (dIsi T)) :=
  re_peek h fo_isi fun ht => pe_callB call_isi hg hm (by decide +kernel) (pa_cons ht (pa_cons hT pa_nil he2) he) (by decide) (by decide) he hpl
theorem re_bits {m : M D} (h : RE X cl Φ E c o m) (hbase : attributeBase o "bit_length" X.env (eval o X.env) = eval o X.env := by rfl) (hline : (apos.endLine == pos.line) = true := by rfl) : RE X cl Φ E c (.Call (.Attribute o "bit_length" apos) [] [] pos) (mUn dBits m) :=
  ⟨(pe_bits h.pe hbase hline).weak fun _ _ _ q => tE_un f1_bits q⟩
/-! parts of a slice -/
structure RO (X : Cx) (cl : Nat → Addr) (Φ : St → Prop) (E : St → XK) (e : Option Expr) (m : M (Option Int)) : Prop where
  po : ∃ t, PO X e t ∧ ∀ σ H Q, (∃ F N R ρ, Here (gx X cl) Φ σ F N R H ρ ∧ match m ρ with
    | .ok x ρ' => ∀ F' N' H', Le F F' → J [F', N', R] H' → Rel (gx X cl) F' ρ' σ N' → Q x H'
    | .ex k ρ' => PX (gx X cl) E σ F R k ρ'
    | .no => False) → t σ H Q
def mNoPart : M (Option Int) := fun ρ => .ok none ρ
def mPart (m : M D) : M (Option Int) := fun ρ => (m ρ).bind fun d ρ1 => match d with
  | .int i => .ok (some i) ρ1
  | _ => .no
theorem ro_none : RO X cl Φ E none mNoPart := ⟨_, po_none, fun σ H Q ⟨F, N, R, ρ, a, q⟩ => q F N H Le.refl a.1 a.2.1⟩
theorem ro_some {m : M D} (h : RE X cl Φ E c e m) : RO X cl Φ E (some e) (mPart m) := ⟨_, po_some h.pe, fun σ H Q ⟨F, N, R, ρ, a, q⟩ => by
  refine ⟨F, N, R, ρ, a, ?_⟩
  unfold mPart at q
  cases e1 : m ρ with
  | no => rw [e1] at q; exact q
  | ex k ρ' => rw [e1] at q; exact q
  | ok d ρ1 =>
    rw [e1] at q
    simp only [O.bind] at q
    intro v F1 N1 T1 H1 l1 k1 j1 r1 o1
    cases d with
    | int i =>
      obtain ⟨rfl, rfl⟩ := o1
      exact ⟨i, rfl, q F1 N1 H1 l1 (emp_out j1) r1⟩
    | _ => exact q.elim⟩
def mSlice (f : D → Option Int → Option Int → Option D) (m : M D) (ml mh : M (Option Int)) : M D := fun ρ => (m ρ).bind fun d ρ1 => (ml ρ1).bind fun lo ρ2 => (mh ρ2).bind fun hi ρ3 => ofOpt (f d lo hi) ρ3
def FS (G : Gx) (r : V → Option Int → Option Int → Hp → VK → Prop) (f : D → Option Int → Option Int → Option D) : Prop := ∀ lo hi, F1 G (fun x H Q => r x lo hi H Q) (fun d => f d lo hi)
theorem re_slice {r : V → Option Int → Option Int → Hp → VK → Prop} {f : D → Option Int → Option Int → Option D} {lo hi : Option Expr} {m : M D} {ml mh : M (Option Int)} (hr : SlR X r) (hF : FS (gx X cl) r f) (h : RE X cl Φ E c e m) (hl : RO X cl Φ E lo ml) (hh : RO X cl Φ E hi mh) :
    RE X cl Φ E false (.Subscript e (.Slice lo hi none p2) pos) (mSlice f m ml mh) := by
  obtain ⟨tl, pl, ql⟩ := hl.po
  obtain ⟨th, ph, qh⟩ := hh.po
  refine ⟨(pe_slice hr h.pe pl ph).weak fun σ H Q ⟨F, N, R, ρ, a, q⟩ => ⟨F, N, R, ρ, a, ?_⟩⟩
  unfold mSlice at q
  cases e1 : m ρ with
  | no => rw [e1] at q; exact q
  | ex k ρ' => rw [e1] at q; exact q
  | ok d ρ1 =>
    rw [e1] at q
    simp only [O.bind] at q
    intro v F1 N1 T1 H1 l1 k1 j1 r1 o1
    have jt : J [T1, R] (un T1 R) := (j1.re [2, 3, 0, 1]).join.1
    refine ql _ _ _ ⟨F1, N1, un T1 R, ρ1, ⟨j1.hide, r1, a.2.2⟩, ?_⟩
    cases e2 : ml ρ1 with
    | no => rw [e2] at q; exact q
    | ex k ρ' => rw [e2] at q; exact PX.more q l1 jt
    | ok x ρ2 =>
      rw [e2] at q
      simp only at q
      intro F2 N2 H2 l2 j2 r2
      refine qh _ _ _ ⟨F2, N2, un T1 R, ρ2, ⟨j2, r2, a.2.2⟩, ?_⟩
      cases e3 : mh ρ2 with
      | no => rw [e3] at q; exact q
      | ex k ρ' => rw [e3] at q; exact PX.more q (l1.trans l2) jt
      | ok y ρ3 =>
        rw [e3] at q
        simp only at q
        intro F3 N3 H3 l3 j3 r3
        cases e4 : f d x y with
        | none => rw [e4] at q; exact q.elim
        | some z =>
          rw [e4] at q
          exact hF x y (J.unhide (ys := []) jt j3) (own_le (l2.trans l3) o1) e4 fun w F4 T4 H4 l4 k4 j4 o4 => q w F4 N3 T4 H4 (((l1.trans l2).trans l3).trans l4) (fun z => nomatch z) j4 (rel_le l4 r3) o4
def sLst : D → Option Int → Option Int → Option D
  | .lst _ ds, lo, hi => some (.lst true (frzL (cutD ds lo hi)))
  | .out ds, lo, hi => some (.lst true (frzL (cutD ds lo hi)))
  | _, _, _ => none
theorem cut_own {G : Gx} {F : Hp} {ds : List D} {vs : List V} (h : OwnL G F ds vs emp) (lo hi : Option Int) : OwnL G F (cutD ds lo hi) (cutV vs lo hi) emp := by
  unfold cutD cutV
  rw [ownL_len h]
  exact takeV_own (cutV_own h _) _
theorem frz_cut (ds : List D) (lo hi : Option Int) : frzL (cutD ds lo hi) = cutD (frzL ds) lo hi := by
  simp only [cutD, frzL_eq, List.map_take, List.map_drop, List.length_map]
theorem fs_lst {G : Gx} : FS G (rSlL G.K) sLst := by
  intro lo hi F N T R H x d z Q j o hz k
  have dd := dump1 j
  have hz : sLst d lo hi = some z := hz
  unfold sLst at hz
  split at hz
  · cases hz
    obtain ⟨a, vs, S, C, rfl, jc, w, g⟩ := own_lst o
    refine ⟨a, vs, rfl, .of (g H j.le (j.sub (by simp))), ?_⟩
    rw [frz_cut] at k
    exact new_lst dd.1 (cut_own (ownL_frz w dd.2.1 ((j_le jc).2.trans dd.2.2)) _ _) fun v F' T' H' l => k v F' T' H' (dd.2.1.trans l)
  · cases hz
    obtain ⟨a, vs, rfl, rfl, g, w⟩ := o
    refine ⟨a, vs, rfl, sqL_le g j.le, ?_⟩
    rw [frz_cut] at k
    exact new_lst dd.1 (cut_own (ownL_frz w dd.2.1 fun _ _ z => nomatch z) _ _) fun v F' T' H' l => k v F' T' H' (dd.2.1.trans l)
  · cases hz
/-! an item of a value -/
def dIx : D → D → Option D
  | .lst _ ds, .int i => (atI ds i).map frz
  | .tup ds, .int i => (atI ds i).map frz
  | .out ds, .int i => (atI ds i).map frz
  | .str x, .int i => if x.length ≤ sizeLine then (atI x.cps.toList i).map fun c => .str ⟨#[c]⟩ else none
  | _, _ => none
theorem atI_own {G : Gx} {F : Hp} {ds : List D} {vs : List V} {i : Int} {d : D} (h : OwnL G F ds vs emp) (e : atI ds i = some d) : ∃ v, atI vs i = some v ∧ Own G F d v emp := by
  unfold atI at e ⊢
  rw [ownL_len h]
  cases hi : ixN ds.length i with
  | none => rw [hi] at e; cases e
  | some j => rw [hi] at e; exact ownL_get h e
theorem atI_frz {ds : List D} {i : Int} : atI (frzL ds) i = (atI ds i).map frz := by
  unfold atI
  rw [frzL_eq, List.length_map]
  cases ixN ds.length i with
  | none => rfl
  | some j => exact List.getElem?_map
theorem f2_ix {G : Gx} : F2 G (rIx G.K) dIx := by
  intro F N T1 T2 R H x y d e z Q j o1 o2 hz k
  have dd := dump2 j
  unfold dIx at hz
  split at hz
  · obtain ⟨a, vs, S, C, rfl, jc, w, g⟩ := own_lst o1
    have w2 := ownL_frz w dd.2.1 ((j_le jc).2.trans dd.2.2.1)
    rw [← atI_frz] at hz
    obtain ⟨v, e1, o3⟩ := atI_own w2 hz
    exact .inl ⟨a, vs, _, v, rfl, o2.1, .of (g H j.le (j.sub (by simp))), e1, k v _ emp H dd.2.1 Le.refl dd.1 o3⟩
  · obtain ⟨a, vs, S, C, rfl, jc, w, g⟩ := own_tup o1
    have w2 := ownL_frz w dd.2.1 ((j_le jc).2.trans dd.2.2.1)
    rw [← atI_frz] at hz
    obtain ⟨v, e1, o3⟩ := atI_own w2 hz
    exact .inr (.inl ⟨a, vs, _, v, rfl, o2.1, g H j.le (j.sub (by simp)), e1, k v _ emp H dd.2.1 Le.refl dd.1 o3⟩)
  · obtain ⟨a, vs, rfl, rfl, g, w⟩ := o1
    have w2 := ownL_frz w dd.2.1 (fun _ _ z => nomatch z)
    rw [← atI_frz] at hz
    obtain ⟨v, e1, o3⟩ := atI_own w2 hz
    exact .inl ⟨a, vs, _, v, rfl, o2.1, sqL_le g j.le, e1, k v _ emp H dd.2.1 Le.refl dd.1 o3⟩
  · split at hz
    · obtain ⟨rfl, rfl⟩ := o1
      rename_i hl
      cases hc : atI _ _ with
      | none => rw [hc] at hz; cases hz
      | some c =>
        rw [hc] at hz; cases hz
        exact .inr (.inr ⟨_, _, c, rfl, o2.1, hl, hc, k _ _ emp H dd.2.1 Le.refl dd.1 ⟨rfl, rfl⟩⟩)
    · cases hz
  · cases hz
theorem re_ix {c1 c2 : Bool} {m mi : M D} (h : RE X cl Φ E c1 o m) (hi : RE X cl Φ E c2 i mi) (hs : PlainIx i := by exact fun _ _ => rfl) : RE X cl Φ E (c1 && c2) (.Subscript o i pos) (mBin dIx m mi) :=
  ⟨(pe_ix ix_seq h.pe hi.pe hs).weak fun _ _ _ q => tE_bin f2_ix q⟩
end
end Z

end
section
set_option maxRecDepth 100000
/-! Z: the rules as they are printed -/
namespace Z
open PySem PySem.Spec L2
open PyProof.Rows hiding St
def dLt : D → D → Option D := dCmp fun i j => decide (i < j)
def dLe : D → D → Option D := dCmp fun i j => decide (i ≤ j)
def dGt : D → D → Option D := dCmp fun i j => decide (j < i)
def dGe : D → D → Option D := dCmp fun i j => decide (j ≤ i)
def oIsN (d : D) : Option D := (isNon d).map .bl
def oNotN (d : D) : Option D := (isNon d).map fun b => .bl (!b)
def dIAdd : D → D → Option D
  | .int i, .int j => some (.int (i + j))
  | .str x, .str y => dCatS (.str x) (.str y)
  | _, _ => none
theorem iop_addZ {X : Cx} : OpR X (inplaceOp .Add) (fun x y H Q => rI0 (fun i j => .int (i + j)) x y H Q ∨ (∃ i j, x = .str i ∧ y = .str j ∧ i.length + j.length ≤ sizeLine ∧ Q (.str (i ++ j)) H)) := iop_add.or iop_add_str
theorem f2_iadd {G : Gx} : F2 G (fun x y H Q => rI0 (fun i j => .int (i + j)) x y H Q ∨ (∃ i j, x = .str i ∧ y = .str j ∧ i.length + j.length ≤ sizeLine ∧ Q (.str (i ++ j)) H)) dIAdd :=
  fun {F N T1 T2 R H x y d e z Q} j o1 o2 hz k => by
    unfold dIAdd at hz
    split at hz
    · exact .inl (f2_int0 (g := fun i j => i + j) j o1 o2 hz k)
    · exact .inr (f2_catS j o1 o2 hz k)
    · cases hz
theorem fnNo {P : Program} {w : World} {K : PySem.W.Frag} {mg : Str → Option Value} {base : Heap} {k : Nat} {f : Addr} {fd : FuncData} {ps : List Str} {G : Gx} : FnOk P w K mg base (L2.CX P w) k f fd ps (spR G (fun _ => .no) ps.length) :=
  ⟨fun _ _ _ _ h => h.1, fun _ _ _ _ _ _ _ _ _ _ _ _ _ h => by
    obtain ⟨_, _, _, _, _, _, _, q⟩ := h
    exact q.elim⟩
section
variable {X : Cx} {cl : Nat → Addr} {Φ : St → Prop} {E : St → XK} {c : Bool} {a b e e3 tg iter elt : Expr} {es ifs : List Expr} {m ma mb mc : M D} {pos p p2 apos : Pos} {k : Nat}
theorem RE.any (h : RE X cl Φ E true e ma) : RE X cl Φ E c e ma := ⟨h.pe.weak fun σ H Q ⟨F, N, R, ρ, a, q⟩ => ⟨F, N, R, ρ, a, by
  cases e1 : ma ρ with
  | no => rw [e1] at q; exact q
  | ex k ρ' => rw [e1] at q; exact q
  | ok d ρ' =>
    rw [e1] at q
    exact fun v F' N' T H' l k j r o => q v F' N' T H' l (fun _ => k rfl) j r o⟩⟩
theorem RE.fls (h : RE X cl Φ E c e ma) : RE X cl Φ E false e ma := ⟨h.pe.weak fun σ H Q ⟨F, N, R, ρ, a, q⟩ => ⟨F, N, R, ρ, a, by
  cases e1 : ma ρ with
  | no => rw [e1] at q; exact q
  | ex k ρ' => rw [e1] at q; exact q
  | ok d ρ' =>
    rw [e1] at q
    exact fun v F' N' T H' l k j r o => q v F' N' T H' l (fun z => nomatch z) j r o⟩⟩
/-! operators -/
theorem x_bin {op : Operator} {r : R2} {f : D → D → Option D} (ho : OpR X (binaryOp op) r) (hf : F2 (gx X cl) r f) (ha : RE X cl Φ E c a ma) (hb : RE X cl Φ E c b mb) : RE X cl Φ E c (.BinOp a op b pos) (mBin f ma mb) := by
  have := re_bin (pos := pos) ho hf ha hb
  rwa [Bool.and_self] at this
theorem x_cmp {op : CmpOp} {r : R2} {f : D → D → Option D} (ho : OpR X (compareOp op) r) (hf : F2 (gx X cl) r f) (hm : behindInMarks op b = false) (ha : RE X cl Φ E c a ma) (hb : RE X cl Φ E c b mb) : RE X cl Φ E c (.Compare a [op] [b] pos) (mBin f ma mb) := by
  have := re_cmp (pos := pos) ho hf hm ha hb
  rwa [Bool.and_self] at this
theorem xAdd (ha : RE X cl Φ E c a ma) (hb : RE X cl Φ E c b mb) : RE X cl Φ E c (.BinOp a .Add b pos) (mBin dAdd ma mb) := x_bin op_addZ f2_add ha hb
theorem xSub (ha : RE X cl Φ E c a ma) (hb : RE X cl Φ E c b mb) : RE X cl Φ E c (.BinOp a .Sub b pos) (mBin dSub ma mb) := x_bin op_sub f2_sub ha hb
theorem xMul (ha : RE X cl Φ E c a ma) (hb : RE X cl Φ E c b mb) : RE X cl Φ E c (.BinOp a .Mult b pos) (mBin dMul ma mb) := x_bin op_mulZ f2_mul ha hb
theorem xDiv (ha : RE X cl Φ E c a ma) (hb : RE X cl Φ E c b mb) : RE X cl Φ E c (.BinOp a .FloorDiv b pos) (mBin dDiv ma mb) := x_bin op_fdivW f2_div ha hb
theorem xMod (ha : RE X cl Φ E c a ma) (hb : RE X cl Φ E c b mb) : RE X cl Φ E c (.BinOp a .Mod b pos) (mBin dMod ma mb) := x_bin op_mod f2_mod ha hb
theorem xShl (ha : RE X cl Φ E c a ma) (hb : RE X cl Φ E c b mb) : RE X cl Φ E c (.BinOp a .LShift b pos) (mBin dShl ma mb) := x_bin op_shlW f2_shl ha hb
theorem xShr (ha : RE X cl Φ E c a ma) (hb : RE X cl Φ E c b mb) : RE X cl Φ E c (.BinOp a .RShift b pos) (mBin dShr ma mb) := x_bin op_shr f2_shr ha hb
theorem xAnd (ha : RE X cl Φ E c a ma) (hb : RE X cl Φ E c b mb) : RE X cl Φ E c (.BinOp a .BitAnd b pos) (mBin dAnd ma mb) := x_bin op_and f2_and ha hb
theorem xOr (ha : RE X cl Φ E c a ma) (hb : RE X cl Φ E c b mb) : RE X cl Φ E c (.BinOp a .BitOr b pos) (mBin dOr ma mb) := x_bin op_or f2_bor ha hb
theorem xXor (ha : RE X cl Φ E c a ma) (hb : RE X cl Φ E c b mb) : RE X cl Φ E c (.BinOp a .BitXor b pos) (mBin dXor ma mb) := x_bin op_xor f2_xor ha hb
theorem xLt (ha : RE X cl Φ E c a ma) (hb : RE X cl Φ E c b mb) : RE X cl Φ E c (.Compare a [.Lt] [b] pos) (mBin dLt ma mb) := x_cmp op_lt f2_cmp (nomark _) ha hb
theorem xLe (ha : RE X cl Φ E c a ma) (hb : RE X cl Φ E c b mb) : RE X cl Φ E c (.Compare a [.LtE] [b] pos) (mBin dLe ma mb) := x_cmp op_le f2_cmp (nomark _) ha hb
theorem xGt (ha : RE X cl Φ E c a ma) (hb : RE X cl Φ E c b mb) : RE X cl Φ E c (.Compare a [.Gt] [b] pos) (mBin dGt ma mb) := x_cmp op_gt f2_cmp (nomark _) ha hb
theorem xGe (ha : RE X cl Φ E c a ma) (hb : RE X cl Φ E c b mb) : RE X cl Φ E c (.Compare a [.GtE] [b] pos) (mBin dGe ma mb) := x_cmp op_ge f2_cmp (nomark _) ha hb
theorem xEq (κ : Kx X E k) (ha : RE X cl Φ E c a ma) (hb : RE X cl Φ E c b mb) : RE X cl Φ E c (.Compare a [.Eq] [b] pos) (mBin dEq ma mb) := x_cmp (op_eqD κ.room.units) f2_eq (nomark _) ha hb
theorem xNe (κ : Kx X E k) (ha : RE X cl Φ E c a ma) (hb : RE X cl Φ E c b mb) : RE X cl Φ E c (.Compare a [.NotEq] [b] pos) (mBin dNe ma mb) := x_cmp (op_neD κ.room.units) f2_ne (nomark _) ha hb
theorem xIn (ha : RE X cl Φ E c a ma) (hb : RE X cl Φ E c b mb) (hm : behindInMarks .In b = false := by rfl) : RE X cl Φ E c (.Compare a [.In] [b] pos) (mBin dIn ma mb) := x_cmp op_in_seq f2_in hm ha hb
theorem xNotIn (ha : RE X cl Φ E c a ma) (hb : RE X cl Φ E c b mb) (hm : behindInMarks .NotIn b = false := by rfl) : RE X cl Φ E c (.Compare a [.NotIn] [b] pos) (mBin dNotIn ma mb) := x_cmp op_notIn_seq f2_notIn hm ha hb
theorem xIsN {j : Nat} (ha : RE X cl Φ E c a ma) : RE X cl Φ E c (.Compare a [.Is] [.Constant .none j p] pos) (mBin dIsN ma (mK .non)) := x_cmp op_isN f2_isN (nomark _) ha re_non
theorem xNotN {j : Nat} (ha : RE X cl Φ E c a ma) : RE X cl Φ E c (.Compare a [.IsNot] [.Constant .none j p] pos) (mBin dNotN ma (mK .non)) := x_cmp op_notN f2_notN (nomark _) ha re_non
theorem xNeg (ha : RE X cl Φ E c a ma) : RE X cl Φ E c (.UnaryOp .USub a pos) (mUn dNeg ma) := re_un un_neg f1_neg ha
theorem xInv (ha : RE X cl Φ E c a ma) : RE X cl Φ E c (.UnaryOp .Invert a pos) (mUn dInv ma) := re_un un_inv f1_inv ha
theorem xChain {op op' : CmpOp} {r r' : R2} {f g : D → D → Option D} (ho : OpR X (compareOp op) r) (hf : F2 (gx X cl) r f) (ho' : OpR X (compareOp op') r') (hg : F2 (gx X cl) r' g)
    (ha : RE X cl Φ E c a ma) (hb : RE X cl Φ E c b mb) (hc : RE X cl Φ E c e3 mc) (hm : lastMarks [op, op'] [b, e3] = false := by with_unfolding_all rfl) : RE X cl Φ E c (.Compare a [op, op'] [b, e3] pos) (mChain f g ma mb mc) := by
  have := re_chain (pos := pos) ho hf ho' hg ha hb hc hm
  rwa [Bool.and_self, Bool.and_self] at this
theorem xIte {t : Expr} {mt : M Bool} (ht : RB X cl Φ E c t mt) (h : RE X cl Φ E c a ma) (h' : RE X cl Φ E c b mb) : RE X cl Φ E c (.IfExp t a b pos) (mIte mt ma mb) := by
  have := re_ite (pos := pos) ht h h'
  rwa [Bool.and_self, Bool.and_self] at this
theorem xAndV (h : RE X cl Φ E c a ma) (h' : RE X cl Φ E c (.BoolOp .And (b :: es) pos) mb) : RE X cl Φ E c (.BoolOp .And (a :: b :: es) pos) (mAndV ma mb) := by
  have := re_and h h'
  rwa [Bool.and_self] at this
theorem xOrV (h : RE X cl Φ E c a ma) (h' : RE X cl Φ E c (.BoolOp .Or (b :: es) pos) mb) : RE X cl Φ E c (.BoolOp .Or (a :: b :: es) pos) (mOrV ma mb) := by
  have := re_or h h'
  rwa [Bool.and_self] at this
theorem wAnd {m n : M Bool} (h : RB X cl Φ E c a m) (h' : RW X cl Φ E c (.BoolOp .And (b :: es) pos) n) : RW X cl Φ E c (.BoolOp .And (a :: b :: es) pos) (mAnd m n) := by
  have := rw_and h h'
  rwa [Bool.and_self] at this
theorem wOr {m n : M Bool} (h : RB X cl Φ E c a m) (h' : RW X cl Φ E c (.BoolOp .Or (b :: es) pos) n) : RW X cl Φ E c (.BoolOp .Or (a :: b :: es) pos) (mOr m n) := by
  have := rw_or h h'
  rwa [Bool.and_self] at this
theorem aCons {mr : M (List D)} (ha : RE X cl Φ E c e ma) (hr : RA X cl Φ E c es mr) (hs : starEach (e :: es) X.env = (false, eval e X.env) :: starEach es X.env := by rfl) : RA X cl Φ E c (e :: es) (mCons ma mr) := by
  have := ra_cons ha hr hs
  rwa [Bool.and_self] at this
theorem xTake {m : M Pth} (h : RP X cl Φ E e m) : RE X cl Φ E c e (mTake m) := (re_take h).any
theorem xIx {mi : M D} {i : Expr} (h : RE X cl Φ E c e m) (hi : RE X cl Φ E c i mi) (hs : PlainIx i := by exact fun _ _ => rfl) : RE X cl Φ E c (.Subscript e i pos) (mBin dIx m mi) := by
  have := re_ix (pos := pos) h hi hs
  rwa [Bool.and_self] at this
theorem xLenP {m : M Pth} (h : RP X cl Φ E e m) (hm : X.mg "len" = none) (hg : Gl X "len" := by rfl) (he : starEach [e] X.env = (false, eval e X.env) :: starEach [] X.env := by rfl) (hpl : (backTo pos (starEach [] X.env)).any (·.1) = false := by rfl) :
    RE X cl Φ E c (.Call (.Name "len" p) [e] [] pos) (mPeek m dLen) := (re_lenP h hm hg he hpl).any
theorem xIsi {m : M Pth} {T : String} (h : RP X cl Φ E e m) (hm : X.mg "isinstance" = none) (hT : PE X (.Name T p2) (tC (.ty T))) (hg : Gl X "isinstance" := by rfl) (he : starEach [e, .Name T p2] X.env = (false, eval e X.env) :: starEach [.Name T p2] X.env := by rfl)
    (he2 : starEach [.Name T p2] X.env = (false, eval (.Name T p2) X.env) :: starEach [] X.env := by rfl) (hpl : (backTo pos (starEach [.Name T p2] X.env)).any (·.1) = false := by rfl) :
    RE X cl Φ E c (.Call (.Name "isinstance" p) [e, .Name T p2] [] pos) (mPeek m (dIsi T)) := (re_isiP h hm hT hg he he2 hpl).any
theorem xInt {mr : M (List D)} (h : RA X cl Φ E c [e] mr) (hm : X.mg "int" = none) (hg : Gl X "int" := by rfl) (he : starEach [e] X.env = (false, eval e X.env) :: starEach [] X.env := by rfl) (hpl : (backTo pos (starEach [] X.env)).any (·.1) = false := by rfl) :
    RE X cl Φ E c (.Call (.Name "int" p) [e] [] pos) (mFun fInt mr) := re_ty call_int1 fn_int hm (by decide +kernel) h hg (by decide) (by decide) he hpl
theorem xList {mr : M (List D)} (h : RA X cl Φ E c [e] mr) (hm : X.mg "list" = none) (hg : Gl X "list" := by rfl) (he : starEach [e] X.env = (false, eval e X.env) :: starEach [] X.env := by rfl) (hpl : (backTo pos (starEach [] X.env)).any (·.1) = false := by rfl) :
    RE X cl Φ E c (.Call (.Name "list" p) [e] [] pos) (mFun fList mr) := re_ty call_list_of fn_list hm (by decide +kernel) h hg (by decide) (by decide) he hpl
theorem xSliceL {lo hi : Option Expr} {ml mh : M (Option Int)} (h : RE X cl Φ E false e m) (hl : RO X cl Φ E lo ml) (hh : RO X cl Φ E hi mh) : RE X cl Φ E false (.Subscript e (.Slice lo hi none p2) pos) (mSlice sLst m ml mh) := re_slice sl_list fs_lst h hl hh
theorem oSome (h : RE X cl Φ E false e m) : RO X cl Φ E (some e) (mPart m) := ro_some h
theorem ty_name {T : String} {u : Value} (hm : X.mg T = none) (hv : bootBuiltins T = some (.type T)) (hg : Gl X T := by rfl) (hn : (T : Str) ≠ "__name__" := by decide) (hd : ((T : Str) == ("__debug__" : Str)) = false := by decide) : PE X (.Name T p) (tC (.ty T)) := pe_bltn hg hm hv rfl hn hd
theorem xIsNP {j : Nat} {m : M Pth} (h : RP X cl Φ E e m) : RE X cl Φ E c (.Compare e [.Is] [.Constant .none j p] pos) (mPeek m oIsN) :=
  (re_peek (r := fun x H Q => V.non = .non ∧ Q (.bl (decide (x = .non))) H) h (fun {F T H x d z Q} lF lT o hz k => by
    unfold oIsN at hz
    cases hb : isNon d with
    | none => rw [hb] at hz; cases hz
    | some b => rw [hb] at hz; cases hz; rw [own_isN o hb]; exact ⟨rfl, k _ fun _ => ⟨rfl, rfl⟩⟩) fun ht => pe_cmpR op_isN ht pe_non (nomark _)).any
theorem xNotNP {j : Nat} {m : M Pth} (h : RP X cl Φ E e m) : RE X cl Φ E c (.Compare e [.IsNot] [.Constant .none j p] pos) (mPeek m oNotN) :=
  (re_peek (r := fun x H Q => V.non = .non ∧ Q (.bl (!decide (x = .non))) H) h (fun {F T H x d z Q} lF lT o hz k => by
    unfold oNotN at hz
    cases hb : isNon d with
    | none => rw [hb] at hz; cases hz
    | some b => rw [hb] at hz; cases hz; rw [own_isN o hb]; exact ⟨rfl, k _ fun _ => ⟨rfl, rfl⟩⟩) fun ht => pe_cmpR op_notN ht pe_non (nomark _)).any
/-! comparisons as tests -/
theorem rb_cmp {op : CmpOp} {r : R2} {f : D → D → Option D} (ho : OpR X (compareOp op) r) (hf : F2 (gx X cl) r f) (hm : behindInMarks op b = false) (ha : RE X cl Φ E c a ma) (hb : RE X cl Φ E c b mb) : RB X cl Φ E c (.Compare a [op] [b] pos) (mTst (mBin f ma mb)) :=
  ⟨(pt_cmpR ho ha.pe hb.pe hm).weak fun σ H Q q => tE_bin (c1 := c) (c2 := c) hf (by rw [Bool.and_self]; exact tB_val q)⟩
theorem bLt (ha : RE X cl Φ E c a ma) (hb : RE X cl Φ E c b mb) : RB X cl Φ E c (.Compare a [.Lt] [b] pos) (mTst (mBin dLt ma mb)) := rb_cmp op_lt f2_cmp (nomark _) ha hb
theorem bLe (ha : RE X cl Φ E c a ma) (hb : RE X cl Φ E c b mb) : RB X cl Φ E c (.Compare a [.LtE] [b] pos) (mTst (mBin dLe ma mb)) := rb_cmp op_le f2_cmp (nomark _) ha hb
theorem bGt (ha : RE X cl Φ E c a ma) (hb : RE X cl Φ E c b mb) : RB X cl Φ E c (.Compare a [.Gt] [b] pos) (mTst (mBin dGt ma mb)) := rb_cmp op_gt f2_cmp (nomark _) ha hb
theorem bGe (ha : RE X cl Φ E c a ma) (hb : RE X cl Φ E c b mb) : RB X cl Φ E c (.Compare a [.GtE] [b] pos) (mTst (mBin dGe ma mb)) := rb_cmp op_ge f2_cmp (nomark _) ha hb
theorem bEq (κ : Kx X E k) (ha : RE X cl Φ E c a ma) (hb : RE X cl Φ E c b mb) : RB X cl Φ E c (.Compare a [.Eq] [b] pos) (mTst (mBin dEq ma mb)) := rb_cmp (op_eqD κ.room.units) f2_eq (nomark _) ha hb
theorem bNe (κ : Kx X E k) (ha : RE X cl Φ E c a ma) (hb : RE X cl Φ E c b mb) : RB X cl Φ E c (.Compare a [.NotEq] [b] pos) (mTst (mBin dNe ma mb)) := rb_cmp (op_neD κ.room.units) f2_ne (nomark _) ha hb
theorem bIn (ha : RE X cl Φ E c a ma) (hb : RE X cl Φ E c b mb) (hm : behindInMarks .In b = false := by rfl) : RB X cl Φ E c (.Compare a [.In] [b] pos) (mTst (mBin dIn ma mb)) := rb_cmp op_in_seq f2_in hm ha hb
theorem bNotIn (ha : RE X cl Φ E c a ma) (hb : RE X cl Φ E c b mb) (hm : behindInMarks .NotIn b = false := by rfl) : RB X cl Φ E c (.Compare a [.NotIn] [b] pos) (mTst (mBin dNotIn ma mb)) := rb_cmp op_notIn_seq f2_notIn hm ha hb
theorem bIsN {j : Nat} (ha : RE X cl Φ E c a ma) : RB X cl Φ E c (.Compare a [.Is] [.Constant .none j p] pos) (mTst (mBin dIsN ma (mK .non))) := rb_cmp op_isN f2_isN (nomark _) ha re_non
theorem bNotN {j : Nat} (ha : RE X cl Φ E c a ma) : RB X cl Φ E c (.Compare a [.IsNot] [.Constant .none j p] pos) (mTst (mBin dNotN ma (mK .non))) := rb_cmp op_notN f2_notN (nomark _) ha re_non
theorem bChain {op op' : CmpOp} {r r' : R2} {f g : D → D → Option D} (ho : OpR X (compareOp op) r) (hf : F2 (gx X cl) r f) (ho' : OpR X (compareOp op') r') (hg : F2 (gx X cl) r' g)
    (ha : RE X cl Φ E c a ma) (hb : RE X cl Φ E c b mb) (hc : RE X cl Φ E c e3 mc) (hm : lastMarks [op, op'] [b, e3] = false := by with_unfolding_all rfl) : RB X cl Φ E c (.Compare a [op, op'] [b, e3] pos) (mTst (mChain f g ma mb mc)) :=
  ⟨(pt_chain ho ho' ha.pe hb.pe hc.pe hm).weak fun σ H Q q => tE_chain (c1 := c) (c2 := c) (c3 := c) hf hg (by rw [Bool.and_self, Bool.and_self]; exact tB_val q)⟩
theorem rb_peek {e' : Expr} {r : V → Hp → VK → Prop} {f : D → Option D} {m : M Pth} (h : RP X cl Φ E e m) (hF : FO (gx X cl) r f) (hp : ∀ {t : TE}, PE X e t → PT X e' (fun σ H Q => t σ H fun x H1 => r x H1 fun y H2 => ∃ b, y = .bl b ∧ Q b H2)) : RB X cl Φ E c e' (mTst (mPeek m f)) := by
  refine ⟨(hp h.pe.kf).weak fun σ H Q q => ?_⟩
  obtain ⟨F, N, R, ρ, a, q⟩ := q
  refine ⟨F, N, R, ρ, a, ?_⟩
  unfold mTst mPeek at q
  cases e1 : m ρ with
  | no => rw [e1] at q; exact q
  | ex k ρ' => rw [e1] at q; exact q
  | ok p ρ1 =>
    rw [e1] at q
    simp only [O.bind] at q
    intro v0 v F1 N1 H1 l1 k1 j1 r1 s1 at1 kf
    obtain ⟨d, g, n⟩ := h.wf _ _ _ e1
    rw [g] at q
    simp only at q
    obtain ⟨M1, Mr, jm, ow, kk⟩ := place (G := gx X cl) j1 r1 g n kf s1 at1
    cases e2 : f d with
    | none => rw [e2] at q; exact q.elim
    | some z =>
      rw [e2] at q
      refine hF j1.le ((j_le jm).1.trans (j1.sub (by simp))) ow e2 fun w ow2 => ?_
      cases z with
      | bl b => exact ⟨b, (ow2 F1).1, q F1 N1 H1 l1 (fun _ => k1) j1 r1⟩
      | _ => exact q.elim
theorem fo_isN {G : Gx} : FO G (fun x H Q => V.non = .non ∧ Q (.bl (decide (x = .non))) H) oIsN := fun {F T H x d z Q} lF lT o hz k => by
    unfold oIsN at hz
    cases hb : isNon d with
    | none => rw [hb] at hz; cases hz
    | some b => rw [hb] at hz; cases hz; rw [own_isN o hb]; exact ⟨rfl, k _ fun _ => ⟨rfl, rfl⟩⟩
theorem fo_notN {G : Gx} : FO G (fun x H Q => V.non = .non ∧ Q (.bl (!decide (x = .non))) H) oNotN := fun {F T H x d z Q} lF lT o hz k => by
    unfold oNotN at hz
    cases hb : isNon d with
    | none => rw [hb] at hz; cases hz
    | some b => rw [hb] at hz; cases hz; rw [own_isN o hb]; exact ⟨rfl, k _ fun _ => ⟨rfl, rfl⟩⟩
theorem bIsNP {j : Nat} {m : M Pth} (h : RP X cl Φ E e m) : RB X cl Φ E c (.Compare e [.Is] [.Constant .none j p] pos) (mTst (mPeek m oIsN)) := rb_peek h fo_isN fun ht => pt_cmpR op_isN ht pe_non (nomark _)
theorem bNotNP {j : Nat} {m : M Pth} (h : RP X cl Φ E e m) : RB X cl Φ E c (.Compare e [.IsNot] [.Constant .none j p] pos) (mTst (mPeek m oNotN)) := rb_peek h fo_notN fun ht => pt_cmpR op_notN ht pe_non (nomark _)
end
theorem own_ints {G : Gx} {F : Hp} : ∀ ns : List Int, OwnL G F (ns.map D.int) (ns.map V.int) emp
  | [] => ⟨rfl, rfl⟩
  | n :: ns => ⟨.int n, _, emp, emp, rfl, J.emps, ⟨rfl, rfl⟩, own_ints ns⟩
theorem law_sp {G : Gx} {H : Hp} {a : Addr} {ns : List Int} {r : List D → O3} (h : SqL G.K H a (ns.map V.int)) (q : ∃ as, r [.out (ns.map .int)] = .ok (.bl true) as) : spR G r 1 [.ref a] H (fun v _ => v = .bl true) fun _ _ _ => False := by
  obtain ⟨as, e⟩ := q
  refine ⟨rfl, H, emp, emp, [.out (ns.map .int)], J.re (J.emp_iff.mpr (J.emp_iff.mpr J.self)) [2, 0, 1], ⟨.ref a, [], emp, emp, rfl, J.emps, ⟨a, _, rfl, rfl, h, own_ints ns⟩, ⟨rfl, rfl⟩⟩, ?_⟩
  rw [e]
  exact fun v F' M' T H' _ _ _ o => o.1
theorem cx_none {P : Program} {w : World} {outer : List PySem.Env} {H : Hp} {s : Shared} {e : Value} {s' : Shared} (h : L2.CX P w outer H s (fun _ _ _ => False) e s') : False := by
  obtain ⟨_, _, _, _, _, _, _, _, _, _, _, _, z⟩ := h
  exact z.elim
end Z

end
section
/-! ZE: built-ins over lists of ints -/
namespace Z
open PySem PySem.Spec L2
open PyProof.Rows hiding St
variable {G : Gx} {Φ : St → Prop}
def intsL : List D → Option (List Int)
  | [] => some []
  | .int i :: ds => (intsL ds).map (i :: ·)
  | _ :: _ => none
theorem intsL_eq : ∀ {ds : List D} {ns : List Int}, intsL ds = some ns → ds = ns.map D.int
  | [], _, h => by cases h; rfl
  | .int i :: ds, ns, h => by
    cases h2 : intsL ds with
    | none => rw [intsL, h2] at h; cases h
    | some ms =>
      rw [intsL, h2] at h
      cases h
      rw [intsL_eq h2]; rfl
  | .hole :: _, _, h => by cases h
  | .non :: _, _, h => by cases h
  | .bl _ :: _, _, h => by cases h
  | .str _ :: _, _, h => by cases h
  | .tup _ :: _, _, h => by cases h
  | .lst _ _ :: _, _, h => by cases h
  | .out _ :: _, _, h => by cases h
  | .dic _ _ _ :: _, _, h => by cases h
  | .dit _ _ _ :: _, _, h => by cases h
  | .dnk _ _ :: _, _, h => by cases h
  | .ins _ _ _ _ :: _, _, h => by cases h
theorem ownL_ints {F : Hp} : ∀ {ns : List Int} {vs : List V} {M : Hp}, OwnL G F (ns.map D.int) vs M → vs = ns.map V.int
  | [], _, _, h => h.1
  | n :: ns, _, _, h => by
    obtain ⟨v, r, M1, M2, rfl, j, ⟨rfl, _⟩, h2⟩ := h
    rw [ownL_ints h2]; rfl
def asInts : D → Option (List Int)
  | .lst _ ds => intsL ds
  | .out ds => intsL ds
  | _ => none
theorem own_asInts {F T H : Hp} {d : D} {v : V} {ns : List Int} (lF : Le F H) (lT : Le T H) (o : Own G F d v T) (h : asInts d = some ns) : ∃ a, v = .ref a ∧ SqL G.K H a (ns.map V.int) := by
  unfold asInts at h
  split at h
  · obtain ⟨a, vs, S, C, rfl, jc, w, g⟩ := own_lst o
    rw [intsL_eq h] at w
    rw [← ownL_ints w]
    exact ⟨a, rfl, .of (g H lF lT)⟩
  · obtain ⟨a, vs, rfl, rfl, g, w⟩ := o
    rw [intsL_eq h] at w
    rw [← ownL_ints w]
    exact ⟨a, rfl, sqL_le g lF⟩
  · cases h
/-- what one argument alone gives -/
def fInts (f : List Int → Option D) : List D → Option D
  | [d] => (asInts d).bind f
  | _ => none
theorem fn_ints {r : List V → Hp → VK → Prop} {f : List Int → Option D} (hr : ∀ {F N T R H : Hp} {a : Addr} {ns : List Int} {z : D} {Q : VK}, J [F, N, T, R] H → SqL G.K H a (ns.map V.int) → f ns = some z → (∀ v F' T' H', Le F F' → Le H H' → J [F', N, T', R] H' → Own G F' z v T' → Q v H') → r [.ref a] H Q) : FN G r (fInts f) := by
  intro F N T R H xs ds z Q j o hz k
  unfold fInts at hz
  split at hz
  · rename_i d
    obtain ⟨v, r1, M1, M2, rfl, jm, o1, rfl, rfl⟩ := o
    have e := (J.emp_iff.mp (jm.re [1, 0])).eq1
    subst e
    cases h : asInts d with
    | none => rw [h] at hz; cases hz
    | some ns =>
      rw [h] at hz
      obtain ⟨a, rfl, hs⟩ := own_asInts j.le (j.sub (by simp)) o1 h
      exact hr j hs hz k
  · cases hz
/-- the answer is a plain number -/
theorem plainI {F N T R H : Hp} {i : Int} {Q : VK} (j : J [F, N, T, R] H) (k : ∀ v F' T' H', Le F F' → Le H H' → J [F', N, T', R] H' → Own G F' (.int i) v T' → Q v H') : Q (.int i) H := by
  have dd := dump1 j
  exact k _ _ emp H dd.2.1 Le.refl dd.1 ⟨rfl, rfl⟩
def sumI (ns : List Int) : Option D := some (.int ns.sum)
theorem fn_sum : FN G (rSum G.K) (fInts sumI) := fn_ints fun j hs hz k => by
  cases hz
  exact ⟨_, _, rfl, hs, plainI j k⟩
/-- the greatest, the least -/
def maxOf : List Int → Int
  | [] => 0
  | n :: ns => ns.foldl max n
def minOf : List Int → Int
  | [] => 0
  | n :: ns => ns.foldl min n
theorem foldl_max_spec : ∀ (ns : List Int) (n : Int), n ≤ ns.foldl max n ∧ (∀ y ∈ ns, y ≤ ns.foldl max n) ∧ (ns.foldl max n = n ∨ ns.foldl max n ∈ ns)
  | [], n => ⟨Int.le_refl _, by simp, .inl rfl⟩
  | m :: ns, n => by
    obtain ⟨h1, h2, h3⟩ := foldl_max_spec ns (max n m)
    rw [List.foldl_cons]
    refine ⟨by omega, fun y hy => ?_, ?_⟩
    · rcases List.mem_cons.mp hy with rfl | hy
      · omega
      · exact h2 y hy
    · rcases h3 with h3 | h3
      · rw [h3]
        by_cases h : n ≤ m
        · exact .inr (by rw [show max n m = m by omega]; exact List.mem_cons_self)
        · exact .inl (by omega)
      · exact .inr (List.mem_cons_of_mem _ h3)
theorem foldl_min_spec : ∀ (ns : List Int) (n : Int), ns.foldl min n ≤ n ∧ (∀ y ∈ ns, ns.foldl min n ≤ y) ∧ (ns.foldl min n = n ∨ ns.foldl min n ∈ ns)
  | [], n => ⟨Int.le_refl _, by simp, .inl rfl⟩
  | m :: ns, n => by
    obtain ⟨h1, h2, h3⟩ := foldl_min_spec ns (min n m)
    rw [List.foldl_cons]
    refine ⟨by omega, fun y hy => ?_, ?_⟩
    · rcases List.mem_cons.mp hy with rfl | hy
      · omega
      · exact h2 y hy
    · rcases h3 with h3 | h3
      · rw [h3]
        by_cases h : m ≤ n
        · exact .inr (by rw [show min n m = m by omega]; exact List.mem_cons_self)
        · exact .inl (by omega)
      · exact .inr (List.mem_cons_of_mem _ h3)
theorem maxOf_spec {ns : List Int} (h : 0 < ns.length) : maxOf ns ∈ ns ∧ ∀ y ∈ ns, y ≤ maxOf ns := by
  cases ns with
  | nil => simp at h
  | cons n ns =>
    obtain ⟨h1, h2, h3⟩ := foldl_max_spec ns n
    refine ⟨?_, fun y hy => ?_⟩
    · rcases h3 with h3 | h3
      · show ns.foldl max n ∈ n :: ns
        rw [h3]; exact List.mem_cons_self
      · exact List.mem_cons_of_mem _ h3
    · rcases List.mem_cons.mp hy with rfl | hy
      · exact h1
      · exact h2 y hy
theorem minOf_spec {ns : List Int} (h : 0 < ns.length) : minOf ns ∈ ns ∧ ∀ y ∈ ns, minOf ns ≤ y := by
  cases ns with
  | nil => simp at h
  | cons n ns =>
    obtain ⟨h1, h2, h3⟩ := foldl_min_spec ns n
    refine ⟨?_, fun y hy => ?_⟩
    · rcases h3 with h3 | h3
      · show ns.foldl min n ∈ n :: ns
        rw [h3]; exact List.mem_cons_self
      · exact List.mem_cons_of_mem _ h3
    · rcases List.mem_cons.mp hy with rfl | hy
      · exact h1
      · exact h2 y hy
def maxI (ns : List Int) : Option D := if 0 < ns.length then some (.int (maxOf ns)) else none
def minI (ns : List Int) : Option D := if 0 < ns.length then some (.int (minOf ns)) else none
theorem fn_max : FN G (rMax G.K) (fInts maxI) := fn_ints fun {F N T R H a ns z Q} j hs hz k => by
  unfold maxI at hz
  split at hz
  · rename_i h0
    cases hz
    refine ⟨_, _, rfl, hs, h0, fun m hm hy => ?_⟩
    have s := maxOf_spec h0
    have : m = maxOf ns := Int.le_antisymm (s.2 m hm) (hy _ s.1)
    rw [this]
    exact plainI j k
  · cases hz
theorem fn_min : FN G (rMin G.K) (fInts minI) := fn_ints fun {F N T R H a ns z Q} j hs hz k => by
  unfold minI at hz
  split at hz
  · rename_i h0
    cases hz
    refine ⟨_, _, rfl, hs, h0, fun m hm hy => ?_⟩
    have s := minOf_spec h0
    have : m = minOf ns := Int.le_antisymm (hy _ s.1) (s.2 m hm)
    rw [this]
    exact plainI j k
  · cases hz
/-! two numbers, one number -/
def fInt2 (f : Int → Int → Int) : List D → Option D
  | [.int i, .int j] => some (.int (f i j))
  | _ => none
def fInt1 (f : Int → Int) : List D → Option D
  | [.int i] => some (.int (f i))
  | _ => none
theorem fn_int2 (f : Int → Int → Int) : FN G (fun xs H Q => ∃ i j, xs = [.int i, .int j] ∧ Q (.int (f i j)) H) (fInt2 f) := by
  intro F N T R H xs ds z Q j o hz k
  unfold fInt2 at hz
  split at hz
  · cases hz
    obtain ⟨v, r, M1, M2, rfl, jm, ⟨rfl, rfl⟩, v2, r2, M3, M4, rfl, jm2, ⟨rfl, rfl⟩, rfl, rfl⟩ := o
    exact ⟨_, _, rfl, plainI j k⟩
  · cases hz
theorem fn_int1 (f : Int → Int) : FN G (fun xs H Q => ∃ i, xs = [.int i] ∧ Q (.int (f i)) H) (fInt1 f) := by
  intro F N T R H xs ds z Q j o hz k
  unfold fInt1 at hz
  split at hz
  · cases hz
    obtain ⟨v, r, M1, M2, rfl, jm, ⟨rfl, rfl⟩, rfl, rfl⟩ := o
    exact ⟨_, rfl, plainI j k⟩
  · cases hz
def iMin (i j : Int) : Int := if j < i then j else i
def iMax (i j : Int) : Int := if j > i then j else i
def iAbs (i : Int) : Int := if i < 0 then -i else i
/-! sorted numbers -/
def lebI (b : Bool) (n m : Int) : Bool := if b then decide (m ≤ n) else decide (n ≤ m)
def insI (b : Bool) (n : Int) : List Int → List Int
  | [] => [n]
  | m :: ms => if lebI b n m = true then n :: m :: ms else m :: insI b n ms
def sortI (b : Bool) : List Int → List Int
  | [] => []
  | n :: ns => insI b n (sortI b ns)
theorem insI_perm (b : Bool) (n : Int) : ∀ ms, (insI b n ms).Perm (n :: ms)
  | [] => .refl _
  | m :: ms => by
    unfold insI
    split
    · exact .refl _
    · exact ((insI_perm b n ms).cons m).trans (.swap n m ms)
theorem sortI_perm (b : Bool) : ∀ ns, (sortI b ns).Perm ns
  | [] => .refl _
  | n :: ns => (insI_perm b n _).trans ((sortI_perm b ns).cons n)
/-- the order -/
def leB (b : Bool) (x y : Int) : Prop := if b then x ≥ y else x ≤ y
theorem ordB_iff {b : Bool} {ns : List Int} : OrdB b ns ↔ ns.Pairwise (leB b) := by
  cases b <;> exact Iff.rfl
theorem leB_trans {b : Bool} {x y z : Int} (h : leB b x y) (h2 : leB b y z) : leB b x z := by
  cases b <;> simp only [leB] at * <;> simp at * <;> omega
theorem leB_anti {b : Bool} {x y : Int} (h : leB b x y) (h2 : leB b y x) : x = y := by
  cases b <;> simp only [leB] at * <;> simp at * <;> omega
theorem insI_ord (b : Bool) (n : Int) : ∀ ms, ms.Pairwise (leB b) → (insI b n ms).Pairwise (leB b)
  | [], _ => by simp [insI]
  | m :: ms, h => by
    unfold insI
    split
    · rename_i c
      have c' : leB b n m := by cases b <;> simp [lebI, leB] at c ⊢ <;> omega
      refine List.pairwise_cons.mpr ⟨fun y hy => ?_, h⟩
      rcases List.mem_cons.mp hy with rfl | hy
      · exact c'
      · exact leB_trans c' ((List.pairwise_cons.mp h).1 y hy)
    · rename_i c
      have c' : leB b m n := by cases b <;> simp [lebI, leB] at c ⊢ <;> omega
      refine List.pairwise_cons.mpr ⟨fun y hy => ?_, insI_ord b n ms (List.pairwise_cons.mp h).2⟩
      rcases List.mem_cons.mp ((insI_perm b n ms).mem_iff.mp hy) with rfl | hy
      · exact c'
      · exact (List.pairwise_cons.mp h).1 y hy
theorem sortI_ord (b : Bool) : ∀ ns, (sortI b ns).Pairwise (leB b)
  | [] => List.Pairwise.nil
  | n :: ns => insI_ord b n _ (sortI_ord b ns)
theorem ord_uniq (b : Bool) : ∀ (xs ys : List Int), xs.Perm ys → xs.Pairwise (leB b) → ys.Pairwise (leB b) → xs = ys
  | [], ys, h, _, _ => (List.Perm.nil_eq h)
  | x :: xs, [], h, _, _ => (List.Perm.eq_nil h)
  | x :: xs, y :: ys, h, hx, hy => by
    have e : x = y := by
      rcases List.mem_cons.mp (h.mem_iff.mp (List.mem_cons_self (a := x) (l := xs))) with e | e
      · exact e
      · rcases List.mem_cons.mp (h.mem_iff.mpr (List.mem_cons_self (a := y) (l := ys))) with e2 | e2
        · exact e2.symm
        · exact leB_anti ((List.pairwise_cons.mp hx).1 y e2) ((List.pairwise_cons.mp hy).1 x e)
    subst e
    rw [ord_uniq b xs ys (List.Perm.cons_inv h) (List.pairwise_cons.mp hx).2 (List.pairwise_cons.mp hy).2]
theorem sortI_uniq {b : Bool} {ns ns' : List Int} (p : ns'.Perm ns) (o : ns'.Pairwise (leB b)) : ns' = sortI b ns := ord_uniq b _ _ (p.trans (sortI_perm b ns).symm) o (sortI_ord b ns)
def sortedI (b : Bool) (ns : List Int) : Option D := some (.lst true ((sortI b ns).map .int))
theorem fn_sorted : FN G (rSortedI G.K) (fInts (sortedI false)) := fn_ints (r := rSortedI G.K) (f := sortedI false) fun {F N T R H a ns z Q} j hs hz k => by
  cases hz
  refine ⟨_, _, rfl, hs, fun ns' p hp ho hn => ?_⟩
  rw [sortI_uniq (b := false) hp ho] at *
  have dd := dump1 j
  exact new_lst dd.1 (own_ints _) (fun v F' T' H' l => k v F' T' H' (dd.2.1.trans l)) p hn
theorem fn_sortedB (b : Bool) : FN G (fun xs H Q => rSortedKw G.K b [.bl b] xs [.bl b] H Q) (fInts (sortedI b)) := fn_ints (r := fun xs H Q => rSortedKw G.K b [.bl b] xs [.bl b] H Q) (f := sortedI b) fun {F N T R H a ns z Q} j hs hz k => by
  cases hz
  refine ⟨_, _, rfl, rfl, hs, fun ns' p hp ho hn => ?_⟩
  rw [sortI_uniq hp (ordB_iff.mp ho)] at *
  have dd := dump1 j
  exact new_lst dd.1 (own_ints _) (fun v F' T' H' l => k v F' T' H' (dd.2.1.trans l)) p hn
section
variable {X : Cx} {cl : Nat → Addr} {E : St → XK} {c : Bool} {k : Nat} {pos p p2 : Pos} {e e2 : Expr}
theorem re_sorted {m : M (List D)} (h : RA X cl Φ E c [e] m) (hm : X.mg "sorted" = none) (hg : Gl X "sorted" := by rfl) (he : starEach [e] X.env = (false, eval e X.env) :: starEach [] X.env := by rfl) (hpl : (backTo pos (starEach [] X.env)).any (·.1) = false := by rfl) :
    RE X cl Φ E c (.Call (.Name "sorted" p) [e] [] pos) (mFun (fInts (sortedI false)) m) := re_blt cr_sortedI fn_sorted hm (by decide +kernel) h hg (by decide) (by decide) he hpl
theorem re_sortedB {m : M (List D)} {b : Bool} {j : Nat} {kp : Pos} (h : RA X cl Φ E c [e] m) (hm : X.mg "sorted" = none) (hg : Gl X "sorted" := by rfl) (he : backTo pos (starEach [e] X.env) = (false, eval e X.env) :: backTo pos (starEach [] X.env) := by rfl) (hpl : (backTo pos (starEach [e] X.env)).any (·.1) = false := by rfl)
    (hall : (backToKw pos (keywordEach [⟨some "reverse", .Constant (.bool b) j p2, kp⟩] X.env)).all (·.1.isSome) = true := by rfl) (hnone : (backToKw pos (keywordEach [⟨some "reverse", .Constant (.bool b) j p2, kp⟩] X.env)).any (·.1.isNone) = false := by rfl) (hks : (backToKw pos (keywordEach [⟨some "reverse", .Constant (.bool b) j p2, kp⟩] X.env)).filterMap (·.1) = [Str.ofString "reverse"] := by rfl) :
    RE X cl Φ E c (.Call (.Name "sorted" p) [e] [⟨some "reverse", .Constant (.bool b) j p2, kp⟩] pos) (mFun (fInts (sortedI b)) m) :=
  ⟨(pe_callBK (cr_sortedRev (b := b)) hg hm (by decide +kernel) h.pa (pk_cons pe_bl pk_nil) (by decide) (by decide) he hpl hall hnone hks).weak fun σ H Q q => tA_fun (fn_sortedB b) q⟩
theorem re_sum {m : M (List D)} (κ : Kx X E k) (h : RA X cl Φ E c [e] m) (hm : X.mg "sum" = none) (hg : Gl X "sum" := by rfl) (he : starEach [e] X.env = (false, eval e X.env) :: starEach [] X.env := by rfl) (hpl : (backTo pos (starEach [] X.env)).any (·.1) = false := by rfl) :
    RE X cl Φ E c (.Call (.Name "sum" p) [e] [] pos) (mFun (fInts sumI) m) := re_blt (cr_sum κ.calm) fn_sum hm (by decide +kernel) h hg (by decide) (by decide) he hpl
theorem re_max {m : M (List D)} (κ : Kx X E k) (h : RA X cl Φ E c [e] m) (hm : X.mg "max" = none) (hg : Gl X "max" := by rfl) (he : starEach [e] X.env = (false, eval e X.env) :: starEach [] X.env := by rfl) (hpl : (backTo pos (starEach [] X.env)).any (·.1) = false := by rfl) :
    RE X cl Φ E c (.Call (.Name "max" p) [e] [] pos) (mFun (fInts maxI) m) := re_blt (cr_max κ.calm) fn_max hm (by decide +kernel) h hg (by decide) (by decide) he hpl
theorem re_min {m : M (List D)} (κ : Kx X E k) (h : RA X cl Φ E c [e] m) (hm : X.mg "min" = none) (hg : Gl X "min" := by rfl) (he : starEach [e] X.env = (false, eval e X.env) :: starEach [] X.env := by rfl) (hpl : (backTo pos (starEach [] X.env)).any (·.1) = false := by rfl) :
    RE X cl Φ E c (.Call (.Name "min" p) [e] [] pos) (mFun (fInts minI) m) := re_blt (cr_min κ.calm) fn_min hm (by decide +kernel) h hg (by decide) (by decide) he hpl
theorem re_max2 {m : M (List D)} (κ : Kx X E k) (h : RA X cl Φ E c [e, e2] m) (hm : X.mg "max" = none) (hg : Gl X "max" := by rfl) (he : starEach [e, e2] X.env = (false, eval e X.env) :: starEach [e2] X.env := by rfl) (hpl : (backTo pos (starEach [e2] X.env)).any (·.1) = false := by rfl) :
    RE X cl Φ E c (.Call (.Name "max" p) [e, e2] [] pos) (mFun (fInt2 iMax) m) := re_blt (call_max2 κ.calm) (fn_int2 iMax) hm (by decide +kernel) h hg (by decide) (by decide) he hpl
theorem re_min2 {m : M (List D)} (κ : Kx X E k) (h : RA X cl Φ E c [e, e2] m) (hm : X.mg "min" = none) (hg : Gl X "min" := by rfl) (he : starEach [e, e2] X.env = (false, eval e X.env) :: starEach [e2] X.env := by rfl) (hpl : (backTo pos (starEach [e2] X.env)).any (·.1) = false := by rfl) :
    RE X cl Φ E c (.Call (.Name "min" p) [e, e2] [] pos) (mFun (fInt2 iMin) m) := re_blt (call_min2 κ.calm) (fn_int2 iMin) hm (by decide +kernel) h hg (by decide) (by decide) he hpl
theorem re_abs {m : M (List D)} (h : RA X cl Φ E c [e] m) (hm : X.mg "abs" = none) (hg : Gl X "abs" := by rfl) (he : starEach [e] X.env = (false, eval e X.env) :: starEach [] X.env := by rfl) (hpl : (backTo pos (starEach [] X.env)).any (·.1) = false := by rfl) :
    RE X cl Φ E c (.Call (.Name "abs" p) [e] [] pos) (mFun (fInt1 iAbs) m) := re_blt call_abs (fn_int1 iAbs) hm (by decide +kernel) h hg (by decide) (by decide) he hpl
end
end Z

end
section
set_option maxRecDepth 100000
/-! ZF: an item of a named list, any index -/
namespace Z
open PySem PySem.Spec L2
open PyProof.Rows hiding St
section
variable {X : Cx} {cl : Nat → Addr} {Φ : St → Prop} {E : St → XK} {k : Nat} {pos p : Pos} {e : Expr}
theorem re_ixV {i : Nat} {x : Str} {mi : M D} (hp : PE X (.Name x p) (tVar i)) (hi : RE X cl Φ E false e mi) (hs : PlainIx e := by first | exact fun _ _ => rfl) : RE X cl Φ E false (.Subscript (.Name x p) e pos) (mTake (pIx (pVar i) mi)) := by
  refine ⟨(pe_ix (ix_list.or ix_tup) hp hi.pe.kf hs).weak fun σ H Q ⟨F, N, R, ρ, a, q⟩ => ?_⟩
  unfold mTake pIx pVar at q
  split at q
  · rename_i d e0
    split at q
    · exact q.elim
    · rename_i hn
      obtain ⟨ov, M1, Mr, s1, j, w, kk⟩ := rel_at a.2.1 e0
      obtain ⟨v, rfl, w1⟩ := ownO_of w (by rintro rfl; exact hn rfl)
      refine ⟨v, s1, F, N, R, ρ, a, ?_⟩
      simp only [O.bind] at q
      cases e2 : mi ρ with
      | no => rw [e2] at q; exact q
      | ex k ρ' => rw [e2] at q; exact q
      | ok y ρ2 =>
        rw [e2] at q
        intro w F2 N2 T2 H2 l2 k2 j2 r2 o2 kf
        cases y with
        | int z =>
          simp only at q
          cases g2 : getR ρ2 (i, [] ++ [Stp.at z]) with
          | none => rw [g2] at q; exact q.elim
          | some d2 =>
            rw [g2] at q
            simp only at q
            cases hn2 : isHole d2 with
            | true => rw [hn2] at q; exact q.elim
            | false =>
              rw [hn2] at q
              simp only [Bool.false_eq_true, if_false, g2] at q
              obtain ⟨rfl, rfl⟩ := o2
              have j3 := emp_out j2
              obtain ⟨v0, u, M1', Mr', s2, jm, ow, at2, kk'⟩ := rel_path (G := gx X cl) r2 g2 hn2
              have s2 : σ[i]? = some (some v0) := s2
              rw [s1] at s2; cases s2
              have a3 := at2 H2 j3.le (j3.sub (by simp))
              have fin : ∀ u', AtP X.K H2 v [.at z] u' → Q u' H2 := fun u' at1 => by
                obtain ⟨M1, Mr, jm, ow, kk⟩ := place (G := gx X cl) j3 r2 g2 hn2 kf s1 at1
                have j4 : J [M1, Mr, F2, R] H2 := J.nest (xs := [F2, R]) jm (j3.re [1, 0, 2])
                have j5 := (j4.re [2, 1, 0, 3]).give
                have o3 := own_frz ow j5.2.1 j5.2.2
                have r3 := kk _ (frz d2) emp Mr j5.2.1 o3 (J.emp_iff.mpr J.self) (.inl rfl)
                split at q
                · rename_i hs
                  rw [frz_shr hs] at o3 r3
                  rw [setR_get g2] at r3
                  exact q u' _ Mr emp H2 (l2.trans j5.2.1) (fun z => nomatch z) (emp_in j5.1) r3 o3
                · rw [hn2] at q
                  exact q u' _ Mr emp H2 (l2.trans j5.2.1) (fun z => nomatch z) (emp_in j5.1) r3 o3
              obtain ⟨u, hu, hx⟩ := (show ∃ u, AtS X.K H2 v (.at z) u ∧ _ from a3)
              have hf := fin u ⟨u, hu, rfl⟩
              obtain ⟨b, vs, rfl, hq, hv⟩ := hu
              rcases hq with hq | hq
              · exact .inl ⟨b, vs, z, u, rfl, rfl, hq, hv, hf⟩
              · exact .inr ⟨b, vs, z, u, rfl, rfl, hq, hv, hf⟩
        | _ => exact q.elim
  · exact q.elim
end
end Z

end
section
set_option maxRecDepth 100000
/-! ZG: a slot held still -/
namespace Z
open PySem PySem.Spec L2
open PyProof.Rows hiding St
section
variable {X : Cx} {cl : Nat → Addr} {Φ : St → Prop} {E : St → XK} {c : Bool} {k : Nat} {e : Expr}
theorem re_loc {m : M D} (h : ∀ σ0, RE X cl (fun σ => σ0 = σ) E c e m) : RE X cl Φ E c e m :=
  ⟨⟨fun pins s σ H Q I ⟨F, N, R, ρ, a, q⟩ => (h σ).pe.run pins s σ H Q I ⟨F, N, R, ρ, ⟨a.1, a.2.1, rfl⟩, q⟩⟩⟩
theorem loc_same {i : Nat} {σ0 : St} : ∀ σ σ' : St, σ0 = σ → σ0 = σ' → σ[i]? = σ'[i]? := fun σ σ' a b => by rw [← a, ← b]
theorem rs_hold (i : Nat) {st : Stmt} {m : M Fl} (h : ∀ v0, RS X cl (fun σ => Φ σ ∧ σ[i]? = v0) E st m) : RS X cl Φ E st m := by
  refine ⟨⟨fun pins s σ H D I ⟨F, N, R, ρ, a, q⟩ => (h σ[i]?).ps.run pins s σ H D I ⟨F, N, R, ρ, ⟨a.1, a.2.1, a.2.2, rfl⟩, ?_⟩⟩⟩
  cases hm : m ρ with
  | no => rw [hm] at q; exact q
  | ex k ρ' => rw [hm] at q; exact fun σ' f => q σ' f.1
  | ok f ρ' =>
    rw [hm] at q
    cases f with
    | nx => exact fun F' N' H' σ' l b => q F' N' H' σ' l ⟨b.1, b.2.1, b.2.2.1⟩
    | bk => exact fun F' N' H' σ' l b => q F' N' H' σ' l ⟨b.1, b.2.1, b.2.2.1⟩
    | ct => exact fun F' N' H' σ' l b => q F' N' H' σ' l ⟨b.1, b.2.1, b.2.2.1⟩
    | rt d => exact fun v F' N' T H' σ' l j r f o => q v F' N' T H' σ' l j r f.1 o
theorem hold_same {i : Nat} {v0 : Option (Option V)} : ∀ σ σ' : St, (Φ σ ∧ σ[i]? = v0) → (Φ σ' ∧ σ'[i]? = v0) → σ[i]? = σ'[i]? := fun σ σ' a b => a.2.trans b.2.symm
theorem keep_and {i j : Nat} {v0 : Option (Option V)} (h : ∀ σ v, Φ σ → Φ (σ.set i (some v))) (n : i ≠ j) : ∀ σ v, (Φ σ ∧ σ[j]? = v0) → (Φ (σ.set i (some v)) ∧ (σ.set i (some v))[j]? = v0) := fun σ v a => ⟨h σ v a.1, by rw [List.getElem?_set_ne n]; exact a.2⟩
end
end Z

end
section
set_option maxRecDepth 100000
/-! ZH: dicts -/
namespace Z
open PySem PySem.Spec L2
open PyProof.Rows hiding St
section
variable {X : Cx} {pins : List (Addr × Obj)} {σ : St} {H : Hp} {s : Shared} {a : Addr} {y v : V} {u r : Value} {A : Around} {E : Value → Shared → Prop}
theorem d_dictSet {H' : Hp} {Q : Unit → Shared → Prop} (hu : A.units + 1 < cLine) (I : Inv X pins σ H s) (g : DPut H a y v H') (ry : RelV y u) (rv : RelV v r) (h : ∀ s', Inv X pins σ H' s' → Q () s') :
    wpAny (model X.prog X.w) A (dictSet a u r) Q E s := by
  rcases g with ⟨kvs, k, e, ey, l, eH⟩ | ⟨kvs, k, b, e, ey, eb, l, eH⟩
  · subst ey eH
    obtain ⟨z, hd, vs, rel, dd⟩ := dk_of I.hok e
    have hz : vs.length ≤ sizeLine := by rw [← rel.length]; exact z
    have hl : (putK kvs k v).length ≤ sizeLine := by have := length_putK kvs k v; omega
    refine wpAny_dictSet_pairs (hsz := hz) (kV_is ry) dd fun h' dd' hs => h _ ?_
    have he : ∃ q, h'.get? a = some q := let ⟨q, _, _, hq, _⟩ := dd'; ⟨q, hq⟩
    exact d_write I (by rw [e]; exact True.intro) hs he (dk_new hl hd (rel.put k rv) dd')
  · subst ey eH
    cases (show u = Value.ref b from ry)
    obtain ⟨z, hd, xs, rel, dd⟩ := dt_of I.hok e
    have hz : xs.length ≤ sizeLine := by rw [← Paired.length rel]; exact z
    have hl : (putK kvs k v).length ≤ sizeLine := by have := length_putK kvs k v; omega
    refine wpAny_dictSet_heap (hsz := hz) (show A.units < cLine from Nat.lt_of_succ_lt hu) (key_of I.hok eb) dd fun h' dd' hs => h _ ?_
    obtain ⟨q, es, ep, hq, h2, h3, h4, _, h5⟩ := dd'
    refine d_write I (by rw [e]; exact True.intro) hs ⟨q, hq⟩ ⟨hl, hd, _, (rel.put k eb rv).keeps fun c ys ec => ?_, q, es, ep, hq, h2, h3, h4, h5⟩
    rw [upd_ne (ne_of ec e (fun z => nomatch z))]
    exact ec
end
/-- the pairs are put in, from the left -/
def Puts (p : Addr) : List (V × V) → Hp → (Hp → Prop) → Prop
  | [], H, Q => Q H
  | (y, v) :: r, H, Q => ∃ H', DPut H p y v H' ∧ Puts p r H' Q
def tDispD (ob : HO) (trs : List (TE × TE)) : TE := fun σ H Q => ∀ p, H p = none → tPairs trs σ (upd H p ob) fun ps H2 => Puts p ps H2 fun H3 => Q (.ref p) H3
theorem store_all {X : Cx} {pins : List (Addr × Obj)} {σ : St} {A : Around} {E : Value → Shared → Prop} {d : Addr} (hu : A.units + 1 < cLine) : ∀ {ps : List (V × V)} {ws : List (Value × Value)} {H : Hp} {s : Shared} {Q : Hp → Prop} {R : PUnit → Shared → Prop}, VV ps ws → Inv X pins σ H s → Puts d ps H Q →
    (∀ H' s', Inv X pins σ H' s' → Q H' → R () s') → wpAny (model X.prog X.w) A (storeAll d ws) R E s
  | [], _, H, s, Q, R, r, I, q, k => by
    cases r
    unfold storeAll
    rw [List.forIn_nil]
    exact wpAny_pure (k H s I q)
  | (y, v) :: ps, _, H, s, Q, R, r, I, q, k => by
    cases r with
    | @cons a b as bs h t =>
      obtain ⟨b1, b2⟩ := b
      obtain ⟨H', g, q⟩ := q
      unfold storeAll
      rw [List.forIn_cons]
      refine wpAny_bind (wpAny_bind (d_dictSet hu I g h.1 h.2 fun s' I' => wpAny_pure ?_))
      exact store_all hu t I' q k
theorem pe_dispD {X : Cx} {pos : Pos} {keys : List (Option Expr)} {values : List Expr} {trs : List (TE × TE)} (hu : X.A.units + 1 < cLine) (b : Bool) (h : PPs X pos keys values trs) (hall : keys.all (·.isSome) = true) (hl : keys.length = values.length) (h0 : keys ≠ [])
    (h15 : keys.length ≤ 15) : PE X (.Dict keys values pos) (tDispD (if b then .dT [] else .dK []) trs) := by
  refine ⟨fun pins s σ H Q I q => ?_⟩
  have hn := I.hok.fresh (Nat.le_refl s.heap.objs.size)
  have I1 : Inv X pins σ (upd H s.heap.objs.size (if b then .dT [] else .dK [])) { s with heap := s.heap.push { cls := .type "dict", data := .dict #[] }, toks := s.toks } := by
    cases b with
    | true => exact I.laid (a := s.heap.objs.size) (o := .dT []) (h' := s.heap.push { cls := .type "dict", data := .dict #[] }) (t' := s.toks) (fun _ _ q => Heap.get?_push_of_some _ q) (Nat.le_refl _) (dt_empty s.heap I.big)
    | false => exact I.laid (a := s.heap.objs.size) (o := .dK []) (h' := s.heap.push { cls := .type "dict", data := .dict #[] }) (t' := s.toks) (fun _ _ q => Heap.get?_push_of_some _ q) (Nat.le_refl _) (dk_empty s.heap I.big)
  refine wpAny_Dict_any hall hl h0 h15 (thn (h.run pins _ σ _ _ I1 (q _ hn)) fun ws s2 ⟨ps, H2, I2, rel, q2⟩ => ?_)
  exact store_all hu rel I2 q2 fun H' s' I' q' => ⟨.ref _, H', I', rfl, q'⟩
/-! keys -/
def keyD : D → Option Key
  | .int i => some (.inl i)
  | .str x => some (.inr x)
  | _ => none
def keysD : List D → Option (List Key)
  | [] => some []
  | d :: ds => match keyD d, keysD ds with
    | some k, some ks => some (k :: ks)
    | _, _ => none
section
variable {G : Gx} {Φ : St → Prop}
theorem own_key {F M : Hp} {d : D} {v : V} {k : Key} (o : Own G F d v M) (h : keyD d = some k) : v = kV k ∧ M = emp := by
  cases d <;> first | (cases h; done) | skip
  · cases h; exact o
  · cases h; exact o
theorem ownL_keys {F : Hp} : ∀ {ds : List D} {vs : List V} {M : Hp} {ks : List Key}, OwnL G F ds vs M → keysD ds = some ks → vs = ks.map kV
  | [], _, _, _, o, h => by cases h; exact o.1
  | d :: ds, vs, M, ks, o, h => by
    obtain ⟨v, r, M1, M2, rfl, j, o1, o2⟩ := o
    rw [keysD] at h
    split at h
    · rename_i k ks' h1 h2
      cases h
      rw [(own_key o1 h1).1, ownL_keys o2 h2]; rfl
    · cases h
theorem own_tupH {F : Hp} {ds : List D} {v : V} {T : Hp} (h : Own G F (.tup ds) v T) : ∃ a vs S C, v = .ref a ∧ J [S, C] T ∧ OwnL G F ds vs C ∧ ∀ H, Le F H → Le T H → H a = some (.tup vs) := by
  obtain ⟨a, vs, rfl, h⟩ := h
  rcases h with ⟨rfl, q, r⟩ | ⟨M', j, r⟩
  · exact ⟨a, vs, emp, emp, rfl, J.emps, r, fun H l _ => l _ _ q⟩
  · exact ⟨a, vs, _, M', rfl, j, r, fun H _ m => m _ _ (j.le _ _ one_same)⟩
/-- what a dict holds at a key -/
def valD {κ : Type} [DecidableEq κ] (ks : List κ) (ds : List D) (q : κ) : Option D := ((ks.zip ds).find? fun kv => decide (kv.1 = q)).map (·.2)
theorem val_own {κ : Type} [DecidableEq κ] {F : Hp} (q : κ) : ∀ {ks : List κ} {ds : List D} {vs : List V} {M : Hp}, OwnL G F ds vs M → ks.length = ds.length →
    (valD ks ds q = none → valV (ks.zip vs) q = none) ∧ ∀ e, valD ks ds q = some e → ∃ v M1, valV (ks.zip vs) q = some v ∧ Le M1 M ∧ Own G F e v M1
  | [], _, _, _, _, _ => ⟨fun _ => rfl, fun e h => by cases h⟩
  | k :: ks, [], _, _, _, h => by cases h
  | k :: ks, d :: ds, vs, M, o, h => by
    obtain ⟨v, r, M1, M2, rfl, j, o1, o2⟩ := o
    have ih := val_own q o2 (by simpa using h)
    by_cases c : k = q
    · refine ⟨fun z => ?_, fun e z => ?_⟩
      · simp [valD, List.find?_cons, c] at z
      · simp [valD, List.find?_cons, c] at z
        subst z
        exact ⟨v, M1, by simp [valV, List.find?_cons, c], j.sub (by simp), o1⟩
    · refine ⟨fun z => ?_, fun e z => ?_⟩
      · have z' : valD ks ds q = none := by simpa [valD, List.find?_cons, c] using z
        have := ih.1 z'
        simpa [valV, List.find?_cons, c] using this
      · have z' : valD ks ds q = some e := by simpa [valD, List.find?_cons, c] using z
        obtain ⟨v', M1', a1, a2, a3⟩ := ih.2 e z'
        exact ⟨v', M1', by simpa [valV, List.find?_cons, c] using a1, a2.trans (j.sub (by simp)), a3⟩
def isDct : D → Bool
  | .dic _ _ _ => true
  | .dit _ _ _ => true
  | _ => false
def dGet : D → D → Option (Option D)
  | .dic _ ks ds, k => (keyD k).map fun q => valD ks ds q
  | .dit _ ks ds, .tup es => (keysD es).map fun q => valD ks ds q
  | _, _ => none
theorem own_dic {F H : Hp} {o : Bool} {ks : List Key} {ds : List D} {v : V} {T : Hp} (h : Own G F (.dic o ks ds) v T) (lF : Le F H) (lT : Le T H) : ∃ a vs C, v = .ref a ∧ ks.length = ds.length ∧ Le C T ∧ OwnL G F ds vs C ∧ Rd H a (.dK (ks.zip vs)) := by
  obtain ⟨a, vs, rfl, n, h⟩ := h
  rcases h with ⟨_, rfl, q, r⟩ | ⟨_, M', j, r⟩
  · exact ⟨a, vs, emp, rfl, n, Le.refl, r, Rd.le q lF⟩
  · exact ⟨a, vs, M', rfl, n, j.sub (by simp), r, .inl (lT _ _ (j.le _ _ one_same))⟩
theorem own_dit {F H : Hp} {o : Bool} {ks : List (List Key)} {ds : List D} {v : V} {T : Hp} (h : Own G F (.dit o ks ds) v T) (lF : Le F H) (lT : Le T H) : ∃ a vs C, v = .ref a ∧ ks.length = ds.length ∧ Le C T ∧ OwnL G F ds vs C ∧ Rd H a (.dT (ks.zip vs)) := by
  obtain ⟨a, vs, rfl, n, h⟩ := h
  rcases h with ⟨_, rfl, q, r⟩ | ⟨_, M', j, r⟩
  · exact ⟨a, vs, emp, rfl, n, Le.refl, r, Rd.le q lF⟩
  · exact ⟨a, vs, M', rfl, n, j.sub (by simp), r, .inl (lT _ _ (j.le _ _ one_same))⟩
theorem own_isDct {F H T : Hp} {d : D} {v : V} (lF : Le F H) (lT : Le T H) (o : Own G F d v T) (h : isDct d = true) : ∃ a, v = .ref a ∧ IsD H a := by
  cases d <;> first | (cases h; done) | skip
  · obtain ⟨a, vs, C, rfl, _, _, _, r⟩ := own_dic o lF lT
    exact ⟨a, rfl, .inl ⟨_, r⟩⟩
  · obtain ⟨a, vs, C, rfl, _, _, _, r⟩ := own_dit o lF lT
    exact ⟨a, rfl, .inr ⟨_, r⟩⟩
theorem own_dget {F H T M : Hp} {d k : D} {a : Addr} {y : V} {r : Option D} (lF : Le F H) (lT : Le T H) (lM : Le M H) (o : Own G F d (.ref a) T) (o2 : Own G F k y M) (h : dGet d k = some r) :
    ∃ x, DGet H a y x ∧ (r = none → x = none) ∧ ∀ e, r = some e → ∃ v M1, x = some v ∧ Le M1 T ∧ Own G F e v M1 := by
  cases d <;> first | (cases h; done) | skip
  · rename_i ob ks ds
    obtain ⟨b, vs, C, e, n, lC, w, rd⟩ := own_dic o lF lT
    cases e
    cases hk : keyD k with
    | none => rw [dGet, hk] at h; cases h
    | some q =>
      rw [dGet, hk] at h
      cases h
      obtain ⟨z1, z2⟩ := val_own q w n
      refine ⟨_, .inl ⟨_, q, rd, (own_key o2 hk).1, rfl⟩, z1, fun e he => ?_⟩
      obtain ⟨v, M1, a1, a2, a3⟩ := z2 e he
      exact ⟨v, M1, a1, a2.trans lC, a3⟩
  · rename_i ob ks ds
    cases k <;> first | (cases h; done) | skip
    rename_i es
    obtain ⟨b, vs, C, e, n, lC, w, rd⟩ := own_dit o lF lT
    cases e
    cases hk : keysD es with
    | none => rw [dGet, hk] at h; cases h
    | some q =>
      rw [dGet, hk] at h
      cases h
      obtain ⟨z1, z2⟩ := val_own q w n
      obtain ⟨c, ws, S, C2, rfl, j2, w2, g⟩ := own_tupH o2
      have ew := ownL_keys w2 hk
      refine ⟨_, .inr ⟨_, q, c, rd, rfl, by rw [← ew]; exact g H lF lM, rfl⟩, z1, fun e he => ?_⟩
      obtain ⟨v, M1, a1, a2, a3⟩ := z2 e he
      exact ⟨v, M1, a1, a2.trans lC, a3⟩
variable {E : St → XK} {c c1 c2 : Bool} {σ : St} {H : Hp}
/-- o.get(k, z) -/
def mDGet2 (mo : M D) (mk mz : M D) : M D := fun ρ => (mo ρ).bind fun d ρ1 => if isDct d = true then (mCons mk (mCons mz mNil) ρ1).bind fun as ρ2 => match as with
  | [k, z] => (match dGet d k with
    | some r => if shr (r.getD z) = true then .ok (r.getD z) ρ2 else .no
    | none => .no)
  | _ => .no
  else .no
theorem tE_dget2 {mo mk mz : M D} {Q : VK} (h : tE G Φ E false (mDGet2 mo mk mz) σ H Q) : tDGet2 (tE G Φ E c1 mo) (tE G Φ E false mk) (tE G Φ E false mz) σ H Q := by
  obtain ⟨F, N, R, ρ, a, q⟩ := h
  refine ⟨F, N, R, ρ, a, ?_⟩
  unfold mDGet2 at q
  cases e : mo ρ with
  | no => rw [e] at q; exact q
  | ex k ρ' => rw [e] at q; exact q
  | ok d ρ1 =>
    rw [e] at q
    intro v F1 N1 T1 H1 l1 k1 j1 r1 o1
    simp only [O.bind] at q
    by_cases hd : isDct d = true
    · rw [if_pos hd] at q
      obtain ⟨p, rfl, isd⟩ := own_isDct j1.le (j1.sub (by simp)) o1 hd
      refine ⟨p, rfl, isd, ?_⟩
      have jt : J [T1, R] (un T1 R) := (j1.re [2, 3, 0, 1]).join.1
      have ta : tA G Φ E false (mCons mk (mCons mz mNil)) σ H1 (fun vs H3 => ∃ y z, vs = [y, z] ∧ ∃ o, DGet H3 p y o ∧ Q (o.getD z) H3) := by
        refine ⟨F1, N1, un T1 R, ρ1, ⟨j1.hide, r1, a.2.2⟩, ?_⟩
        cases e1 : mCons mk (mCons mz mNil) ρ1 with
        | no => rw [e1] at q; exact q
        | ex k ρ' => rw [e1] at q; exact PX.more q l1 jt
        | ok as ρ2 =>
          rw [e1] at q
          intro ws F2 N2 T2 H2 l2 k2 j2 r2 o2
          have j3 : J [F2, N2, T1, T2, R] H2 := (J.unhide (ys := [T2]) jt (j2.re [0, 1, 3, 2])).re [0, 1, 2, 4, 3]
          simp only at q
          split at q
          · rename_i kd zd
            obtain ⟨y, ws1, M1, M2, rfl, jm, oy, z, ws2, M3, M4, rfl, jm2, oz, rfl, rfl⟩ := o2
            cases hg : dGet d kd with
            | none => rw [hg] at q; exact q.elim
            | some r =>
              rw [hg] at q
              simp only at q
              by_cases hs : shr (r.getD zd) = true
              · rw [if_pos hs] at q
                have dd := dump2 j3
                have lT1 : Le T1 H2 := j3.sub (by simp)
                have lT2 : Le T2 H2 := j3.sub (by simp)
                have lM1 : Le M1 T2 := jm.sub (by simp)
                have lM3 : Le M3 T2 := (jm2.sub (by simp) : Le M3 M2).trans (jm.sub (by simp))
                obtain ⟨x, g, n1, n2⟩ := own_dget j3.le lT1 (lM1.trans lT2) (own_le l2 o1) oy hg
                refine ⟨y, z, rfl, x, g, ?_⟩
                cases r with
                | none =>
                  rw [n1 rfl]
                  have oz' := own_frz oz dd.2.1 (lM3.trans dd.2.2.2)
                  have hs' : shr zd = true := hs
                  rw [frz_shr hs'] at oz'
                  exact q z _ N2 emp H2 ((l1.trans l2).trans dd.2.1) (fun z => nomatch z) dd.1 (rel_le dd.2.1 r2) oz'
                | some ed =>
                  obtain ⟨v, M5, rfl, l5, ov⟩ := n2 ed rfl
                  have ov' := own_frz ov dd.2.1 (l5.trans dd.2.2.1)
                  have hs' : shr ed = true := hs
                  rw [frz_shr hs'] at ov'
                  exact q v _ N2 emp H2 ((l1.trans l2).trans dd.2.1) (fun z => nomatch z) dd.1 (rel_le dd.2.1 r2) ov'
              · rw [if_neg hs] at q; exact q.elim
          · exact q.elim
      have t1 := tA_cons (c1 := false) (c2 := false) ta
      refine tE_mono t1 fun y H2 w => ?_
      have t2 := tA_cons (c1 := false) (c2 := false) w
      refine tE_mono t2 fun z H3 w2 => ?_
      obtain ⟨y', z', e', w3⟩ := tA_nil w2
      cases e'
      exact w3
    · rw [if_neg hd] at q; exact q.elim
/-! displays -/
/-- a flat list of keys and values: the pairs; keys all different -/
def tkD : D → Option (List Key)
  | .tup es => keysD es
  | _ => none
def mkT : List D → Option (List (List Key) × List D)
  | [] => some ([], [])
  | [_] => none
  | k :: v :: r => (match tkD k, mkT r with
    | some k, some (a, b) => if (a.any fun x => decide (x = k)) = true then none else some (k :: a, v :: b)
    | _, _ => none)
theorem own_tk {F M : Hp} {d : D} {v : V} {k : List Key} (o : Own G F d v M) (h : tkD d = some k) : ∃ c, v = .ref c ∧ ∀ H, Le F H → Le M H → H c = some (.tup (k.map kV)) := by
  cases d <;> first | (cases h; done) | skip
  obtain ⟨c, us, S, C2, rfl, j2, w2, g⟩ := own_tupH o
  have ew := ownL_keys w2 h
  exact ⟨c, rfl, fun H l m => by rw [← ew]; exact g H l m⟩
def mkK : List D → Option (List Key × List D)
  | [] => some ([], [])
  | [_] => none
  | k :: v :: r => (match keyD k, mkK r with
    | some k, some (a, b) => if (a.any fun x => decide (x = k)) = true then none else some (k :: a, v :: b)
    | _, _ => none)
def mDicT (m : M (List D)) : M D := fun ρ => (m ρ).bind fun ds ρ1 => match mkT ds with
  | some (ks, es) => if ks.length < 16 then .ok (.dit true ks es) ρ1 else .no
  | none => .no
def mDicK (m : M (List D)) : M D := fun ρ => (m ρ).bind fun ds ρ1 => match mkK ds with
  | some (ks, es) => if ks.length < 16 then .ok (.dic true ks es) ρ1 else .no
  | none => .no
def unpair : List V → List (V × V)
  | a :: b :: r => (a, b) :: unpair r
  | _ => []
theorem put_new {κ : Type} [DecidableEq κ] {kvs : List (κ × V)} {k : κ} {v : V} (h : ∀ kv ∈ kvs, kv.1 ≠ k) : putK kvs k v = kvs ++ [(k, v)] := by
  unfold putK
  rw [if_neg]
  rw [List.any_eq_true]
  rintro ⟨kv, h1, h2⟩
  exact h kv h1 (by simpa using h2)
theorem puts_T {F R : Hp} {p : Addr} {Q : Hp → Prop} : ∀ {ds : List D} {ks : List (List Key)} {es : List D} {vs : List V} {N T C H : Hp} {kvs : List (List Key × V)}, mkT ds = some (ks, es) → OwnL G F ds vs T → J [F, T, C, one p (.dT kvs), N, R] H →
    (∀ kv ∈ kvs, kv.1 ∉ ks) → kvs.length + ks.length < 1000 →
    (∀ ws C' Z H', OwnL G F es ws C' → J [F, C', Z, C, one p (.dT (kvs ++ ks.zip ws)), N, R] H' → Q H') → Puts p (unpair vs) H Q
  | [], ks, es, vs, N, T, C, H, kvs, h, o, j, hn, hl, k => by
    cases h
    obtain ⟨rfl, rfl⟩ := o
    refine k [] emp emp H ⟨rfl, rfl⟩ ?_
    rw [List.zip_nil_left, List.append_nil]
    exact (J.emp_iff.mpr j).re [1, 2, 0, 3, 4, 5, 6]
  | [_], _, _, _, _, _, _, _, _, h, _, _, _, _, _ => by cases h
  | kd :: vd :: r, ks, es, vs, N, T, C, H, kvs, h, o, j, hn, hl, k => by
    rw [mkT] at h
    split at h
    · rename_i kk a b h1 h2
      split at h
      · cases h
      · rename_i hc
        cases h
        obtain ⟨y, ws1, M1, M2, rfl, jm, oy, z, ws2, M3, M4, rfl, jm2, oz, orr⟩ := o
        obtain ⟨c, rfl, g⟩ := own_tk oy h1
        have lT : Le T H := j.sub (by simp)
        have hk := g H j.le ((jm.sub (by simp) : Le M1 T).trans lT)
        have hp : H p = some (.dT kvs) := (j.re [3, 0, 1, 2, 4, 5]).at
        have hne : ∀ kv ∈ kvs, kv.1 ≠ kk := fun kv hkv e => hn kv hkv (by rw [e]; simp)
        rw [List.length_cons] at hl
        refine ⟨_, .inr ⟨kvs, kk, c, hp, rfl, hk, by rw [sizeLine_eq]; omega, rfl⟩, ?_⟩
        rw [put_new hne]
        have jw := (j.re [3, 0, 1, 2, 4, 5]).write (o' := .dT (kvs ++ [(kk, z)]))
        have j1 : J [M1, M2, one p (.dT (kvs ++ [(kk, z)])), F, C, N, R] _ := J.nest (xs := [one p (.dT (kvs ++ [(kk, z)])), F, C, N, R]) jm (jw.re [2, 0, 1, 3, 4, 5])
        have j2 : J [M3, M4, M1, one p (.dT (kvs ++ [(kk, z)])), F, C, N, R] _ := J.nest (xs := [M1, one p (.dT (kvs ++ [(kk, z)])), F, C, N, R]) jm2 (j1.re [1, 0, 2, 3, 4, 5, 6])
        obtain ⟨jA, jB⟩ := (j2.re [0, 2, 5, 4, 1, 3, 6, 7]).join
        obtain ⟨jC, jD⟩ := jB.join
        refine puts_T (kvs := kvs ++ [(kk, z)]) (C := un (un M3 M1) C) h2 orr (jD.re [1, 2, 0, 3, 4, 5]) ?_ (by rw [List.length_append]; simp; omega) ?_
        · intro kv hkv
          rcases List.mem_append.mp hkv with hkv | hkv
          · exact fun m => hn kv hkv (by simp [m])
          · rw [List.mem_singleton] at hkv
            subst hkv
            intro m
            exact hc (List.any_eq_true.mpr ⟨_, m, by simp⟩)
        · intro ws C' Z H' ow jj
          have jE : J [un M3 M1, C, C', Z, F, one p (.dT (kvs ++ [(kk, z)] ++ a.zip ws)), N, R] H' := J.nest (xs := [C', Z, F, one p (.dT (kvs ++ [(kk, z)] ++ a.zip ws)), N, R]) jC (jj.re [3, 1, 2, 0, 4, 5, 6])
          have jF : J [M3, M1, C, C', Z, F, one p (.dT (kvs ++ [(kk, z)] ++ a.zip ws)), N, R] H' := J.nest (xs := [C, C', Z, F, one p (.dT (kvs ++ [(kk, z)] ++ a.zip ws)), N, R]) jA jE
          obtain ⟨jG, jH⟩ := (jF.re [0, 3, 1, 4, 2, 5, 6, 7, 8]).join
          obtain ⟨jI, jK⟩ := (jH.re [1, 2, 0, 3, 4, 5, 6, 7]).join
          rw [List.append_assoc] at jK
          exact k (z :: ws) _ _ H' ⟨z, ws, M3, C', rfl, jG, oz, ow⟩ (jK.re [3, 1, 0, 2, 4, 5, 6])
    · cases h
theorem puts_K {F R : Hp} {p : Addr} {Q : Hp → Prop} : ∀ {ds : List D} {ks : List Key} {es : List D} {vs : List V} {N T C H : Hp} {kvs : List (Key × V)}, mkK ds = some (ks, es) → OwnL G F ds vs T → J [F, T, C, one p (.dK kvs), N, R] H →
    (∀ kv ∈ kvs, kv.1 ∉ ks) → kvs.length + ks.length < 1000 →
    (∀ ws C' Z H', OwnL G F es ws C' → J [F, C', Z, C, one p (.dK (kvs ++ ks.zip ws)), N, R] H' → Q H') → Puts p (unpair vs) H Q
  | [], ks, es, vs, N, T, C, H, kvs, h, o, j, hn, hl, k => by
    cases h
    obtain ⟨rfl, rfl⟩ := o
    refine k [] emp emp H ⟨rfl, rfl⟩ ?_
    rw [List.zip_nil_left, List.append_nil]
    exact (J.emp_iff.mpr j).re [1, 2, 0, 3, 4, 5, 6]
  | [_], _, _, _, _, _, _, _, _, h, _, _, _, _, _ => by cases h
  | kd :: vd :: r, ks, es, vs, N, T, C, H, kvs, h, o, j, hn, hl, k => by
    rw [mkK] at h
    split at h
    · rename_i kk a b h1 h2
      split at h
      · cases h
      · rename_i hc
        cases h
        obtain ⟨y, ws1, M1, M2, rfl, jm, oy, z, ws2, M3, M4, rfl, jm2, oz, orr⟩ := o
        obtain ⟨rfl, _⟩ := own_key oy h1
        have hp : H p = some (.dK kvs) := (j.re [3, 0, 1, 2, 4, 5]).at
        have hne : ∀ kv ∈ kvs, kv.1 ≠ kk := fun kv hkv e => hn kv hkv (by rw [e]; simp)
        rw [List.length_cons] at hl
        refine ⟨_, .inl ⟨kvs, kk, hp, rfl, by rw [sizeLine_eq]; omega, rfl⟩, ?_⟩
        rw [put_new hne]
        have jw := (j.re [3, 0, 1, 2, 4, 5]).write (o' := .dK (kvs ++ [(kk, z)]))
        have j1 : J [M1, M2, one p (.dK (kvs ++ [(kk, z)])), F, C, N, R] _ := J.nest (xs := [one p (.dK (kvs ++ [(kk, z)])), F, C, N, R]) jm (jw.re [2, 0, 1, 3, 4, 5])
        have j2 : J [M3, M4, M1, one p (.dK (kvs ++ [(kk, z)])), F, C, N, R] _ := J.nest (xs := [M1, one p (.dK (kvs ++ [(kk, z)])), F, C, N, R]) jm2 (j1.re [1, 0, 2, 3, 4, 5, 6])
        obtain ⟨jA, jB⟩ := (j2.re [0, 2, 5, 4, 1, 3, 6, 7]).join
        obtain ⟨jC, jD⟩ := jB.join
        refine puts_K (kvs := kvs ++ [(kk, z)]) (C := un (un M3 M1) C) h2 orr (jD.re [1, 2, 0, 3, 4, 5]) ?_ (by rw [List.length_append]; simp; omega) ?_
        · intro kv hkv
          rcases List.mem_append.mp hkv with hkv | hkv
          · exact fun m => hn kv hkv (by simp [m])
          · rw [List.mem_singleton] at hkv
            subst hkv
            intro m
            exact hc (List.any_eq_true.mpr ⟨_, m, by simp⟩)
        · intro ws C' Z H' ow jj
          have jE : J [un M3 M1, C, C', Z, F, one p (.dK (kvs ++ [(kk, z)] ++ a.zip ws)), N, R] H' := J.nest (xs := [C', Z, F, one p (.dK (kvs ++ [(kk, z)] ++ a.zip ws)), N, R]) jC (jj.re [3, 1, 2, 0, 4, 5, 6])
          have jF : J [M3, M1, C, C', Z, F, one p (.dK (kvs ++ [(kk, z)] ++ a.zip ws)), N, R] H' := J.nest (xs := [C, C', Z, F, one p (.dK (kvs ++ [(kk, z)] ++ a.zip ws)), N, R]) jA jE
          obtain ⟨jG, jH⟩ := (jF.re [0, 3, 1, 4, 2, 5, 6, 7, 8]).join
          obtain ⟨jI, jK⟩ := (jH.re [1, 2, 0, 3, 4, 5, 6, 7]).join
          rw [List.append_assoc] at jK
          exact k (z :: ws) _ _ H' ⟨z, ws, M3, C', rfl, jG, oz, ow⟩ (jK.re [3, 1, 0, 2, 4, 5, 6])
    · cases h
theorem mkT_len : ∀ {ds : List D} {ks : List (List Key)} {es : List D}, mkT ds = some (ks, es) → ks.length = es.length
  | [], _, _, h => by cases h; rfl
  | [_], _, _, h => by cases h
  | k :: v :: r, ks, es, h => by
    rw [mkT] at h
    split at h
    · rename_i kk a b h1 h2
      split at h
      · cases h
      · cases h
        rw [List.length_cons, List.length_cons, mkT_len h2]
    · cases h
theorem mkK_len : ∀ {ds : List D} {ks : List Key} {es : List D}, mkK ds = some (ks, es) → ks.length = es.length
  | [], _, _, h => by cases h; rfl
  | [_], _, _, h => by cases h
  | k :: v :: r, ks, es, h => by
    rw [mkK] at h
    split at h
    · rename_i kk a b h1 h2
      split at h
      · cases h
      · cases h
        rw [List.length_cons, List.length_cons, mkK_len h2]
    · cases h
/-- the pairs of a display, evaluated -/
structure RPP (X : Cx) (cl : Nat → Addr) (Φ : St → Prop) (E : St → XK) (pos : Pos) (keys : List (Option Expr)) (values : List Expr) (m : M (List D)) : Prop where
  pp : ∃ trs, PPs X pos keys values trs ∧ ∀ σ H (Q : List (V × V) → Hp → Prop), tA (gx X cl) Φ E false m σ H (fun vs H' => Q (unpair vs) H') → tPairs trs σ H Q
theorem rpp_nil {X : Cx} {cl : Nat → Addr} {Φ : St → Prop} {E : St → XK} {pos : Pos} : RPP X cl Φ E pos [] [] mNil := ⟨[], pps_nil, fun σ H Q h => tA_nil h⟩
theorem rpp_cons {X : Cx} {cl : Nat → Addr} {Φ : St → Prop} {E : St → XK} {pos : Pos} {k v : Expr} {ks : List (Option Expr)} {vs : List Expr} {mk mv : M D} {mr : M (List D)} (hk : RE X cl Φ E false k mk) (hv : RE X cl Φ E false v mv) (hr : RPP X cl Φ E pos ks vs mr) : RPP X cl Φ E pos (some k :: ks) (v :: vs) (mCons mk (mCons mv mr)) := by
  obtain ⟨trs, p, w⟩ := hr.pp
  refine ⟨_, pps_cons hk.pe hv.pe p, fun σ H Q h => ?_⟩
  have t1 := tA_cons (c1 := false) (c2 := false) h
  refine tE_mono t1 fun x H1 z => ?_
  have t2 := tA_cons (c1 := false) (c2 := false) z
  exact tE_mono t2 fun y H2 z2 => w σ H2 _ z2
theorem tE_dicT {m : M (List D)} {Q : VK} {p : Addr} (h : tE G Φ E false (mDicT m) σ H Q) (hp : H p = none) : tA G Φ E false m σ (upd H p (.dT [])) (fun vs H' => Puts p (unpair vs) H' fun H3 => Q (.ref p) H3) := by
  obtain ⟨F, N, R, ρ, a, q⟩ := h
  have j0 := (a.1.alloc (o := .dT []) hp).re [1, 2, 0, 3]
  have jt : J [one p (.dT []), R] (un (one p (.dT [])) R) := (j0.re [2, 3, 0, 1]).join.1
  refine ⟨F, N, un (one p (.dT [])) R, ρ, ⟨j0.hide, a.2.1, a.2.2⟩, ?_⟩
  unfold mDicT at q
  cases e : m ρ with
  | no => rw [e] at q; exact q
  | ex k ρ' => rw [e] at q; exact PX.more q Le.refl jt
  | ok ds ρ1 =>
    rw [e] at q
    intro vs F1 N1 T1 H1 l1 k1 j1 r1 o1
    simp only [O.bind] at q
    cases hm : mkT ds with
    | none => rw [hm] at q; exact q.elim
    | some x =>
      obtain ⟨ks, es⟩ := x
      rw [hm] at q
      simp only at q
      by_cases hl : ks.length < 16
      · rw [if_pos hl] at q
        have j2 : J [F1, N1, one p (.dT []), R, T1] H1 := J.unhide (ys := [T1]) jt (j1.re [0, 1, 3, 2])
        refine puts_T (C := emp) (N := N1) (R := R) (kvs := []) hm o1 ((J.emp_iff.mpr j2).re [1, 5, 0, 3, 2, 4]) (by simp) (by simp; omega) fun ws C' Z H' ow jj => ?_
        rw [List.nil_append] at jj
        have je := J.emp_iff.mp (jj.re [3, 0, 1, 2, 4, 5, 6])
        have jg := je.give
        obtain ⟨jx, jy⟩ := (jg.1.re [2, 1, 0, 3, 4]).join
        exact q (.ref p) _ N1 _ H' (l1.trans jg.2.1) (fun z => nomatch z) (jy.re [1, 2, 0, 3]) (rel_le jg.2.1 r1) ⟨p, ws, rfl, mkT_len hm, .inr ⟨rfl, C', jx, ownL_le jg.2.1 ow⟩⟩
      · rw [if_neg hl] at q; exact q.elim
theorem tE_dicK {m : M (List D)} {Q : VK} {p : Addr} (h : tE G Φ E false (mDicK m) σ H Q) (hp : H p = none) : tA G Φ E false m σ (upd H p (.dK [])) (fun vs H' => Puts p (unpair vs) H' fun H3 => Q (.ref p) H3) := by
  obtain ⟨F, N, R, ρ, a, q⟩ := h
  have j0 := (a.1.alloc (o := .dK []) hp).re [1, 2, 0, 3]
  have jt : J [one p (.dK []), R] (un (one p (.dK [])) R) := (j0.re [2, 3, 0, 1]).join.1
  refine ⟨F, N, un (one p (.dK [])) R, ρ, ⟨j0.hide, a.2.1, a.2.2⟩, ?_⟩
  unfold mDicK at q
  cases e : m ρ with
  | no => rw [e] at q; exact q
  | ex k ρ' => rw [e] at q; exact PX.more q Le.refl jt
  | ok ds ρ1 =>
    rw [e] at q
    intro vs F1 N1 T1 H1 l1 k1 j1 r1 o1
    simp only [O.bind] at q
    cases hm : mkK ds with
    | none => rw [hm] at q; exact q.elim
    | some x =>
      obtain ⟨ks, es⟩ := x
      rw [hm] at q
      simp only at q
      by_cases hl : ks.length < 16
      · rw [if_pos hl] at q
        have j2 : J [F1, N1, one p (.dK []), R, T1] H1 := J.unhide (ys := [T1]) jt (j1.re [0, 1, 3, 2])
        refine puts_K (C := emp) (N := N1) (R := R) (kvs := []) hm o1 ((J.emp_iff.mpr j2).re [1, 5, 0, 3, 2, 4]) (by simp) (by simp; omega) fun ws C' Z H' ow jj => ?_
        rw [List.nil_append] at jj
        have je := J.emp_iff.mp (jj.re [3, 0, 1, 2, 4, 5, 6])
        have jg := je.give
        obtain ⟨jx, jy⟩ := (jg.1.re [2, 1, 0, 3, 4]).join
        exact q (.ref p) _ N1 _ H' (l1.trans jg.2.1) (fun z => nomatch z) (jy.re [1, 2, 0, 3]) (rel_le jg.2.1 r1) ⟨p, ws, rfl, mkK_len hm, .inr ⟨rfl, C', jx, ownL_le jg.2.1 ow⟩⟩
      · rw [if_neg hl] at q; exact q.elim
end
section
variable {X : Cx} {cl : Nat → Addr} {Φ : St → Prop} {E : St → XK} {c : Bool} {k : Nat} {pos : Pos}
theorem Kx.units {X : Cx} {E : St → XK} {k : Nat} (κ : Kx X E k) : X.A.units + 1 < cLine := by
  have := κ.room.un
  omega
theorem re_dicT {keys : List (Option Expr)} {values : List Expr} {m : M (List D)} (κ : Kx X E k) (h : RPP X cl Φ E pos keys values m) (hall : keys.all (·.isSome) = true := by rfl) (hl : keys.length = values.length := by rfl) (h0 : keys ≠ [] := by exact fun z => nomatch z) (h15 : keys.length ≤ 15 := by decide) : RE X cl Φ E false (.Dict keys values pos) (mDicT m) := by
  obtain ⟨trs, p, w⟩ := h.pp
  exact ⟨(pe_dispD κ.units true p hall hl h0 h15).weak fun σ H Q q a hn => w σ _ _ (tE_dicT q hn)⟩
theorem re_dicK {keys : List (Option Expr)} {values : List Expr} {m : M (List D)} (κ : Kx X E k) (h : RPP X cl Φ E pos keys values m) (hall : keys.all (·.isSome) = true := by rfl) (hl : keys.length = values.length := by rfl) (h0 : keys ≠ [] := by exact fun z => nomatch z) (h15 : keys.length ≤ 15 := by decide) : RE X cl Φ E false (.Dict keys values pos) (mDicK m) := by
  obtain ⟨trs, p, w⟩ := h.pp
  exact ⟨(pe_dispD κ.units false p hall hl h0 h15).weak fun σ H Q q a hn => w σ _ _ (tE_dicK q hn)⟩
theorem re_dget2 {o e f : Expr} {apos cpos : Pos} {mo mk mz : M D} (κ : Kx X E k) (ho : RE X cl Φ E c o mo) (he : RE X cl Φ E false e mk) (hf : RE X cl Φ E false f mz) (m : M2 X o "get" apos e f cpos := by exact ⟨rfl, rfl, rfl, rfl⟩) :
    RE X cl Φ E false (.Call (.Attribute o "get" apos) [e, f] [] cpos) (mDGet2 mo mk mz) := ⟨(pe_dget2 κ.units ho.pe he.pe hf.pe m).weak fun σ H Q q => tE_dget2 q⟩
end
end Z

end
section
set_option maxRecDepth 100000
/-! Z: raises that are not reached, slots forgotten, enumerate, zip, slices, pop, tuple, in -/
namespace Z
open PySem PySem.Spec L2 RZ
open PyProof.Rows hiding St
/-! ### not reached -/
def mNo : M Fl := fun _ => .no
section
variable {X : Cx} {cl : Nat → Addr} {Φ : St → Prop} {E : St → XK} {c : Bool} {k : Nat} {pos p apos tpos : Pos} {e o i : Expr} {es : List Expr}
theorem rs_no {st : Stmt} : RS X cl Φ E st mNo := ⟨⟨fun pins s σ H D I ⟨F, N, R, ρ, a, q⟩ => False.elim q⟩⟩
end
/-! ### slots are forgotten -/
def mDrop (is : List Nat) (m : M Fl) : M Fl := fun ρ => m (wipeR is ρ)
section
variable {G : Gx} {Φ : St → Prop} {E : St → XK} {c : Bool} {σ : St} {H : Hp} {F N R T : Hp} {ρ : Env}
theorem rel_hole (i : Nat) (r : Rel G F ρ σ N) : ∃ P Nw, J [P, Nw] N ∧ Rel G F (ρ.set i .hole) σ Nw := by
  cases e : ρ[i]? with
  | none =>
    rw [List.set_eq_of_length_le (List.getElem?_eq_none_iff.mp e)]
    exact ⟨emp, N, J.emp_iff.mpr J.self, r⟩
  | some d =>
    obtain ⟨ov, M1, Mr, e1, j, w, kk⟩ := rel_at r e
    have := kk F .hole ov emp Mr Le.refl (.inl ⟨rfl, rfl⟩) (J.emp_iff.mpr J.self)
    rw [set_self e1] at this
    exact ⟨M1, Mr, j, this⟩
theorem rel_drop : ∀ (is : List Nat) {ρ : Env} {N : Hp}, Rel G F ρ σ N → ∃ P Nw, J [P, Nw] N ∧ Rel G F (wipeR is ρ) σ Nw
  | [], ρ, N, r => ⟨emp, N, J.emp_iff.mpr J.self, r⟩
  | i :: is, ρ, N, r => by
    obtain ⟨P, Nw, j, r2⟩ := rel_drop is r
    obtain ⟨P2, N2, j2, r3⟩ := rel_hole i r2
    have j3 : J [P2, N2, P] N := J.nest (xs := [P]) j2 (j.re [1, 0])
    exact ⟨_, N2, (j3.re [0, 2, 1]).join.2, r3⟩
theorem tS_drop {is : List Nat} {m : M Fl} {D' : Ends} (h : tS G Φ E (mDrop is m) D' σ H) : tS G Φ E m D' σ H := by
  obtain ⟨F, N, R, ρ, a, q⟩ := h
  obtain ⟨P, Nw, j, r⟩ := rel_drop is a.2.1
  have j1 : J [P, Nw, F, R] H := J.nest (xs := [F, R]) j (a.1.re [1, 0, 2])
  have j2 := (j1.re [2, 1, 0, 3]).give
  exact ⟨_, Nw, R, _, ⟨j2.1, rel_le j2.2.1 r, a.2.2⟩, PostS.le q j2.2.1⟩
end
section
variable {X : Cx} {cl : Nat → Addr} {Φ : St → Prop} {E : St → XK}
theorem rss_drop (is : List Nat) {sts : List Stmt} {m : M Fl} (h : RSs X cl Φ E sts m) : RSs X cl Φ E sts (mDrop is m) := ⟨h.pss.weak fun _ _ _ q => tS_drop q⟩
end
/-! ### enumerate, zip -/
def enumD : Nat → List D → List D
  | _, [] => []
  | n, d :: ds => .tup [.int (n : Int), d] :: enumD (n + 1) ds
def zipD : List D → List D → List D
  | d :: ds, e :: es => .tup [d, e] :: zipD ds es
  | _, _ => []
theorem enumD_len : ∀ (n : Nat) (ds : List D), (enumD n ds).length = ds.length
  | _, [] => rfl
  | n, d :: ds => by rw [enumD, List.length_cons, enumD_len, List.length_cons]
theorem enumD_get : ∀ (n : Nat) (ds : List D) (i : Nat), (enumD n ds)[i]? = ds[i]?.map fun d => .tup [.int ((n + i : Nat) : Int), d]
  | n, [], i => by simp [enumD]
  | n, d :: ds, 0 => by simp [enumD]
  | n, d :: ds, i + 1 => by
    rw [enumD, List.getElem?_cons_succ, List.getElem?_cons_succ, enumD_get, show n + 1 + i = n + (i + 1) by omega]
theorem zipD_len : ∀ (ds es : List D), (zipD ds es).length = min ds.length es.length
  | [], es => by simp [zipD]
  | d :: ds, [] => by simp [zipD]
  | d :: ds, e :: es => by rw [zipD, List.length_cons, zipD_len, List.length_cons, List.length_cons]; omega
theorem zipD_get : ∀ (ds es : List D) (i : Nat) (z : D), (zipD ds es)[i]? = some z → ∃ d e, ds[i]? = some d ∧ es[i]? = some e ∧ z = .tup [d, e]
  | [], es, i, z, h => by simp [zipD] at h
  | d :: ds, [], i, z, h => by simp [zipD] at h
  | d :: ds, e :: es, 0, z, h => by simp [zipD] at h; exact ⟨d, e, rfl, rfl, h.symm⟩
  | d :: ds, e :: es, i + 1, z, h => by
    rw [zipD, List.getElem?_cons_succ] at h
    obtain ⟨d', e', h1, h2, h3⟩ := zipD_get ds es i z h
    exact ⟨d', e', by simpa using h1, by simpa using h2, h3⟩
def mEnum (m : M (List D)) : M (List D × Bk) := fun ρ => (m ρ).bind fun ds ρ1 => match ds with
  | [.lst _ es] => .ok (enumD 0 (frzL es), none) ρ1
  | _ => .no
def mZip (m : M (List D)) : M (List D × Bk) := fun ρ => (m ρ).bind fun ds ρ1 => match ds with
  | [.lst _ es, .lst _ fs] => .ok (zipD (frzL es) (frzL fs), none) ρ1
  | [.tup es, .tup fs] => .ok (zipD (frzL es) (frzL fs), none) ρ1
  | _ => .no
/-- enumerate of a list that a slot holds; it is lent meanwhile -/
def mEnumL (i : Nat) : M (List D × Bk) := fun ρ => match ρ[i]? with
  | some (.lst o ds) => .ok (enumD 0 (frzL ds), some (i, .lst o (frzL ds))) (ρ.set i .hole)
  | _ => .no
section
variable {G : Gx} {Φ : St → Prop} {E : St → XK} {c : Bool} {σ : St} {H : Hp}
theorem own_pair {F : Hp} {d e : D} {v w : V} {T : Addr} (h1 : Own G F d v emp) (h2 : Own G F e w emp) : Own G F (.tup [d, e]) (.ref T) (one T (.tup [v, w])) :=
  ⟨T, [v, w], rfl, .inr ⟨emp, (J.emp_iff.mpr J.self).re [1, 0], v, [w], emp, emp, rfl, J.emps, h1, w, [], emp, emp, rfl, J.emps, h2, rfl, rfl⟩⟩
theorem feeds_enum {F T : Hp} {a : Addr} {vs : List V} {ds : List D} (h : ∀ H, Le F H → Le T H → SqL G.K H a vs) (o : OwnL G F ds vs emp) : Feeds G F T (Ite G.K a) (enumD 0 ds) := by
  intro F' H' l l1 l2
  have s := h H' (l.trans l1) l2
  have hl := ownL_len o
  refine ⟨⟨vs, s, by rw [enumD_len]; omega⟩, fun i d e => ?_⟩
  rw [enumD_get, Nat.zero_add] at e
  cases hh : ds[i]? with
  | none => rw [hh] at e; cases e
  | some d0 =>
    rw [hh] at e
    cases e
    obtain ⟨v, e1, ov⟩ := ownL_get o hh
    refine ⟨⟨vs, v, s, e1⟩, fun x H2 N R y j => ?_⟩
    obtain ⟨T1, x0, rfl, hT, rfl, y⟩ := y
    have e2 := y vs s
    rw [e1] at e2
    cases e2
    have j1 := j.alloc (o := .tup [.int ((i : Nat) : Int), v]) hT
    exact ⟨F', _, Le.refl, j1.re [1, 2, 0, 3], own_pair ⟨rfl, rfl⟩ (own_le l ov)⟩
theorem feeds_zip {F T : Hp} {a b : Addr} {vs ws : List V} {ds es : List D} (h : ∀ H, Le F H → Le T H → SqL G.K H a vs ∧ SqL G.K H b ws) (o : OwnL G F ds vs emp) (o' : OwnL G F es ws emp) : Feeds G F T (Itz G.K a b) (zipD ds es) := by
  intro F' H' l l1 l2
  obtain ⟨s, s'⟩ := h H' (l.trans l1) l2
  have hl := ownL_len o
  have hl' := ownL_len o'
  refine ⟨⟨vs, ws, s, s', by rw [zipD_len]; omega⟩, fun i d e => ?_⟩
  obtain ⟨d1, d2, h1, h2, rfl⟩ := zipD_get _ _ _ _ e
  obtain ⟨v, e1, ov⟩ := ownL_get o h1
  obtain ⟨w, e2, ow⟩ := ownL_get o' h2
  refine ⟨⟨vs, ws, v, w, s, s', e1, e2⟩, fun x H2 N R y j => ?_⟩
  obtain ⟨T1, x0, y0, rfl, hT, rfl, y1, y2⟩ := y
  have e3 := y1 vs s
  rw [e1] at e3
  cases e3
  have e4 := y2 ws s'
  rw [e2] at e4
  cases e4
  have j1 := j.alloc (o := .tup [v, w]) hT
  exact ⟨F', _, Le.refl, j1.re [1, 2, 0, 3], own_pair (own_le l ov) (own_le l ow)⟩
theorem feeds_zipT {F T : Hp} {a b : Addr} {vs ws : List V} {ds es : List D} (h : ∀ H, Le F H → Le T H → SqT G.K H a vs ∧ SqT G.K H b ws) (o : OwnL G F ds vs emp) (o' : OwnL G F es ws emp) : Feeds G F T (ItzT G.K a b) (zipD ds es) := by
  intro F' H' l l1 l2
  obtain ⟨s, s'⟩ := h H' (l.trans l1) l2
  have hl := ownL_len o
  have hl' := ownL_len o'
  refine ⟨⟨vs, ws, s, s', by rw [zipD_len]; omega⟩, fun i d e => ?_⟩
  obtain ⟨d1, d2, h1, h2, rfl⟩ := zipD_get _ _ _ _ e
  obtain ⟨v, e1, ov⟩ := ownL_get o h1
  obtain ⟨w, e2, ow⟩ := ownL_get o' h2
  refine ⟨⟨vs, ws, v, w, s, s', e1, e2⟩, fun x H2 N R y j => ?_⟩
  obtain ⟨T1, x0, y0, rfl, hT, rfl, y1, y2⟩ := y
  have e3 := y1 vs s
  rw [e1] at e3
  cases e3
  have e4 := y2 ws s'
  rw [e2] at e4
  cases e4
  have j1 := j.alloc (o := .tup [v, w]) hT
  exact ⟨F', _, Le.refl, j1.re [1, 2, 0, 3], own_pair (own_le l ov) (own_le l ow)⟩
theorem tI_enum {m : M (List D)} {Q : It → Hp → Prop} (h : tI G Φ E (mEnum m) σ H Q) : iEnum G.K (tA G Φ E c m) σ H Q :=
  tI_ofA h fun ds vs F N T R ρ H1 j r o q => by
    split at q
    · rename_i o' es
      obtain ⟨v, w, M1, M2, rfl, jm, o1, rfl, rfl⟩ := o
      have e := (J.emp_iff.mp (jm.re [1, 0])).eq1
      subst e
      have dd := dump1 j
      obtain ⟨p, vs, S, C, rfl, jc, wl, g⟩ := own_lst o1
      exact ⟨p, vs, rfl, .of (g H1 j.le (j.sub (by simp))), q _ _ N emp H1 dd.2.1 dd.1 (rel_le dd.2.1 r)
        (feeds_enum (vs := vs) (fun H' l _ => .of (g H' (dd.2.1.trans l) (dd.2.2.trans l))) (ownL_frz wl dd.2.1 ((j_le jc).2.trans dd.2.2))) trivial⟩
    · exact q.elim
theorem tI_zip {m : M (List D)} {Q : It → Hp → Prop} (h : tI G Φ E (mZip m) σ H Q) : iZipA G.K (tA G Φ E c m) σ H Q :=
  tI_ofA h fun ds vs F N T R ρ H1 j r o q => by
    have dd := dump1 j
    split at q
    · rename_i o1' es o2' fs
      obtain ⟨v, w, M1, M2, rfl, jm, o1, v2, w2, M3, M4, rfl, jm2, o2, rfl, rfl⟩ := o
      have e := (J.emp_iff.mp (jm2.re [1, 0])).eq1
      subst e
      obtain ⟨p, vs, S, C, rfl, jc, wl, g⟩ := own_lst o1
      obtain ⟨p2, vs2, S2, C2, rfl, jc2, wl2, g2⟩ := own_lst o2
      have t1 := (j_le jm).1
      have t2 := (j_le jm).2
      have tH : Le T H1 := j.sub (by simp)
      refine ⟨p, p2, vs, vs2, rfl, .inl ⟨.of (g H1 j.le (t1.trans tH)), .of (g2 H1 j.le (t2.trans tH)), q _ _ N emp H1 dd.2.1 dd.1 (rel_le dd.2.1 r)
        (feeds_zip (vs := vs) (ws := vs2) (fun H' l _ => ⟨.of (g H' (dd.2.1.trans l) ((t1.trans dd.2.2).trans l)), .of (g2 H' (dd.2.1.trans l) ((t2.trans dd.2.2).trans l))⟩) (ownL_frz wl dd.2.1 (((j_le jc).2.trans t1).trans dd.2.2)) (ownL_frz wl2 dd.2.1 (((j_le jc2).2.trans t2).trans dd.2.2))) trivial⟩⟩
    · rename_i es fs
      obtain ⟨v, w, M1, M2, rfl, jm, o1, v2, w2, M3, M4, rfl, jm2, o2, rfl, rfl⟩ := o
      have e := (J.emp_iff.mp (jm2.re [1, 0])).eq1
      subst e
      obtain ⟨p, vs, S, C, rfl, jc, wl, g⟩ := own_tup o1
      obtain ⟨p2, vs2, S2, C2, rfl, jc2, wl2, g2⟩ := own_tup o2
      have t1 := (j_le jm).1
      have t2 := (j_le jm).2
      have tH : Le T H1 := j.sub (by simp)
      refine ⟨p, p2, vs, vs2, rfl, .inr ⟨g H1 j.le (t1.trans tH), g2 H1 j.le (t2.trans tH), q _ _ N emp H1 dd.2.1 dd.1 (rel_le dd.2.1 r)
        (feeds_zipT (vs := vs) (ws := vs2) (fun H' l _ => ⟨g H' (dd.2.1.trans l) ((t1.trans dd.2.2).trans l), g2 H' (dd.2.1.trans l) ((t2.trans dd.2.2).trans l)⟩) (ownL_frz wl dd.2.1 (((j_le jc).2.trans t1).trans dd.2.2)) (ownL_frz wl2 dd.2.1 (((j_le jc2).2.trans t2).trans dd.2.2))) trivial⟩⟩
    · exact q.elim
theorem tI_enumL {i : Nat} {Q : It → Hp → Prop} (hst : ∀ σ σ', Φ σ → Φ σ' → σ[i]? = σ'[i]?) (h : tI G Φ E (mEnumL i) σ H Q) : iEnum G.K (tCons (tVar i) tNil) σ H Q := by
  obtain ⟨F, N, R, ρ, a, q⟩ := h
  unfold mEnumL at q
  split at q
  · rename_i o ds e0
    obtain ⟨ov, M1, Mr, e1, j, w, kk⟩ := rel_at a.2.1 e0
    obtain ⟨v, rfl, w1⟩ := ownO_of w (by simp)
    have j1 : J [M1, Mr, F, R] H := J.nest (xs := [F, R]) j (a.1.re [1, 0, 2])
    obtain ⟨p, vs, rfl, w1⟩ := w1
    rcases w1 with ⟨z, rfl, g, wl⟩ | ⟨z, M', jc, wl⟩
    · have j2 : J [F, Mr, emp, R] H := j1.re [2, 1, 0, 3]
      have r2 := kk F .hole (some (.ref p)) emp Mr Le.refl (.inl ⟨rfl, rfl⟩) (J.emp_iff.mpr J.self)
      rw [set_self e1] at r2
      have wf := ownL_frz wl Le.refl (fun _ _ e => nomatch e)
      exact ⟨.ref p, e1, p, vs, rfl, .of (j2.le _ _ g), q _ F Mr emp H Le.refl j2 r2 (feeds_enum (vs := vs) (fun H' l m => .of (l _ _ g)) wf) ⟨.ref p, e1, ⟨p, vs, rfl, .inl ⟨z, rfl, g, wf⟩⟩, fun σ' f => (hst σ σ' a.2.2 f).symm.trans e1⟩⟩
    · have jx : J [one p (.lst vs), M', Mr, F, R] H := J.nest (xs := [Mr, F, R]) jc j1
      have jy := (jx.re [3, 2, 1, 0, 4]).give
      have wl2 := ownL_frz wl jy.2.1 jy.2.2
      have r2 := kk (un F M') .hole (some (.ref p)) emp Mr jy.2.1 (.inl ⟨rfl, rfl⟩) (J.emp_iff.mpr J.self)
      rw [set_self e1] at r2
      exact ⟨.ref p, e1, p, vs, rfl, .of jx.at, q _ _ Mr _ H jy.2.1 jy.1 r2 (feeds_enum (vs := vs) (fun H' l m => .of (m _ _ one_same)) wl2)
        ⟨.ref p, e1, ⟨p, vs, rfl, .inr ⟨z, emp, (J.emp_iff.mpr J.self).re [1, 0], wl2⟩⟩, fun σ' f => (hst σ σ' a.2.2 f).symm.trans e1⟩⟩
  · exact q.elim
end
section
variable {X : Cx} {cl : Nat → Addr} {Φ : St → Prop} {E : St → XK} {c : Bool} {k : Nat} {pos p apos tpos p2 : Pos} {e o i e2 : Expr} {es : List Expr}
theorem ri_enum {elts : List Expr} {kk : Nat} {m : M (List D)} (h : RA X cl Φ E c [e] m) (hm : X.mg "enumerate" = none) (hg : Gl X "enumerate" := by rfl) (hs : starEach [e] X.env = [(false, eval e X.env)] := by rfl) :
    RI X cl Φ E (.Tuple elts kk tpos) (.Call (.Name "enumerate" p) [e] [] pos) (mEnum m) := ⟨(pi_enum hg hm h.pa hs).weak fun _ _ _ q => tI_enum q⟩
theorem ri_enumL {elts : List Expr} {kk : Nat} {i : Nat} {x : Str} (hst : ∀ σ σ', Φ σ → Φ σ' → σ[i]? = σ'[i]?) (hp : PE X (.Name x p2) (tVar i)) (hm : X.mg "enumerate" = none) (hg : Gl X "enumerate" := by rfl) (hs : starEach [.Name x p2] X.env = [(false, eval (.Name x p2) X.env)] := by rfl) :
    RI X cl Φ E (.Tuple elts kk tpos) (.Call (.Name "enumerate" p) [.Name x p2] [] pos) (mEnumL i) := ⟨(pi_enum hg hm (pa_cons hp pa_nil hs) hs).weak fun _ _ _ q => tI_enumL hst q⟩
theorem ri_zip {elts : List Expr} {kk : Nat} {m : M (List D)} (h : RA X cl Φ E c [e, e2] m) (hm : X.mg "zip" = none) (hg : Gl X "zip" := by rfl)
    (hs : starEach [e, e2] X.env = (false, eval e X.env) :: starEach [e2] X.env := by rfl) (hpl : (backTo pos (starEach [e2] X.env)).any (·.1) = false := by rfl) :
    RI X cl Φ E (.Tuple elts kk tpos) (.Call (.Name "zip" p) [e, e2] [] pos) (mZip m) := ⟨(pi_zipA hg hm h.pa hs hpl).weak fun _ _ _ q => tI_zip q⟩
end
/-! ### slices of any sequence -/
def sAny : D → Option Int → Option Int → Option D
  | .tup ds, lo, hi => some (.tup (frzL (cutD ds lo hi)))
  | .str x, lo, hi => if x.length ≤ sizeLine then some (.str (cutS x lo hi)) else none
  | d, lo, hi => sLst d lo hi
theorem fs_any {G : Gx} : FS G (fun x lo hi H Q => (rSlL G.K x lo hi H Q ∨ rSlA G.K x lo hi H Q) ∨ rSlS x lo hi H Q) sAny := by
  intro lo hi F N T R H x d z Q j o hz k
  have hz : sAny d lo hi = some z := hz
  unfold sAny at hz
  split at hz
  · cases hz
    have dd := dump1 j
    obtain ⟨a, vs, S, C, rfl, jc, w, g⟩ := own_tup o
    have wf := ownL_frz w dd.2.1 ((j_le jc).2.trans dd.2.2)
    refine .inl (.inr ⟨a, vs, rfl, g H j.le (j.sub (by simp)), fun hh => ?_, fun _ => ?_⟩)
    · rename_i ds
      have e : cutD ds lo hi = ds := by
        unfold cutD
        rw [← ownL_len w, hh.1, hh.2, List.drop_zero, Nat.sub_zero, ownL_len w, List.take_length]
      rw [e] at k
      exact k (.ref a) _ emp H dd.2.1 Le.refl dd.1 (own_frz o dd.2.1 dd.2.2)
    · rw [frz_cut] at k
      exact new_tup dd.1 (cut_own wf _ _) fun v F' T' H' l => k v F' T' H' (dd.2.1.trans l)
  · split at hz
    · cases hz
      obtain ⟨rfl, rfl⟩ := o
      exact .inr ⟨_, rfl, ‹_›, k _ F emp H Le.refl Le.refl j ⟨rfl, rfl⟩⟩
    · cases hz
  · exact .inl (.inl (fs_lst lo hi j o hz k))
section
variable {X : Cx} {cl : Nat → Addr} {Φ : St → Prop} {E : St → XK} {c : Bool} {k : Nat} {pos p apos tpos p2 : Pos} {e o i e2 a b : Expr} {es : List Expr}
theorem xSliceA {lo hi : Option Expr} {m : M D} {ml mh : M (Option Int)} (h : RE X cl Φ E false e m) (hl : RO X cl Φ E lo ml) (hh : RO X cl Φ E hi mh) : RE X cl Φ E false (.Subscript e (.Slice lo hi none p2) pos) (mSlice sAny m ml mh) :=
  re_slice ((sl_list.or sl_tupA).or sl_str) fs_any h hl hh
end
/-! ### tuple(..) -/
def fTuple : List D → Option D
  | [.lst _ ds] => some (.tup (frzL ds))
  | [.tup ds] => some (.tup (frzL ds))
  | _ => none
theorem fn_tuple {G : Gx} : FN G (fun xs H Q => ∃ p ys, xs = [.ref p] ∧ ((SqL G.K H p ys ∧ ∀ l, H l = none → Q (.ref l) (upd H l (.tup ys))) ∨ (SqT G.K H p ys ∧ Q (.ref p) H))) fTuple := by
  intro F N T R H xs ds z Q j o hz k
  have dd := dump1 j
  unfold fTuple at hz
  split at hz
  · cases hz
    obtain ⟨v, r, M1, M2, rfl, jm, o1, rfl, rfl⟩ := o
    have e := (J.emp_iff.mp (jm.re [1, 0])).eq1
    subst e
    obtain ⟨a, vs, S, C, rfl, jc, w, g⟩ := own_lst o1
    exact ⟨a, vs, rfl, .inl ⟨.of (g H j.le (j.sub (by simp))), new_tup dd.1 (ownL_frz w dd.2.1 ((j_le jc).2.trans dd.2.2)) fun v F' T' H' l => k v F' T' H' (dd.2.1.trans l)⟩⟩
  · cases hz
    obtain ⟨v, r, M1, M2, rfl, jm, o1, rfl, rfl⟩ := o
    have e := (J.emp_iff.mp (jm.re [1, 0])).eq1
    subst e
    have of := own_frz o1 dd.2.1 dd.2.2
    obtain ⟨a, vs, S, C, rfl, jc, w, g⟩ := own_tup o1
    exact ⟨a, vs, rfl, .inr ⟨g H j.le (j.sub (by simp)), k _ _ emp H dd.2.1 Le.refl dd.1 of⟩⟩
  · cases hz
section
variable {X : Cx} {cl : Nat → Addr} {Φ : St → Prop} {E : St → XK} {c : Bool} {k : Nat} {pos p apos tpos p2 : Pos} {e o i e2 a b : Expr} {es : List Expr}
theorem xTuple {mr : M (List D)} (h : RA X cl Φ E c [e] mr) (hm : X.mg "tuple" = none) (hg : Gl X "tuple" := by rfl) (he : starEach [e] X.env = (false, eval e X.env) :: starEach [] X.env := by rfl) (hpl : (backTo pos (starEach [] X.env)).any (·.1) = false := by rfl) :
    RE X cl Φ E c (.Call (.Name "tuple" p) [e] [] pos) (mFun fTuple mr) := re_ty call_tuple_of fn_tuple hm (by decide +kernel) h hg (by decide) (by decide) he hpl
end
/-! ### in, not in: data of any depth in a list -/
def inD (d e : D) : Option Bool := match toPy d, toPy e with
  | some p, some (.list ps) => if SeqAt.shaped p && SeqAt.shaped (.list ps) then some (ps.any fun z => PyData.eqv z p) else none
  | _, _ => none
theorem inD_some {d e : D} {b : Bool} (h : inD d e = some b) : ∃ p ps, toPy d = some p ∧ toPy e = some (.list ps) ∧ SeqAt.shaped p = true ∧ SeqAt.shaped (.list ps) = true ∧ b = ps.any fun z => PyData.eqv z p := by
  unfold inD at h
  split at h
  · split at h
    · rename_i p ps hp hq hs
      rw [Bool.and_eq_true] at hs
      cases h
      exact ⟨p, ps, hp, hq, hs.1, hs.2, rfl⟩
    · cases h
  · cases h
def dInA (d e : D) : Option D := match inB d e with
  | some b => some (.bl b)
  | none => (inD d e).map .bl
def dNotInA (d e : D) : Option D := match inB d e with
  | some b => some (.bl (!b))
  | none => (inD d e).map fun b => .bl (!b)
theorem f2_inA {G : Gx} : F2 G (fun x y H Q => rIn G.K false x y H Q ∨ rInD G.K x y H Q) dInA := by
  intro F N T1 T2 R H x y d e z Q j o1 o2 hz k
  unfold dInA at hz
  split at hz
  · rename_i b hb
    cases hz
    exact .inl (f2_in j o1 o2 (by unfold dIn; rw [hb]; rfl) k)
  · cases hb : inD d e with
    | none => rw [hb] at hz; cases hz
    | some b =>
      rw [hb] at hz; cases hz
      obtain ⟨p, ps, h1, h2, h3, h4, rfl⟩ := inD_some hb
      have dd := dump2 j
      exact .inr ⟨p, ps, own_dp (j.sub (by simp)) o1 (j.sub (by simp)) h1, own_dp (j.sub (by simp)) o2 (j.sub (by simp)) h2, h3, h4, k _ _ emp H dd.2.1 Le.refl dd.1 ⟨rfl, rfl⟩⟩
theorem f2_notInA {G : Gx} : F2 G (fun x y H Q => rIn G.K true x y H Q ∨ rNotInD G.K x y H Q) dNotInA := by
  intro F N T1 T2 R H x y d e z Q j o1 o2 hz k
  unfold dNotInA at hz
  split at hz
  · rename_i b hb
    cases hz
    exact .inl (f2_notIn j o1 o2 (by unfold dNotIn; rw [hb]; rfl) k)
  · cases hb : inD d e with
    | none => rw [hb] at hz; cases hz
    | some b =>
      rw [hb] at hz; cases hz
      obtain ⟨p, ps, h1, h2, h3, h4, rfl⟩ := inD_some hb
      have dd := dump2 j
      exact .inr ⟨p, ps, own_dp (j.sub (by simp)) o1 (j.sub (by simp)) h1, own_dp (j.sub (by simp)) o2 (j.sub (by simp)) h2, h3, h4, k _ _ emp H dd.2.1 Le.refl dd.1 ⟨rfl, rfl⟩⟩
section
variable {X : Cx} {cl : Nat → Addr} {Φ : St → Prop} {E : St → XK} {c : Bool} {k : Nat} {pos p apos tpos p2 : Pos} {e o i e2 a b : Expr} {es : List Expr} {ma mb : M D}
theorem Kx.u65 (κ : Kx X E k) : X.A.units + 65 < cLine := by have := κ.room.un; omega
theorem xInA (κ : Kx X E k) (ha : RE X cl Φ E c a ma) (hb : RE X cl Φ E c b mb) (hm : behindInMarks .In b = false := by rfl) : RE X cl Φ E c (.Compare a [.In] [b] pos) (mBin dInA ma mb) := x_cmp (op_in_seq.or (op_inD κ.u65)) f2_inA hm ha hb
theorem xNotInA (κ : Kx X E k) (ha : RE X cl Φ E c a ma) (hb : RE X cl Φ E c b mb) (hm : behindInMarks .NotIn b = false := by rfl) : RE X cl Φ E c (.Compare a [.NotIn] [b] pos) (mBin dNotInA ma mb) := x_cmp (op_notIn_seq.or (op_notInD κ.u65)) f2_notInA hm ha hb
theorem bInA (κ : Kx X E k) (ha : RE X cl Φ E c a ma) (hb : RE X cl Φ E c b mb) (hm : behindInMarks .In b = false := by rfl) : RB X cl Φ E c (.Compare a [.In] [b] pos) (mTst (mBin dInA ma mb)) := rb_cmp (op_in_seq.or (op_inD κ.u65)) f2_inA hm ha hb
theorem bNotInA (κ : Kx X E k) (ha : RE X cl Φ E c a ma) (hb : RE X cl Φ E c b mb) (hm : behindInMarks .NotIn b = false := by rfl) : RB X cl Φ E c (.Compare a [.NotIn] [b] pos) (mTst (mBin dNotInA ma mb)) := rb_cmp (op_notIn_seq.or (op_notInD κ.u65)) f2_notInA hm ha hb
end
/-! ### xs.pop() -/
def mMeth0 (f : List D → List D → Option (List D × D)) (q : M Pth) : M D := fun ρ => (q ρ).bind fun p ρ1 => match getR ρ1 p with
  | some (.lst true ds) => (match f ds [] with
    | some (ds', d) => .ok d (setR ρ1 p (.lst true ds'))
    | none => .no)
  | _ => .no
section
variable {X : Cx} {cl : Nat → Addr} {Φ : St → Prop} {E : St → XK} {c : Bool} {k : Nat} {pos p apos tpos p2 : Pos} {e o i e2 a b : Expr} {es : List Expr} {ma mb : M D}
theorem re_pop {m : M Pth} (h : RP X cl Φ E o m) (hbase : attributeBase o "pop" X.env (eval o X.env) = eval o X.env := by rfl) (hline : (apos.endLine == pos.line) = true := by rfl) :
    RE X cl Φ E false (.Call (.Attribute o "pop" apos) [] [] pos) (mMeth0 lPop m) := by
  refine ⟨(pe_bm0 PySem.F.plainAttrs_list PySem.F.slot_list_pop PySem.F.type_list_pop mt_pop h.pe.kf hbase hline).weak fun σ H Q ⟨F, N, R, ρ, a, q⟩ => ⟨F, N, R, ρ, a, ?_⟩⟩
  unfold mMeth0 at q
  cases e1 : m ρ with
  | no => rw [e1] at q; exact q
  | ex k ρ' => rw [e1] at q; exact q
  | ok p ρ1 =>
    rw [e1] at q
    simp only [O.bind] at q
    intro v0 v F1 N1 H1 l1 k1 j1 r1 s1 at1 kf1
    split at q
    · rename_i ds g1
      obtain ⟨M2, Mr2, jm2, om2, kk2⟩ := place (G := gx X cl) j1 r1 g1 rfl kf1 s1 at1
      obtain ⟨a2, vs, C, rfl, jc, wc, ne⟩ := own_true om2
      cases hf : lPop ds [] with
      | none => rw [hf] at q; exact q.elim
      | some x =>
        obtain ⟨ds', d⟩ := x
        rw [hf] at q
        simp only at q
        have j4 : J [M2, Mr2, F1, R] H1 := J.nest (xs := [F1, R]) jm2 (j1.re [1, 0, 2])
        have j5 : J [one a2 (.lst vs), C, Mr2, F1, R] H1 := J.nest (xs := [Mr2, F1, R]) jc j4
        obtain ⟨vs', w, C', T', Z, jz, oC, oT, fin⟩ := ml_pop (G := gx X cl) (Q := Q) (F := F1) (H := H1) (U := C) (C := C) (T := emp) (a := a2) (ws := []) (as := []) (j5.sub (by simp)) (j5.sub (by simp)) j5.at ((J.emp_iff.mpr J.self).re [1, 0]) wc ⟨rfl, rfl⟩ hf
        refine ⟨.inl ⟨rfl, vs, .of j5.at⟩, fin ?_⟩
        have j6 := j5.write (o' := .lst vs')
        have j7 : J [C', T', Z, one a2 (.lst vs'), Mr2, F1, R] _ := J.nest (xs := [one a2 (.lst vs'), Mr2, F1, R]) jz (j6.re [1, 0, 2, 3, 4])
        have j8 := (j7.re [5, 0, 2, 1, 3, 4, 6]).give
        obtain ⟨ja, jb⟩ := (j8.1.re [3, 1, 0, 2, 4, 5]).join
        obtain ⟨jc2, jd⟩ := (jb.re [0, 3, 1, 2, 4]).join
        have r3 := kk2 _ (.lst true ds') _ _ j8.2.1 ⟨a2, vs', rfl, .inr ⟨rfl, C', ja, ownL_le j8.2.1 oC⟩⟩ jc2 (.inr ne)
        exact q w _ _ T' _ (l1.trans j8.2.1) (fun z => nomatch z) (jd.re [1, 0, 2, 3]) r3 (own_le j8.2.1 oT)
    · exact q.elim
end
end Z

end
section
set_option maxRecDepth 100000
/-! Z: what the top has written: numbers, texts, tuples, tables -/
namespace Z
open PySem PySem.Spec L2
open PyProof.Rows hiding St
section
variable {X : Cx} {cl : Nat → Addr} {Φ : St → Prop} {E : St → XK} {c : Bool} {k : Nat} {pos p : Pos} {e : Expr}
theorem re_gint {x : Str} {i : Int} (hm : ∃ t, X.mg x = some (.int i t)) (hg : Gl X x := by rfl) (hd : (x == ("__debug__" : Str)) = false := by decide) : RE X cl Φ E c (.Name x p) (mK (.int i)) := by
  obtain ⟨t, hm⟩ := hm
  exact re_k (pe_glob (v := .int i) hg hm ⟨_, rfl⟩ hd) fun _ => ⟨rfl, rfl⟩
theorem re_gstr {x : Str} {z : Str} (hm : ∃ t, X.mg x = some (.str z t)) (hg : Gl X x := by rfl) (hd : (x == ("__debug__" : Str)) = false := by decide) : RE X cl Φ E c (.Name x p) (mK (.str z)) := by
  obtain ⟨t, hm⟩ := hm
  exact re_k (pe_glob (v := .str z) hg hm ⟨_, rfl⟩ hd) fun _ => ⟨rfl, rfl⟩
end
def dCon (ds : List D) : D → Option D
  | .int i => atI ds i
  | _ => none
theorem own_strs {G : Gx} {F : Hp} : ∀ ns : List Str, OwnL G F (ns.map D.str) (ns.map V.str) emp
  | [] => ⟨rfl, rfl⟩
  | n :: ns => ⟨.str n, _, emp, emp, rfl, J.emps, ⟨rfl, rfl⟩, own_strs ns⟩
theorem f1_con {G : Gx} {a : Addr} {vs : List V} {ds : List D} (hS : ∀ H, SqT G.K H a vs) (ho : ∀ F, OwnL G F ds vs emp) : F1 G (fun y H Q => rIxT G.K (.ref a) y H Q) (dCon ds) := by
  intro F N T R H x d z Q j o hz k
  have dd := dump1 j
  unfold dCon at hz
  split at hz
  · obtain ⟨rfl, rfl⟩ := o
    obtain ⟨v, e1, o3⟩ := atI_own (ho (un F emp)) hz
    exact ⟨a, vs, _, v, rfl, rfl, hS H, e1, k v _ emp H dd.2.1 Le.refl dd.1 o3⟩
  · cases hz
section
variable {X : Cx} {cl : Nat → Addr} {Φ : St → Prop} {E : St → XK} {c : Bool} {k : Nat} {pos p pos2 : Pos} {e e2 : Expr}
theorem re_gtup {x : Str} {a : Addr} {vs : List V} {ds : List D} {m : M D} (hm : X.mg x = some (.ref a)) (hS : ∀ H, SqT X.K H a vs) (ho : ∀ F, OwnL (gx X cl) F ds vs emp) (h : RE X cl Φ E c e m) (hg : Gl X x := by rfl)
    (hd : (x == ("__debug__" : Str)) = false := by decide) (hs : PlainIx e := by first | exact fun _ _ => rfl) : RE X cl Φ E c (.Subscript (.Name x p) e pos) (mUn (dCon ds) m) :=
  ⟨(pe_ix ix_tup (pe_glob (v := .ref a) hg hm rfl hd) h.pe hs).weak fun σ H Q q => tE_un (r := fun y H Q => rIxT X.K (.ref a) y H Q) (f1_con hS ho) q⟩
end
/-! a table: texts to tuples of ints -/
def tabRow (t : List (Str × List Int)) : D → Option (List Int)
  | .str s => (t.find? fun kv => decide (kv.1 = s)).map (·.2)
  | _ => none
def tabAt (l : List Int) : D → Option D
  | .int i => (atI l i).map .int
  | _ => none
def mTab (t : List (Str × List Int)) (m1 m2 : M D) : M D := fun ρ => (m1 ρ).bind fun d ρ1 => match tabRow t d with
  | some l => (m2 ρ1).bind fun e ρ2 => ofOpt (tabAt l e) ρ2
  | none => .no
def KTab (K : PySem.W.Frag) (w : World) (a : Addr) (t : List (Str × List Int)) : Prop := ∀ s l, tabRow t (.str s) = some l → ∃ p, KDct K w a s (.ref p) ∧ ∀ H, SqT K H p (l.map V.int)
theorem atI_map {α β : Type} (f : α → β) (l : List α) (i : Int) : atI (l.map f) i = (atI l i).map f := by
  unfold atI
  rw [List.length_map]
  cases ixN l.length i with
  | none => rfl
  | some j => exact List.getElem?_map
section
variable {X : Cx} {cl : Nat → Addr} {Φ : St → Prop} {E : St → XK} {c : Bool} {k : Nat} {pos p pos2 : Pos} {e e2 : Expr}
theorem re_tab {x : Str} {a : Addr} {t : List (Str × List Int)} {m m2 : M D} (hm : X.mg x = some (.ref a)) (hT : KTab X.K X.w a t) (h : RE X cl Φ E false e m) (h2 : RE X cl Φ E false e2 m2) (hg : Gl X x := by rfl)
    (hd : (x == ("__debug__" : Str)) = false := by decide) (hs : PlainIx e := by first | exact fun _ _ => rfl) (hs2 : PlainIx e2 := by first | exact fun _ _ => rfl) :
    RE X cl Φ E false (.Subscript (.Subscript (.Name x p) e pos) e2 pos2) (mTab t m m2) := by
  refine ⟨(pe_ix ix_tup (pe_ix ix_kdict (pe_glob (v := .ref a) hg hm rfl hd) h.pe hs) h2.pe hs2).weak fun σ H Q q => ?_⟩
  obtain ⟨F, N, R, ρ, y, q⟩ := q
  show tE (gx X cl) Φ E false m σ H _
  refine ⟨F, N, R, ρ, y, ?_⟩
  unfold mTab at q
  cases e1 : m ρ with
  | no => rw [e1] at q; exact q
  | ex k ρ' => rw [e1] at q; exact q
  | ok d ρ1 =>
    rw [e1] at q
    simp only [O.bind] at q
    intro v F1 N1 T1 H1 l1 k1 j1 r1 o1
    split at q
    · rename_i l hl
      cases d with
      | str s =>
        obtain ⟨rfl, rfl⟩ := o1
        obtain ⟨p0, kd, sq⟩ := hT s l hl
        refine ⟨a, s, .ref p0, rfl, rfl, kd, ?_⟩
        refine ⟨F1, N1, R, ρ1, ⟨emp_out j1, r1, y.2.2⟩, ?_⟩
        cases e3 : m2 ρ1 with
        | no => rw [e3] at q; exact q
        | ex k ρ' => rw [e3] at q; exact PX.le q l1
        | ok d2 ρ2 =>
          rw [e3] at q
          simp only at q
          intro v2 F2 N2 T2 H2 l2 k2 j2 r2 o2
          cases e4 : tabAt l d2 with
          | none => rw [e4] at q; exact q.elim
          | some z =>
            rw [e4] at q
            unfold tabAt at e4
            split at e4
            · rename_i i
              obtain ⟨rfl, rfl⟩ := o2
              cases e5 : atI l i with
              | none => rw [e5] at e4; cases e4
              | some n =>
                rw [e5] at e4
                cases e4
                exact ⟨p0, l.map V.int, i, .int n, rfl, rfl, sq H2, by rw [atI_map, e5]; rfl, q (.int n) F2 N2 emp H2 (l1.trans l2) (fun z => nomatch z) j2 r2 ⟨rfl, rfl⟩⟩
            · cases e4
      | _ => cases hl
    · exact q.elim
end
end Z

end
section
set_option maxRecDepth 100000
/-! Z: {..}[k] -/
namespace Z
open PySem PySem.Spec L2
open PyProof.Rows hiding St
def dDix (d k : D) : Option D := match dGet d k with
  | some (some r) => some (frz r)
  | _ => none
theorem dGet_isDct {d k : D} {r : Option D} (h : dGet d k = some r) : isDct d = true := by
  cases d <;> first | rfl | (cases h; done)
theorem f2_dix {G : Gx} : F2 G (fun x y H Q => ∃ a v, x = .ref a ∧ DGet H a y (some v) ∧ Q v H) dDix := by
  intro F N T1 T2 R H x y d e z Q j o1 o2 hz k
  unfold dDix at hz
  split at hz
  · rename_i r hg
    cases hz
    have dd := dump2 j
    have lT1 : Le T1 H := j.sub (by simp)
    have lT2 : Le T2 H := j.sub (by simp)
    obtain ⟨a, rfl, _⟩ := own_isDct j.le lT1 o1 (dGet_isDct hg)
    obtain ⟨x, g, n1, n2⟩ := own_dget j.le lT1 lT2 o1 o2 hg
    obtain ⟨v, M5, rfl, l5, ov⟩ := n2 r rfl
    exact ⟨a, v, rfl, g, k v _ emp H dd.2.1 Le.refl dd.1 (own_frz ov dd.2.1 (l5.trans dd.2.2.1))⟩
  · cases hz
section
variable {X : Cx} {cl : Nat → Addr} {Φ : St → Prop} {E : St → XK} {c : Bool} {k : Nat} {pos p : Pos} {e i : Expr} {m mi : M D}
theorem xDix (κ : Kx X E k) (h : RE X cl Φ E c e m) (hi : RE X cl Φ E c i mi) (hs : NoSl i := by exact fun _ _ => rfl) : RE X cl Φ E c (.Subscript e i pos) (mBin dDix m mi) :=
  ⟨(pe_dget κ.units h.pe hi.pe hs).weak fun σ H Q q => tE_bin (c1 := c) (c2 := c) (r := fun x y H Q => ∃ a v, x = .ref a ∧ DGet H a y (some v) ∧ Q v H) f2_dix (by rw [Bool.and_self]; exact q)⟩
end
end Z

end
section
set_option maxRecDepth 100000
/-! Z: sorted of a tuple of ints; of a list of tuples of ints -/
namespace Z
open PySem PySem.Spec L2
open PyProof.Rows hiding St
section
variable {prog : Program} {w : World} {A : Around} {E : Value → Shared → Prop} {s : Shared}
/-- what stands behind the collecting of a tuple -/
abbrev hpC (s : Shared) (us : List Value) : Heap := (s.heap.push (seqObj "list" #[] 0)).update s.heap.objs.size (Obj.mapSeq (· ++ us.toArray))
theorem gather_tup {t : Addr} {us : List Value} {Q : List Value → Shared → Prop} (ht : s.heap.IsTuple t us.toArray) (fits : us.length ≤ sizeLine) (k : Q us { s with heap := hpC s us }) : wpAny (model prog w) A (collect (.ref t)) Q E s := by
  obtain ⟨ob, g, gc, m, gd⟩ := id ht
  have new0 : (s.heap.push (seqObj "list" #[] 0)).get? s.heap.objs.size = some (seqObj "list" #[] 0) := Heap.get?_push_size _ rfl
  have g' : (s.heap.push (seqObj "list" #[] 0)).get? t = some ob := Heap.get?_push_of_some _ g
  unfold collect
  refine wpAny_bind <| wpAny_runValue <| codeAny_builtin entry_proto_collect' ?_
  show wpAny _ _ (do again (.builtin "list.__iadd__" ⟨[← newList [], .ref t], []⟩)) _ _ s
  refine wpAny_bind <| wpAny_newList <| wpAny_pure ⟨Code.quiet_builtin _ (by decide +kernel), codeAny_builtin entry_list_iadd' ?_⟩
  show wpAny _ _ (Builtin.List.listExtendWith (.ref s.heap.objs.size) (.ref t) (.ref s.heap.objs.size)) _ _ { s with heap := s.heap.push (seqObj "list" #[] 0) }
  unfold Builtin.List.listExtendWith
  refine wpAny_bind <| wpAny_typeOf (T := "tuple") ⟨ob, g', gc⟩ ?_
  rw [if_pos (by rw [show (Value.type "tuple" == Value.type "tuple") = true from rfl, Bool.or_true])]
  refine wpAny_bind <| listItems_at g' gd ?_
  refine wpAny_bind <| listItems_at (xs := #[]) (n := 0) new0 rfl ?_
  rw [if_neg (show ¬ _ by simp)]
  refine wpAny_bind <| listUpdate_at (xs := #[]) (n := 0) new0 rfl ?_ (Nat.zero_le _) (by
    show (#[] ++ us.toArray).size ≤ sizeLine + 1
    rw [Array.size_append, List.size_toArray]
    exact Nat.le_succ_of_le (by simpa using fits))
  refine wpAny_pure ?_
  show wpAny (model prog w) A (do
      let ob ← load s.heap.objs.size
      match ob.data with
      | .seq its _ => pure its.toList
      | _ => unsupported "internal:collect") Q E { s with heap := hpC s us }
  refine wpAny_bind <| wpAny_load (get?_update_seq new0 _) ?_
  show wpAny _ _ (pure ((#[] : Array Value) ++ us.toArray).toList) Q E _
  rw [show ((#[] : Array Value) ++ us.toArray).toList = us by simp]
  exact wpAny_pure k
theorem sort_tup {t : Addr} {us : List Value} {lt : Value → Value → Bool} {Q : Value → Shared → Prop} (O : SrtO.Swo lt) (ht : s.heap.IsTuple t us.toArray) (fits : us.length ≤ sizeLine)
    (can : 2 ≤ us.length → ∀ (h₁ : Heap) (a : Addr), h₁.get? a = some (seqObj "list" us.toArray 0) → (∀ b o, s.heap.get? b = some o → b ≠ a ∧ h₁.get? b = some o) → SrtO.SortableO prog w A.in1.in1 { s with heap := h₁ } a us lt)
    (k : ∀ out : List Value, SrtO.Srtd lt out → SrtO.Stb lt out us → Q (.ref (s.heap.objs.size + 1)) { s with heap := sortedAll s.heap us out.toArray }) :
    wpAny (model prog w) A (call (.builtin "sorted") [.ref t]) Q E s := by
  have size1 : (hpC s us).objs.size = s.heap.objs.size + 1 := by rw [Heap.size_update, size_push']
  have there : ((hpC s us).push (seqObj "list" us.toArray 0)).get? (s.heap.objs.size + 1) = some (seqObj "list" us.toArray 0) := by
    rw [← size1]
    exact Heap.get?_push_size _ rfl
  have old : ∀ b o, s.heap.get? b = some o → b ≠ s.heap.objs.size + 1 ∧ ((hpC s us).push (seqObj "list" us.toArray 0)).get? b = some o := fun b o q => by
    have below : b < s.heap.objs.size := Heap.lt_size q
    refine ⟨Nat.ne_of_lt (Nat.lt_succ_of_lt below), Heap.get?_push_of_some _ ?_⟩
    rw [Heap.get?_update_ne _ _ _ _ (Nat.ne_of_lt below)]
    exact Heap.get?_push_of_some _ q
  refine Calls.call_function_entry kind_sorted plain_sorted entry_sorted (args_sorted1 _) ?_
  unfold Builtin.«sorted»
  refine wpAny_bind (m := checkCount "sorted" 1 1 _) <| wpAny_pure ?_
  refine wpAny_bind <| gather_tup ht fits ?_
  refine wpAny_bind <| wpAny_newList ?_ fits
  show wpAny _ _ _ _ _ { s with heap := (hpC s us).push (seqObj "list" us.toArray 0) }
  rw [size1]
  refine wpAny_bind <| wpAny_holding <| wpAny_call_entry slot_list_sort ⟨_, there, rfl⟩ entry_list_sort (SrtO.list_sort_ord O there fits (fun two => can two _ _ there old) fun out h1 h2 => ⟨_, rfl, ?_⟩) (args_list_sort _)
  exact wpAny_pure ⟨_, rfl, k out h1 h2⟩
end
def rSortedTI (K : PySem.W.Frag) : List V → Hp → VK → Prop := fun vs H Q => ∃ (a : Addr) (ns : List Int), vs = [V.ref a] ∧ SqT K H a (ns.map V.int) ∧ ∀ (ms : List Int) (p : Addr), ms.Perm ns → ms.Pairwise (· ≤ ·) → H p = none → Q (.ref p) (upd H p (.lst (ms.map V.int)))
theorem cr_sortedTI {X : Cx} : CallR X (.builtin "sorted") (rSortedTI X.K) := by
  intro pins s σ H vs us Q I r h
  obtain ⟨a, ns, rfl, hs, q⟩ := h
  obtain ⟨its, rv, tup, fit⟩ := I.tuple hs
  have hin := rv.ints
  rw [Vals.ref1 r]
  have isT : s.heap.IsTuple a its.toArray := by
    obtain ⟨o, e, c, n, d⟩ := tup
    exact ⟨o, e, c, n, d⟩
  refine sort_tup SrtO.swo_int isT (by rw [← rv.length]; exact fit) (fun two _ _ _ _ => SrtO.ints_sortable hin two) fun out h1 h2 => ?_
  obtain ⟨o1, o2, o3⟩ := SrtO.ints_out hin h1 h2
  obtain ⟨ep, at1⟩ := PyProof.Rows.sortedAll_at s.heap its out.toArray
  have short : ((out.map SrtO.iv).map V.int).length ≤ sizeLine := by
    rw [List.length_map] at fit ⊢
    rw [o2.length_eq]
    exact fit
  refine ⟨.ref _, upd H (s.heap.objs.size + 1) (.lst ((out.map SrtO.iv).map V.int)), ?_, rfl, q _ _ o2 o3 (I.hok.fresh (Nat.le_succ _))⟩
  exact I.laid (t' := s.toks) (fun _ _ => PyProof.Rows.sortedAll_old) (Nat.le_succ _) ⟨short, out, ep, vals_of_ints o1, at1⟩
/-! ### lists of numbers, by their first, then by their second .. -/
def lexLe : List Int → List Int → Bool
  | [], _ => true
  | _ :: _, [] => false
  | x :: xs, y :: ys => decide (x < y) || (decide (x = y) && lexLe xs ys)
theorem lexLe_code {B : Int} : ∀ {n m : List Int}, n.length = m.length → TS.Bd B n → TS.Bd B m → (lexLe n m = true ↔ TS.code B n ≤ TS.code B m)
  | [], [], _, _, _ => by simp [lexLe]
  | [], _ :: _, h, _, _ => by simp at h
  | _ :: _, [], h, _, _ => by simp at h
  | x :: xs, y :: ys, h, hn, hm => by
    have hl : xs.length = ys.length := by simpa using h
    rcases Int.lt_trichotomy x y with c | c | c
    · have := TS.code_lt hl hn.tail hm.tail c
      simp only [lexLe, decide_eq_true c, Bool.true_or, true_iff]
      omega
    · subst c
      have ih := lexLe_code hl hn.tail hm.tail
      have := TS.code_same (B := B) (d := x) hl.symm
      simp only [lexLe, Int.lt_irrefl, decide_false, Bool.false_or, decide_true, Bool.true_and, ih]
      omega
    · have := TS.code_lt hl.symm hm.tail hn.tail c
      have c1 : ¬ x < y := by omega
      have c2 : ¬ x = y := by omega
      simp only [lexLe, decide_eq_false c1, decide_eq_false c2, Bool.false_and, Bool.or_false, Bool.false_eq_true, false_iff]
      omega
theorem lexLe_total : ∀ n m : List Int, lexLe n m = true ∨ lexLe m n = true
  | [], _ => .inl rfl
  | _ :: _, [] => .inr rfl
  | x :: xs, y :: ys => by
    rcases Int.lt_trichotomy x y with c | c | c
    · exact .inl (by simp [lexLe, c])
    · subst c
      rcases lexLe_total xs ys with h | h
      · exact .inl (by simp [lexLe, h])
      · exact .inr (by simp [lexLe, h])
    · exact .inr (by simp [lexLe, c])
theorem lexLe_anti : ∀ {n m : List Int}, lexLe n m = true → lexLe m n = true → n = m
  | [], [], _, _ => rfl
  | [], _ :: _, _, h => by simp [lexLe] at h
  | _ :: _, [], h, _ => by simp [lexLe] at h
  | x :: xs, y :: ys, h, h' => by
    simp only [lexLe, Bool.or_eq_true, decide_eq_true_eq, Bool.and_eq_true] at h h'
    have e : x = y := by omega
    subst e
    have a : lexLe xs ys = true := by
      rcases h with h | h
      · omega
      · exact h.2
    have b : lexLe ys xs = true := by
      rcases h' with h' | h'
      · omega
      · exact h'.2
    rw [lexLe_anti a b]
theorem lexLe_trans : ∀ {n m k : List Int}, lexLe n m = true → lexLe m k = true → lexLe n k = true
  | [], _, _, _, _ => rfl
  | _ :: _, [], _, h, _ => by simp [lexLe] at h
  | _ :: _, _ :: _, [], _, h => by simp [lexLe] at h
  | x :: xs, y :: ys, z :: zs, h, h' => by
    simp only [lexLe, Bool.or_eq_true, decide_eq_true_eq, Bool.and_eq_true] at h h' ⊢
    rcases h with h | h <;> rcases h' with h' | h'
    · exact .inl (by omega)
    · exact .inl (by omega)
    · exact .inl (by omega)
    · exact .inr ⟨by omega, lexLe_trans h.2 h'.2⟩
def insLx (n : List Int) : List (List Int) → List (List Int)
  | [] => [n]
  | m :: r => if lexLe n m = true then n :: m :: r else m :: insLx n r
def sortLx : List (List Int) → List (List Int)
  | [] => []
  | n :: r => insLx n (sortLx r)
theorem insLx_perm (n : List Int) : ∀ r, (insLx n r).Perm (n :: r)
  | [] => .refl _
  | m :: r => by
    unfold insLx
    split
    · exact .refl _
    · exact ((insLx_perm n r).cons m).trans (.swap n m r)
theorem sortLx_perm : ∀ r, (sortLx r).Perm r
  | [] => .refl _
  | n :: r => (insLx_perm n _).trans ((sortLx_perm r).cons n)
theorem insLx_ord (n : List Int) : ∀ r, r.Pairwise (fun a b => lexLe a b = true) → (insLx n r).Pairwise (fun a b => lexLe a b = true)
  | [], _ => by simp [insLx]
  | m :: r, h => by
    unfold insLx
    split
    · rename_i c
      refine List.pairwise_cons.mpr ⟨fun y hy => ?_, h⟩
      rcases List.mem_cons.mp hy with rfl | hy
      · exact c
      · exact lexLe_trans c ((List.pairwise_cons.mp h).1 y hy)
    · rename_i c
      have c' : lexLe m n = true := (lexLe_total n m).resolve_left c
      refine List.pairwise_cons.mpr ⟨fun y hy => ?_, insLx_ord n r (List.pairwise_cons.mp h).2⟩
      rcases List.mem_cons.mp ((insLx_perm n r).mem_iff.mp hy) with rfl | hy
      · exact c'
      · exact (List.pairwise_cons.mp h).1 y hy
theorem sortLx_ord : ∀ r, (sortLx r).Pairwise (fun a b => lexLe a b = true)
  | [] => List.Pairwise.nil
  | n :: r => insLx_ord n _ (sortLx_ord r)
theorem ordLx_uniq : ∀ (xs ys : List (List Int)), xs.Perm ys → xs.Pairwise (fun a b => lexLe a b = true) → ys.Pairwise (fun a b => lexLe a b = true) → xs = ys
  | [], ys, h, _, _ => (List.Perm.nil_eq h)
  | x :: xs, [], h, _, _ => (List.Perm.eq_nil h)
  | x :: xs, y :: ys, h, hx, hy => by
    have e : x = y := by
      rcases List.mem_cons.mp (h.mem_iff.mp (List.mem_cons_self (a := x) (l := xs))) with e | e
      · exact e
      · rcases List.mem_cons.mp (h.mem_iff.mpr (List.mem_cons_self (a := y) (l := ys))) with e2 | e2
        · exact e2.symm
        · exact lexLe_anti ((List.pairwise_cons.mp hx).1 y e2) ((List.pairwise_cons.mp hy).1 x e)
    subst e
    rw [ordLx_uniq xs ys (List.Perm.cons_inv h) (List.pairwise_cons.mp hx).2 (List.pairwise_cons.mp hy).2]
/-! ### tuples of numbers in a list -/
def tupI (ns : List Int) : D := .tup (ns.map .int)
def tupsL : List D → Option (List (List Int))
  | [] => some []
  | .tup ds :: r => match intsL ds, tupsL r with
    | some ns, some l => some (ns :: l)
    | _, _ => none
  | _ => none
theorem tupsL_eq : ∀ {ds : List D} {L : List (List Int)}, tupsL ds = some L → ds = L.map tupI
  | [], L, h => by cases h; rfl
  | .tup es :: r, L, h => by
    rw [tupsL] at h
    split at h
    · rename_i ns l h1 h2
      cases h
      rw [tupsL_eq h2, intsL_eq h1]; rfl
    · cases h
  | .int _ :: _, _, h => by cases h
  | .hole :: _, _, h => by cases h
  | .non :: _, _, h => by cases h
  | .bl _ :: _, _, h => by cases h
  | .str _ :: _, _, h => by cases h
  | .lst _ _ :: _, _, h => by cases h
  | .out _ :: _, _, h => by cases h
  | .dic _ _ _ :: _, _, h => by cases h
  | .dit _ _ _ :: _, _, h => by cases h
  | .dnk _ _ :: _, _, h => by cases h
  | .ins _ _ _ _ :: _, _, h => by cases h
theorem intsL_map : ∀ ns : List Int, intsL (ns.map .int) = some ns
  | [] => rfl
  | n :: ns => by rw [List.map_cons, intsL, intsL_map ns]; rfl
theorem tupsL_map : ∀ L : List (List Int), tupsL (L.map tupI) = some L
  | [] => rfl
  | n :: L => by rw [List.map_cons, tupI, tupsL, intsL_map, tupsL_map L]
theorem ownL_perm {G : Gx} {F : Hp} : ∀ {xs ys : List V}, xs.Perm ys → ∀ {ds : List D}, OwnL G F ds xs emp → ∃ es, ds.Perm es ∧ OwnL G F es ys emp := by
  intro xs ys p
  induction p with
  | nil => exact fun {ds} o => ⟨ds, .refl _, o⟩
  | @cons x xs ys p ih =>
    intro ds o
    cases ds with
    | nil => cases o.1
    | cons d ds =>
      obtain ⟨v, r, M1, M2, e, j, o1, o2⟩ := o
      cases e
      obtain ⟨rfl, rfl⟩ := j_emp2 j
      obtain ⟨es, p1, o3⟩ := ih o2
      exact ⟨d :: es, p1.cons d, x, ys, emp, emp, rfl, J.emps, o1, o3⟩
  | swap x y xs =>
    intro ds o
    cases ds with
    | nil => cases o.1
    | cons d ds =>
      obtain ⟨v, r, M1, M2, e, j, o1, o2⟩ := o
      cases e
      obtain ⟨rfl, rfl⟩ := j_emp2 j
      cases ds with
      | nil => cases o2.1
      | cons d2 ds =>
        obtain ⟨v, r, M1, M2, e, j, o3, o4⟩ := o2
        cases e
        obtain ⟨rfl, rfl⟩ := j_emp2 j
        exact ⟨d2 :: d :: ds, .swap _ _ _, x, y :: xs, emp, emp, rfl, J.emps, o3, y, xs, emp, emp, rfl, J.emps, o1, o4⟩
  | trans p1 p2 ih1 ih2 =>
    intro ds o
    obtain ⟨es, q1, o1⟩ := ih1 o
    obtain ⟨fs, q2, o2⟩ := ih2 o1
    exact ⟨fs, q1.trans q2, o2⟩
theorem frzL_tupI (L : List (List Int)) : frzL (L.map tupI) = L.map tupI := by
  refine frzL_shr ?_
  rw [shrL_eq, List.all_eq_true]
  intro d hd
  obtain ⟨n, _, rfl⟩ := List.mem_map.mp hd
  show shrL (n.map .int) = true
  rw [shrL_eq, List.all_eq_true]
  intro x hx
  obtain ⟨i, _, rfl⟩ := List.mem_map.mp hx
  rfl
theorem own_tupI {G : Gx} {F H : Hp} {n : List Int} {v : V} (o : Own G F (tupI n) v emp) (l : Le F H) : TupI G.K H v n := by
  obtain ⟨a, vs, S, C, rfl, j, w, g⟩ := own_tup o
  rw [ownL_ints w] at g
  exact ⟨a, rfl, g H l emp_le⟩
/-- all of one length, none below 0 -/
def evenL (L : List (List Int)) : Bool := decide (L.length < 64) && decide (1 ≤ (L.headD [0]).length) && L.all fun n => decide (n.length = (L.headD [0]).length) && n.all fun i => decide (0 ≤ i)
theorem bd_of (L : List (List Int)) : ∃ B : Int, ∀ n ∈ L, (∀ i ∈ n, 0 ≤ i) → TS.Bd B n := by
  refine ⟨1 + ((L.map List.sum).map Int.natAbs).sum, ?_⟩
  intro n hn h0 m hm
  refine ⟨h0 m hm, ?_⟩
  have h1 : m ≤ n.sum := by
    clear hn
    induction n with
    | nil => cases hm
    | cons x n ih =>
      have hs : ∀ l : List Int, (∀ i ∈ l, 0 ≤ i) → 0 ≤ l.sum := by
        intro l
        induction l with
        | nil => intro _; simp
        | cons y l ih2 =>
          intro hl
          have a := hl y (by simp)
          have b := ih2 fun i hi => hl i (by simp [hi])
          rw [List.sum_cons]; omega
      have hx := h0 x (by simp)
      have hn0 : ∀ i ∈ n, 0 ≤ i := fun i hi => h0 i (by simp [hi])
      have := hs n hn0
      rw [List.sum_cons]
      rcases List.mem_cons.mp hm with rfl | hm
      · omega
      · have := ih hn0 hm
        omega
  have h2 : n.sum.natAbs ≤ ((L.map List.sum).map Int.natAbs).sum := by
    clear h0 hm h1
    induction L with
    | nil => cases hn
    | cons x L ih =>
      simp only [List.map_cons, List.sum_cons]
      rcases List.mem_cons.mp hn with rfl | hn
      · omega
      · have := ih hn
        omega
  omega
def fSortA : List D → Option D
  | [.tup es] => (intsL es).map fun ns => .lst true ((sortI false ns).map .int)
  | [.lst o es] => match intsL es with
    | some ns => some (.lst true ((sortI false ns).map .int))
    | none => (match tupsL es with
      | some L => if evenL L = true then some (.lst true ((sortLx L).map tupI)) else none
      | none => none)
  | [.out es] => (intsL es).map fun ns => .lst true ((sortI false ns).map .int)
  | _ => none
def rSortA (K : PySem.W.Frag) : List V → Hp → VK → Prop := fun vs H Q => (rSortedI K vs H Q ∨ rSortedTI K vs H Q) ∨ ∃ d B, 1 ≤ d ∧ rSortU K d B vs H Q
theorem cr_sortA {X : Cx} : CallR X (.builtin "sorted") (rSortA X.K) := by
  intro pins s σ H vs us Q I r h
  rcases h with (h | h) | ⟨d, B, hd, h⟩
  · exact cr_sortedI pins s σ H vs us Q I r h
  · exact cr_sortedTI pins s σ H vs us Q I r h
  · exact cr_sortT hd pins s σ H vs us Q I r h
theorem fn_sortA {G : Gx} : FN G (rSortA G.K) fSortA := by
  intro F N T R H xs ds z Q j o hz k
  have dd := dump1 j
  unfold fSortA at hz
  split at hz
  · rename_i es
    obtain ⟨v, r, M1, M2, rfl, jm, o1, rfl, rfl⟩ := o
    have e := (J.emp_iff.mp (jm.re [1, 0])).eq1
    subst e
    cases he : intsL es with
    | none => rw [he] at hz; cases hz
    | some ns =>
      rw [he] at hz
      cases hz
      rw [intsL_eq he] at o1
      obtain ⟨a, vs, S, C, rfl, jc, w, g⟩ := own_tup o1
      rw [ownL_ints w] at g
      refine .inl (.inr ⟨a, ns, rfl, g H j.le (j.sub (by simp)), fun ms p hp ho hn => ?_⟩)
      rw [sortI_uniq (b := false) hp ho] at *
      exact new_lst dd.1 (own_ints _) (fun v F' T' H' l => k v F' T' H' (dd.2.1.trans l)) p hn
  · rename_i o' es
    obtain ⟨v, r, M1, M2, rfl, jm, o1, rfl, rfl⟩ := o
    have e := (J.emp_iff.mp (jm.re [1, 0])).eq1
    subst e
    split at hz
    · rename_i ns he
      cases hz
      rw [intsL_eq he] at o1
      obtain ⟨a, vs, S, C, rfl, jc, w, g⟩ := own_lst o1
      rw [ownL_ints w] at g
      refine .inl (.inl ⟨a, ns, rfl, .of (g H j.le (j.sub (by simp))), fun ms p hp ho hn => ?_⟩)
      rw [sortI_uniq (b := false) hp ho] at *
      exact new_lst dd.1 (own_ints _) (fun v F' T' H' l => k v F' T' H' (dd.2.1.trans l)) p hn
    · split at hz
      · rename_i L he
        split at hz
        · rename_i hc
          cases hz
          rw [tupsL_eq he] at o1
          obtain ⟨a, vs, S, C, rfl, jc, w, g⟩ := own_lst o1
          have w2 := ownL_frz w dd.2.1 ((j_le jc).2.trans dd.2.2)
          rw [frzL_tupI] at w2
          simp only [evenL, Bool.and_eq_true, decide_eq_true_eq, List.all_eq_true] at hc
          obtain ⟨⟨h64, hd⟩, hall⟩ := hc
          obtain ⟨B, hB⟩ := bd_of L
          have look : ∀ {L' : List (List Int)} {us : List V}, OwnL G (un F T) (L'.map tupI) us emp → ∀ (i : Nat) (x : V), us[i]? = some x → ∃ n, L'[i]? = some n ∧ TupI G.K H x n := fun {L'} us => by
            intro ho i x hx
            have hl := ownL_len ho
            rw [List.length_map] at hl
            have hi : i < L'.length := by
              have := (List.getElem?_eq_some_iff.mp hx).1
              omega
            obtain ⟨v, e1, ov⟩ := ownL_get (i := i) (d := tupI L'[i]) ho (by rw [List.getElem?_map, List.getElem?_eq_getElem hi]; rfl)
            rw [hx] at e1
            cases e1
            exact ⟨_, List.getElem?_eq_getElem hi, own_tupI ov dd.1.le⟩
          refine .inr ⟨_, B, hd, a, vs, rfl, .of (g H j.le (j.sub (by simp))), by rw [ownL_len w, List.length_map]; exact h64, fun x hx => ?_, fun ys p hp ho hn => ?_⟩
          · obtain ⟨i, hi⟩ := List.getElem?_of_mem hx
            obtain ⟨n, hn, t⟩ := look w2 i x hi
            have m := List.mem_of_getElem? hn
            exact ⟨n, t, (hall n m).1, hB n m fun i hi => (hall n m).2 i hi⟩
          · obtain ⟨es', pe, we⟩ := ownL_perm hp.symm w2
            obtain ⟨L', rfl, pL⟩ : ∃ L' : List (List Int), es' = L'.map tupI ∧ L.Perm L' := by
              have inj : ∀ a b : List Int, tupI a = tupI b → a = b := fun a b e => by
                have := congrArg (fun d => match d with
                  | D.tup ds => intsL ds
                  | _ => none) e
                simp only [tupI, intsL_map] at this
                exact Option.some.inj this
              have hf : ∃ L' : List (List Int), es' = L'.map tupI := by
                have : ∀ l : List D, (∀ d ∈ l, ∃ n, d = tupI n) → ∃ L' : List (List Int), l = L'.map tupI := by
                  intro l
                  induction l with
                  | nil => exact fun _ => ⟨[], rfl⟩
                  | cons d l ih =>
                    intro hd
                    obtain ⟨n, rfl⟩ := hd d (by simp)
                    obtain ⟨L', rfl⟩ := ih fun x hx => hd x (by simp [hx])
                    exact ⟨n :: L', rfl⟩
                refine this es' fun d hd => ?_
                obtain ⟨n, _, e⟩ := List.mem_map.mp (pe.mem_iff.mpr hd)
                exact ⟨n, e.symm⟩
              obtain ⟨L', rfl⟩ := hf
              refine ⟨L', rfl, ?_⟩
              have q := pe.filterMap (fun d => match d with
                | D.tup ds => intsL ds
                | _ => none)
              have fm : ∀ l : List (List Int), (l.map tupI).filterMap (fun d => match d with
                | D.tup ds => intsL ds
                | _ => none) = l := by
                intro l
                induction l with
                | nil => rfl
                | cons n l ih => rw [List.map_cons, List.filterMap_cons, tupI]; simp only [intsL_map, ih]
              rwa [fm, fm] at q
            have ord : L'.Pairwise (fun a b => lexLe a b = true) := by
              rw [List.pairwise_iff_getElem] at ho ⊢
              intro i i' hi hi' hlt
              have hl := ownL_len we
              rw [List.length_map] at hl
              have c := ho i i' (by omega) (by omega) hlt
              obtain ⟨n, en, tn⟩ := look we i _ (List.getElem?_eq_getElem (by omega))
              obtain ⟨m, em, tm⟩ := look we i' _ (List.getElem?_eq_getElem (by omega))
              rw [List.getElem?_eq_getElem hi] at en
              rw [List.getElem?_eq_getElem hi'] at em
              cases en
              cases em
              have mn := pL.mem_iff.mpr (List.getElem_mem hi)
              have mm := pL.mem_iff.mpr (List.getElem_mem hi')
              exact (lexLe_code ((hall _ mn).1.trans (hall _ mm).1.symm) (hB _ mn fun i hi => (hall _ mn).2 i hi) (hB _ mm fun i hi => (hall _ mm).2 i hi)).mpr (c _ _ tn tm)
            have eL : L' = sortLx L := ordLx_uniq _ _ (pL.symm.trans (sortLx_perm L).symm) ord (sortLx_ord L)
            rw [eL] at we
            exact new_lst dd.1 we (fun v F' T' H' l => k v F' T' H' (dd.2.1.trans l)) p hn
        · cases hz
      · cases hz
  · rename_i es
    obtain ⟨v, r, M1, M2, rfl, jm, o1, rfl, rfl⟩ := o
    have e := (J.emp_iff.mp (jm.re [1, 0])).eq1
    subst e
    cases he : intsL es with
    | none => rw [he] at hz; cases hz
    | some ns =>
      rw [he] at hz
      cases hz
      rw [intsL_eq he] at o1
      obtain ⟨a, vs, rfl, rfl, g, w⟩ := o1
      rw [ownL_ints w] at g
      refine .inl (.inl ⟨a, ns, rfl, sqL_le g j.le, fun ms p hp ho hn => ?_⟩)
      rw [sortI_uniq (b := false) hp ho] at *
      exact new_lst dd.1 (own_ints _) (fun v F' T' H' l => k v F' T' H' (dd.2.1.trans l)) p hn
  · cases hz
section
variable {X : Cx} {cl : Nat → Addr} {Φ : St → Prop} {E : St → XK} {c : Bool} {k : Nat} {pos p : Pos} {e : Expr}
theorem re_sortA {m : M (List D)} (h : RA X cl Φ E c [e] m) (hm : X.mg "sorted" = none) (hg : Gl X "sorted" := by rfl) (he : starEach [e] X.env = (false, eval e X.env) :: starEach [] X.env := by rfl) (hpl : (backTo pos (starEach [] X.env)).any (·.1) = false := by rfl) :
    RE X cl Φ E c (.Call (.Name "sorted" p) [e] [] pos) (mFun fSortA m) := re_blt cr_sortA fn_sortA hm (by decide +kernel) h hg (by decide) (by decide) he hpl
end
end Z

end
section
set_option maxRecDepth 100000
/-! ZM: in, not in: the list stays where it is -/
namespace Z
open PySem PySem.Spec L2
open PyProof.Rows hiding St
/-- the second operand is only looked at -/
def mBinP (f : D → D → Option D) (ma : M D) (q : M Pth) : M D := fun ρ => (ma ρ).bind fun d ρ1 => (q ρ1).bind fun p ρ2 => match getR ρ2 p with
  | some e => ofOpt (f d e) ρ2
  | none => .no
def FO2 (G : Gx) (r : R2) (f : D → D → Option D) : Prop := ∀ {F T1 T2 H : Hp} {x y : V} {d e z : D} {Q : VK}, Le F H → Le T1 H → Le T2 H → Own G F d x T1 → Own G F e y T2 → f d e = some z → (∀ w, (∀ F', Own G F' z w emp) → Q w H) → r x y H Q
theorem fo_inA {G : Gx} : FO2 G (fun x y H Q => rIn G.K false x y H Q ∨ rInD G.K x y H Q) dInA := by
  intro F T1 T2 H x y d e z Q lF l1 l2 o1 o2 hz k
  unfold dInA at hz
  split at hz
  · rename_i b hb
    cases hz
    obtain ⟨p, xs, h1, h2, h3, h4, rfl⟩ := own_in o1 o2 lF l2 hb
    exact .inl ⟨p, xs, h1, h2, h3, h4, k _ fun _ => ⟨rfl, rfl⟩⟩
  · cases hb : inD d e with
    | none => rw [hb] at hz; cases hz
    | some b =>
      rw [hb] at hz; cases hz
      obtain ⟨p, ps, h1, h2, h3, h4, rfl⟩ := inD_some hb
      exact .inr ⟨p, ps, own_dp lF o1 l1 h1, own_dp lF o2 l2 h2, h3, h4, k _ fun _ => ⟨rfl, rfl⟩⟩
theorem fo_notInA {G : Gx} : FO2 G (fun x y H Q => rIn G.K true x y H Q ∨ rNotInD G.K x y H Q) dNotInA := by
  intro F T1 T2 H x y d e z Q lF l1 l2 o1 o2 hz k
  unfold dNotInA at hz
  split at hz
  · rename_i b hb
    cases hz
    obtain ⟨p, xs, h1, h2, h3, h4, rfl⟩ := own_in o1 o2 lF l2 hb
    exact .inl ⟨p, xs, h1, h2, h3, h4, k _ fun _ => ⟨rfl, rfl⟩⟩
  · cases hb : inD d e with
    | none => rw [hb] at hz; cases hz
    | some b =>
      rw [hb] at hz; cases hz
      obtain ⟨p, ps, h1, h2, h3, h4, rfl⟩ := inD_some hb
      exact .inr ⟨p, ps, own_dp lF o1 l1 h1, own_dp lF o2 l2 h2, h3, h4, k _ fun _ => ⟨rfl, rfl⟩⟩
section
variable {X : Cx} {cl : Nat → Addr} {Φ : St → Prop} {E : St → XK} {c : Bool} {k : Nat} {pos p : Pos} {a b : Expr} {ma : M D}
theorem tE_binP {r : R2} {f : D → D → Option D} {m : M Pth} {σ : St} {H : Hp} {Q : VK} (hf : FO2 (gx X cl) r f) (hw : ∀ ρ p ρ', m ρ = .ok p ρ' → ∃ d, getR ρ' p = some d ∧ isHole d = false) (h : tE (gx X cl) Φ E c (mBinP f ma m) σ H Q) :
    tE (gx X cl) Φ E c ma σ H fun x H1 => tP (gx X cl) Φ E m σ H1 fun y H2 => KF X.K H2 → r x y H2 Q := by
  obtain ⟨F, N, R, ρ, a, q⟩ := h
  refine ⟨F, N, R, ρ, a, ?_⟩
  unfold mBinP at q
  cases e : ma ρ with
  | no => rw [e] at q; exact q
  | ex k ρ' => rw [e] at q; exact q
  | ok d ρ1 =>
    rw [e] at q
    intro v F1 N1 T1 H1 l1 k1 j1 r1 o1
    simp only [O.bind] at q
    have jt : J [T1, R] (un T1 R) := (j1.re [2, 3, 0, 1]).join.1
    refine ⟨F1, N1, un T1 R, ρ1, ⟨j1.hide, r1, a.2.2⟩, ?_⟩
    cases e1 : m ρ1 with
    | no => rw [e1] at q; exact q
    | ex k ρ' => rw [e1] at q; exact PX.more q l1 jt
    | ok p ρ2 =>
      rw [e1] at q
      intro v0 w F2 N2 H2 l2 k2 j2 r2 s2 at2 kf
      obtain ⟨d2, g, n⟩ := hw _ _ _ e1
      simp only [g] at q
      obtain ⟨M1, Mr, jm, ow, kk⟩ := place (G := gx X cl) j2 r2 g n kf s2 at2
      have j3 : J [F2, N2, T1, R] H2 := J.unhide (ys := []) jt j2
      cases e2 : f d d2 with
      | none => simp only [e2] at q; exact q.elim
      | some z =>
        simp only [e2] at q
        have d3 := dump1 j3
        exact hf j3.le (j3.sub (by simp)) ((j_le jm).1.trans (j3.sub (by simp))) (own_le l2 o1) ow e2 fun y ow2 => q y _ N2 emp H2 ((l1.trans l2).trans d3.2.1) (fun z => (k1 z).trans k2) d3.1 (rel_le d3.2.1 r2) (ow2 _)
theorem x_cmpP {op : CmpOp} {r : R2} {f : D → D → Option D} {m : M Pth} (ho : OpR X (compareOp op) r) (hf : FO2 (gx X cl) r f) (hm : behindInMarks op b = false) (ha : RE X cl Φ E c a ma) (hb : RP X cl Φ E b m) : RE X cl Φ E c (.Compare a [op] [b] pos) (mBinP f ma m) :=
  ⟨(pe_cmpR ho ha.pe hb.pe.kf hm).weak fun _ _ _ h => tE_binP hf hb.wf h⟩
theorem rb_cmpP {op : CmpOp} {r : R2} {f : D → D → Option D} {m : M Pth} (ho : OpR X (compareOp op) r) (hf : FO2 (gx X cl) r f) (hm : behindInMarks op b = false) (ha : RE X cl Φ E c a ma) (hb : RP X cl Φ E b m) : RB X cl Φ E c (.Compare a [op] [b] pos) (mTst (mBinP f ma m)) :=
  ⟨(pt_cmpR ho ha.pe hb.pe.kf hm).weak fun _ _ _ h => tE_binP hf hb.wf (tB_val h)⟩
theorem xInP {m : M Pth} (κ : Kx X E k) (ha : RE X cl Φ E c a ma) (hb : RP X cl Φ E b m) (hm : behindInMarks .In b = false := by rfl) : RE X cl Φ E c (.Compare a [.In] [b] pos) (mBinP dInA ma m) := x_cmpP (op_in_seq.or (op_inD κ.u65)) fo_inA hm ha hb
theorem xNotInP {m : M Pth} (κ : Kx X E k) (ha : RE X cl Φ E c a ma) (hb : RP X cl Φ E b m) (hm : behindInMarks .NotIn b = false := by rfl) : RE X cl Φ E c (.Compare a [.NotIn] [b] pos) (mBinP dNotInA ma m) := x_cmpP (op_notIn_seq.or (op_notInD κ.u65)) fo_notInA hm ha hb
theorem bInP {m : M Pth} (κ : Kx X E k) (ha : RE X cl Φ E c a ma) (hb : RP X cl Φ E b m) (hm : behindInMarks .In b = false := by rfl) : RB X cl Φ E c (.Compare a [.In] [b] pos) (mTst (mBinP dInA ma m)) := rb_cmpP (op_in_seq.or (op_inD κ.u65)) fo_inA hm ha hb
theorem bNotInP {m : M Pth} (κ : Kx X E k) (ha : RE X cl Φ E c a ma) (hb : RP X cl Φ E b m) (hm : behindInMarks .NotIn b = false := by rfl) : RB X cl Φ E c (.Compare a [.NotIn] [b] pos) (mTst (mBinP dNotInA ma m)) := rb_cmpP (op_notIn_seq.or (op_notInD κ.u65)) fo_notInA hm ha hb
end
end Z

end
section
set_option maxRecDepth 100000
/-! ZN: enumerate of a tuple -/
namespace Z
open PySem PySem.Spec L2
open PyProof.Rows hiding St
section
variable {prog : Program} {w : World} {A : Around} {E : Value → Shared → Prop} {s : Shared}
set_option maxHeartbeats 1000000 in
theorem enumT_new (a : Addr) (xs : Array Value) :
    Meets (Builtin.«enumerate.__new__» ⟨[.type "enumerate", .ref a], []⟩) (fun _ R s => s.heap.IsTuple a xs ∧
      R (.ok (.ret (.ref (s.heap.push { cls := .type "tuple_iterator", data := .fields #[.ref a, .int 0 0] }).objs.size)))
        { s with heap := (s.heap.push { cls := .type "tuple_iterator", data := .fields #[.ref a, .int 0 0] }).push { cls := .type "enumerate", data := .fields #[.none, .bool false, .ref s.heap.objs.size, rawInt 0, .none, .none] } }) :=
  .of_wp fun prog w A R s ⟨ht0, k⟩ => by
    obtain ⟨hp, gl, dd, tk, os⟩ := s
    have sb := sub_enumerate
    have ht : Heap.IsTuple (Shared.heap ⟨hp, gl, dd, tk, os⟩) a xs := ht0
    wp_walk
    refine wpAny_stack_any fun _ => wpAny_pure ?_
    split
    · rename_i cc _ _ _ _ _
      cases (cc == Value.type "enumerate") <;>
      · wp_walk using wpAny_pyIter_tuple ht
        exact ⟨_, rfl, k⟩
    · wp_walk using wpAny_pyIter_tuple ht
      exact ⟨_, rfl, k⟩
theorem enumT_call {a : Addr} {xs : Array Value} {Q : Value → Shared → Prop} (ht : s.heap.IsTuple a xs)
    (k : ∀ h1, IsEnum h1 (s.heap.objs.size + 1) s.heap.objs.size 0 .none → h1.IsTupleIter s.heap.objs.size a 0 →
      (∀ c o, s.heap.get? c = some o → h1.get? c = some o) → Q (.ref (s.heap.objs.size + 1)) { s with heap := h1 }) :
    wpAny (model prog w) A (call (.type "enumerate") [.ref a]) Q E s := by
  refine callType_new F.called_enumerate (by decide) (F.typeCall_enumerate_1 _) (F.newCall_enumerate_1 _) (fun ob => F.args_object_init_2 ob _) F.entry_enumerate_new (enumT_new a xs) ⟨ht, ?_⟩
  have sz : (s.heap.push { cls := .type "tuple_iterator", data := .fields #[.ref a, .int 0 0] }).objs.size = s.heap.objs.size + 1 := Heap.size_push ..
  show _ ∧ _
  rw [sz]
  have en : IsEnum ((s.heap.push { cls := .type "tuple_iterator", data := .fields #[.ref a, .int 0 0] }).push
      { cls := .type "enumerate", data := .fields #[.none, .bool false, .ref s.heap.objs.size, rawInt 0, .none, .none] }) (s.heap.objs.size + 1) s.heap.objs.size 0 .none := by
    have q := Heap.get?_push_size (s.heap.push { cls := .type "tuple_iterator", data := .fields #[.ref a, .int 0 0] })
      (o := { cls := .type "enumerate", data := .fields #[.none, .bool false, .ref s.heap.objs.size, rawInt 0, .none, .none] }) rfl
    rw [sz] at q; exact q
  exact ⟨⟨_, en, rfl⟩, k _ en ⟨_, Heap.get?_push_of_some _ (Heap.get?_push_size _ rfl), rfl, rfl⟩ fun c o q => Heap.get?_push_of_some _ (Heap.get?_push_of_some _ q)⟩
end
/-- the tuple at a, each item with its number in a new pair -/
def IteT (K : PySem.W.Frag) (a : Addr) : It :=
  ⟨fun n H => ∃ (l : List V) (v : V), SqT K H a l ∧ l[n]? = some v, fun n H v H' => ∃ T z, v = .ref T ∧ H T = none ∧ H' = upd H T (.tup [.int (n : Nat), z]) ∧ ∀ l, SqT K H a l → l[n]? = some z, fun n H => ∃ l : List V, SqT K H a l ∧ l.length ≤ n⟩
theorem turn_enumT {P : Program} {w : World} {K : PySem.W.Frag} {elts : List Expr} {kk : Nat} {tpos : Pos} (a e it : Addr) :
    Turn P w K (.Tuple elts kk tpos) (IteT K a) [e, it] e (fun i h => (∃ old, IsEnum h e it ((i : Nat) : Int) old) ∧ h.IsTupleIter it a i ∧ e ≠ it ∧ e ≠ a ∧ a ≠ it) where
  mem := by simp
  obj := fun i h st b hb => by
    obtain ⟨⟨old, he⟩, ⟨o, ho, hc, hd⟩, _⟩ := st
    rcases (show b = e ∨ b = it by simpa using hb) with z | z
    · rw [z]; exact ⟨_, he, fun v q => nomatch q⟩
    · rw [z]; exact ⟨o, ho, fun v q => by rw [hd] at q; cases q⟩
  keep := fun i h h' ⟨⟨old, he⟩, hi, hne⟩ k => ⟨⟨old, k e (by simp) _ he⟩, hi.at fun o q => k it (by simp) o q, hne⟩
  item := by
    intro X hP hw hK hc i pins s σ H E I hf st hg
    subst hP hw hK
    obtain ⟨⟨old, he⟩, hit, hne, hea, hai⟩ := st
    obtain ⟨l, v, hq, hv⟩ := hg
    obtain ⟨its, rv, p, hz⟩ := I.tuple hq
    obtain ⟨u, hu, ru⟩ := rv.get hv
    have le : e < s.heap.objs.size := Heap.lt_size he
    have li : it < s.heap.objs.size := by obtain ⟨_, q, _⟩ := hit; exact Heap.lt_size q
    have lt : i < its.toArray.size := by
      have := (List.getElem?_eq_some_iff.mp hu).1
      simpa using this
    refine wpAny_pyNext_enum_itemD (Draws.tuple (A := X.A.in1) (I.ok.hd hc) it a hai its.toArray) he ⟨hit, p⟩ lt hne (by simp [hne, hea]) fun u2 h' tk hP ho st' hT hsz hk => ?_
    obtain rfl : u2 = u := by
      have : its.toArray[i]? = some u := by simpa using hu
      rw [this] at hP
      exact (Option.some.inj hP).symm
    refine ⟨_, rfl, wpAny_letOwnedTupleGo_enum (s := { s with heap := h', toks := tk + 1 }) ho fun h2 he' sb => ?_⟩
    have hT2 : h2.get? s.heap.objs.size = some { cls := .type "tuple", data := .seq #[.int i tk, u2] } := (sb.2 _ (Nat.ne_of_gt le)).trans hT
    have new : ObjOk X.prog X.w (upd H s.heap.objs.size (.tup [.int (i : Nat), v])) h2 s.heap.objs.size (.tup [.int (i : Nat), v]) :=
      ⟨by show 2 ≤ sizeLine; decide, [.int i tk, u2], .cons ⟨_, rfl⟩ (.cons ru .nil), ⟨_, hT2, rfl, _, rfl⟩⟩
    have I1 : Inv X pins σ (upd H s.heap.objs.size (.tup [.int (i : Nat), v])) { s with heap := h2, toks := tk + 1 } :=
      I.turnedNew (ch := [e, it]) (fun b ob hb q => (sb.2 b (fun z => hb (by simp [z]))).trans (hk b ob (fun z => hb (by simp [z])) (fun z => hb (by simp [z])) q)) hf (Nat.le_refl _) new
    refine ⟨.ref s.heap.objs.size, _, I1, rfl, ⟨_, v, rfl, I.hok.fresh (Nat.le_refl _), rfl, fun ys hy => by rw [I.tuple_inj hy hq]; exact hv⟩, ⟨⟨u2, ?_⟩, st'.1.at fun o q => (sb.2 it (Ne.symm hne)).trans q, hne, hea, hai⟩, fun b hb => ?_⟩
    · rw [show ((i + 1 : Nat) : Int) = (i : Int) + 1 by omega]; exact he'
    · have lb : b < s.heap.objs.size := by
        rcases (show b = e ∨ b = it by simpa using hb) with z | z
        · rw [z]; exact le
        · rw [z]; exact li
      rw [upd_ne (Nat.ne_of_lt lb)]
      exact (hf b hb).1
  done := by
    intro X hP hw hK hc i pins s σ H E I hf st hg
    subst hP hw hK
    obtain ⟨⟨old, he⟩, hit, hne, hea, hai⟩ := st
    obtain ⟨l, hq, hl⟩ := hg
    obtain ⟨its, rv, p, hz⟩ := I.tuple hq
    obtain ⟨f0, f1, f2, f3, f4, f5⟩ := hf it (by simp)
    have ln := rv.length
    unfold pyNext
    have hT : s.TypeIs (.ref e) "enumerate" := ⟨_, he, rfl⟩
    refine wpAny_bind (wpAny_attempt (wpAny_callSpecial?_slot (name := Str.ofString "__next__") hT F.slot_enumerate_next
      (wpAny_call_entry F.slot_enumerate_next hT F.entry_enumerate_next ?_ (F.args_enumerate_next_1 _))))
    show wpAny _ _ (field (.ref e) 2 >>= _) _ _ _
    refine wpAny_bind (wpAny_field he rfl (x := .ref it) rfl ?_)
    refine wpAny_bind (wpAny_nextOf_tuple_end (I.ok.hd hc) hit p (by simp; omega) fun h' z eb hx => ?_)
    obtain ⟨o, ho, hcl⟩ := hx
    refine wpAny_bind (wpAny_isInstance (T := "StopIteration") (b := true) ⟨o, ho, hcl⟩ isSubtype_stop ?_)
    exact wpAny_pure ⟨rfl, I.turned (t' := s.toks) (fun b ob hb q => eb b ob hb q) f0 f1 f3 f4 f5⟩
  self := fun A i s Q E st h => let ⟨⟨_, he⟩, _⟩ := st; wpAny_pyIter_enum he h
def iEnumA (K : PySem.W.Frag) (ta : TA) : TI := fun σ H R => ta σ H fun vs H1 => ∃ a xs, vs = [.ref a] ∧ ((SqL K H1 a xs ∧ R (Ite K a) H1) ∨ (SqT K H1 a xs ∧ R (IteT K a) H1))
theorem pi_enumA {X : Cx} {e : Expr} {ta : TA} {p pos tpos : Pos} {elts : List Expr} {kk : Nat} (hg : Gl X "enumerate") (hm : X.mg "enumerate" = none) (ha : PA X [e] ta) (hs : starEach [e] X.env = [(false, eval e X.env)] := by rfl) :
    PI X (.Tuple elts kk tpos) (.Call (.Name "enumerate" p) [e] [] pos) (iEnumA X.K ta) := by
  refine ⟨fun pins s σ H R I h => ?_⟩
  refine Call_ (ld_blt I hg hm boot_enumerate (PyProof.Rows.callWith_type1 (thn (ha.run pos pins s σ H _ I h) fun us s1 ⟨vs, H1, I1, r1, a, xs, ex, q1⟩ => ?_) hs rfl))
  subst ex
  cases r1 with
  | cons r rr =>
    cases rr
    cases r
    have fp : ∀ b, b ∈ [s1.heap.objs.size + 1, s1.heap.objs.size] → FpOk X pins H1 b := fun b hb => by
      have le : s1.heap.objs.size ≤ b := by
        rcases (show b = s1.heap.objs.size + 1 ∨ b = s1.heap.objs.size by simpa using hb) with z | z <;> omega
      exact I1.fpOk le (I1.hok.fresh le)
    rcases q1 with ⟨hq, q⟩ | ⟨hq, q⟩
    · obtain ⟨its, rv, p', hz⟩ := I1.list hq
      refine call_enumerate_list p'.isList fun h' he hit hsz hk => wpAny_pyIter_enum he ?_
      have I2 : Inv X pins σ H1 { s1 with heap := h' } := I1.kept (t' := s1.toks) hk
      exact ⟨s1.heap.objs.size + 1, [s1.heap.objs.size + 1, s1.heap.objs.size], _, _, H1, rfl, I2, turn_enum a (s1.heap.objs.size + 1) s1.heap.objs.size, ⟨⟨.none, he⟩, hit, Nat.succ_ne_self _⟩, fp, q⟩
    · obtain ⟨its, rv, p', hz⟩ := I1.tuple hq
      obtain ⟨o, ho, _⟩ := id p'
      have la : a < s1.heap.objs.size := Heap.lt_size ho
      refine enumT_call (show s1.heap.IsTuple a its.toArray from p') fun h' he hit hk => wpAny_pyIter_enum he ?_
      have I2 : Inv X pins σ H1 { s1 with heap := h' } := I1.kept (t' := s1.toks) hk
      exact ⟨s1.heap.objs.size + 1, [s1.heap.objs.size + 1, s1.heap.objs.size], _, _, H1, rfl, I2, turn_enumT a (s1.heap.objs.size + 1) s1.heap.objs.size, ⟨⟨.none, he⟩, hit, Nat.succ_ne_self _, Nat.ne_of_gt (Nat.lt_succ_of_lt la), Nat.ne_of_lt la⟩, fp, q⟩
/-- enumerate of a list or a tuple that a slot holds; a list is lent meanwhile -/
def mEnumV (i : Nat) : M (List D × Bk) := fun ρ => match ρ[i]? with
  | some (.lst o ds) => .ok (enumD 0 (frzL ds), some (i, .lst o (frzL ds))) (ρ.set i .hole)
  | some (.tup ds) => .ok (enumD 0 (frzL ds), none) (ρ.set i (.tup (frzL ds)))
  | _ => .no
section
variable {G : Gx} {Φ : St → Prop} {E : St → XK} {c : Bool} {σ : St} {H : Hp}
theorem feeds_enumT {F T : Hp} {a : Addr} {vs : List V} {ds : List D} (h : ∀ H, Le F H → Le T H → SqT G.K H a vs) (o : OwnL G F ds vs emp) : Feeds G F T (IteT G.K a) (enumD 0 ds) := by
  intro F' H' l l1 l2
  have s := h H' (l.trans l1) l2
  have hl := ownL_len o
  refine ⟨⟨vs, s, by rw [enumD_len]; omega⟩, fun i d e => ?_⟩
  rw [enumD_get, Nat.zero_add] at e
  cases hh : ds[i]? with
  | none => rw [hh] at e; cases e
  | some d0 =>
    rw [hh] at e
    cases e
    obtain ⟨v, e1, ov⟩ := ownL_get o hh
    refine ⟨⟨vs, v, s, e1⟩, fun x H2 N R y j => ?_⟩
    obtain ⟨T1, x0, rfl, hT, rfl, y⟩ := y
    have e2 := y vs s
    rw [e1] at e2
    cases e2
    have j1 := j.alloc (o := .tup [.int ((i : Nat) : Int), v]) hT
    exact ⟨F', _, Le.refl, j1.re [1, 2, 0, 3], own_pair ⟨rfl, rfl⟩ (own_le l ov)⟩
theorem tI_enumV {i : Nat} {Q : It → Hp → Prop} (hst : ∀ σ σ', Φ σ → Φ σ' → σ[i]? = σ'[i]?) (h : tI G Φ E (mEnumV i) σ H Q) : iEnumA G.K (tCons (tVar i) tNil) σ H Q := by
  obtain ⟨F, N, R, ρ, a, q⟩ := h
  unfold mEnumV at q
  split at q
  · rename_i o ds e0
    have h2 : tI G Φ E (mEnumL i) σ H Q := ⟨F, N, R, ρ, a, by unfold mEnumL; simp only [e0]; exact q⟩
    obtain ⟨v, e1, p, vs, e2, s, r⟩ := tI_enumL hst h2
    exact ⟨v, e1, p, vs, e2, .inl ⟨s, r⟩⟩
  · rename_i ds e0
    obtain ⟨ov, M1, Mr, e1, j, w, kk⟩ := rel_at a.2.1 e0
    obtain ⟨v, rfl, w1⟩ := ownO_of w (by simp)
    have j1 : J [M1, Mr, F, R] H := J.nest (xs := [F, R]) j (a.1.re [1, 0, 2])
    have j2 := (j1.re [2, 1, 0, 3]).give
    have wf := own_frz w1 j2.2.1 j2.2.2
    obtain ⟨p, vs, S, C, rfl, jc, wl, g⟩ := own_tup w1
    have r2 := kk (un F M1) (.tup (frzL ds)) (some (.ref p)) emp Mr j2.2.1 (.inr ⟨.ref p, rfl, wf⟩) (J.emp_iff.mpr J.self)
    rw [set_self e1] at r2
    exact ⟨.ref p, e1, p, vs, rfl, .inr ⟨g H (a.1.sub (by simp)) (j1.sub (by simp)), q _ _ Mr emp H j2.2.1 ((J.emp_iff.mpr j2.1).re [1, 2, 0, 3]) r2
      (feeds_enumT (vs := vs) (fun H' l _ => g H' (j2.2.1.trans l) (j2.2.2.trans l)) (ownL_frz wl j2.2.1 ((j_le jc).2.trans j2.2.2))) trivial⟩⟩
  · exact q.elim
end
section
variable {X : Cx} {cl : Nat → Addr} {Φ : St → Prop} {E : St → XK} {c : Bool} {pos p tpos p2 : Pos} {e : Expr}
theorem ri_enumV {elts : List Expr} {kk : Nat} {i : Nat} {x : Str} (hst : ∀ σ σ', Φ σ → Φ σ' → σ[i]? = σ'[i]?) (hp : PE X (.Name x p2) (tVar i)) (hm : X.mg "enumerate" = none) (hg : Gl X "enumerate" := by rfl) (hs : starEach [.Name x p2] X.env = [(false, eval (.Name x p2) X.env)] := by rfl) :
    RI X cl Φ E (.Tuple elts kk tpos) (.Call (.Name "enumerate" p) [.Name x p2] [] pos) (mEnumV i) := ⟨(pi_enumA hg hm (pa_cons hp pa_nil hs) hs).weak fun _ _ _ q => tI_enumV hst q⟩
end
end Z

end
section
set_option maxRecDepth 100000
/-! ZO: sep.join(texts) -/
namespace Z
open PySem PySem.Spec L2
open PyProof.Rows hiding St
def strsL : List D → Option (List Str)
  | [] => some []
  | .str x :: r => (strsL r).map fun l => x :: l
  | _ => none
theorem strsL_own {G : Gx} {F : Hp} : ∀ {ds : List D} {ys : List Str} {vs : List V} {T : Hp}, strsL ds = some ys → OwnL G F ds vs T → vs = ys.map V.str
  | [], ys, vs, T, h, o => by cases h; exact o.1
  | .str x :: r, ys, vs, T, h, o => by
    rw [strsL] at h
    cases hr : strsL r with
    | none => rw [hr] at h; cases h
    | some l =>
      rw [hr] at h; cases h
      obtain ⟨v, ws, M1, M2, rfl, j, o1, o2⟩ := o
      rw [strsL_own hr o2, o1.1]; rfl
def rJoin (K : PySem.W.Frag) (a : Str) (y : V) (H : Hp) (Q : VK) : Prop := ∃ b p, ∃ ys : List Str, V.str a = .str b ∧ [y] = [.ref p] ∧ (SqL K H p (ys.map V.str) ∨ SqT K H p (ys.map V.str)) ∧
    (ys.map (·.length)).sum + ys.length * b.length ≤ 16777216 ∧ Q (.str (Txt.join b ys)) H
def joinS (a : Str) (ys : List Str) : Option D := if (ys.map (·.length)).sum + ys.length * a.length ≤ 16777216 then some (.str (Txt.join a ys)) else none
def dJoin (a : Str) : D → Option D
  | .lst _ ds => (strsL ds).bind (joinS a)
  | .tup ds => (strsL ds).bind (joinS a)
  | _ => none
theorem f1_join {G : Gx} {a : Str} : F1 G (rJoin G.K a) (dJoin a) := by
  intro F N T R H x d z Q j o1 hz k
  have dd := dump1 j
  unfold dJoin at hz
  split at hz
  · rename_i o ds
    cases hs : strsL ds with
    | none => rw [hs] at hz; cases hz
    | some ys =>
      rw [hs] at hz
      simp only [Option.bind_some, joinS] at hz
      split at hz
      · rename_i hl
        cases hz
        obtain ⟨p, vs, S, C, rfl, jc, w, g⟩ := own_lst o1
        have e := strsL_own hs w
        subst e
        exact ⟨a, p, ys, rfl, rfl, .inl (.of (g H (j.sub (by simp)) (j.sub (by simp)))), hl, k _ _ emp H dd.2.1 Le.refl dd.1 ⟨rfl, rfl⟩⟩
      · cases hz
  · rename_i ds
    cases hs : strsL ds with
    | none => rw [hs] at hz; cases hz
    | some ys =>
      rw [hs] at hz
      simp only [Option.bind_some, joinS] at hz
      split at hz
      · rename_i hl
        cases hz
        obtain ⟨p, vs, S, C, rfl, jc, w, g⟩ := own_tup o1
        have e := strsL_own hs w
        subst e
        exact ⟨a, p, ys, rfl, rfl, .inr (g H (j.sub (by simp)) (j.sub (by simp))), hl, k _ _ emp H dd.2.1 Le.refl dd.1 ⟨rfl, rfl⟩⟩
      · cases hz
  · cases hz
section
variable {X : Cx} {cl : Nat → Addr} {Φ : St → Prop} {E : St → XK} {c : Bool} {pos apos : Pos} {o e : Expr} {m : M D} {a : Str}
/-- a text written there, joined over a list or a tuple of texts -/
theorem re_join (ho : PE X o (tC (.str a))) (he : RE X cl Φ E c e m) (hs : starEach [e] X.env = [(false, eval e X.env)] := by rfl) (hbase : attributeBase o "join" X.env (eval o X.env) = eval o X.env := by rfl) (hline : (apos.endLine == pos.line) = true := by rfl) :
    RE X cl Φ E c (.Call (.Attribute o "join" apos) [e] [] pos) (mUn (dJoin a) m) :=
  ⟨(pe_join ho he.pe hs hbase hline).weak fun _ _ _ h => ⟨⟨a, rfl⟩, tE_un (r := rJoin X.K a) f1_join h⟩⟩
end
end Z

end
section
set_option maxRecDepth 100000
/-! ZP: raise, try .. except -/
namespace Z
open PySem PySem.Spec L2
open PyProof.Rows hiding St
/-- raise X('m'), k the number of X -/
def mRaise (k : Nat) : M Fl := fun ρ => .ex k ρ
/-- raise X(e, ..) -/
def mRaiseA (k : Nat) (ma : M (List D)) : M Fl := fun ρ => (ma ρ).bind fun ds ρ1 => if ds.length ≤ PySem.sizeLine then .ex k ρ1 else .no
/-- what the written part says of an own error class over ValueError -/
structure XC (K : PySem.W.Frag) (C : Addr) (bmB : List Value) (newId : String) : Prop where
  q : PySem.W.excIn K C bmB newId = true
  keep : PySem.W.keepIn K (.ref C) = true
  sb : PySem.W.subIn K (.ref C) (.type "BaseException") = some true
  ty : PySem.W.typeIn K (.ref C) = some (.type "type")
/-- what becomes of an exception: none: not told; some none: it goes on; some (some m): it is caught -/
abbrev Hd := Nat → Option (Option (M Fl))
def mTry (mb : M Fl) (hd : Hd) : M Fl := fun ρ => match mb ρ with
  | .ex k ρ1 => (match hd k with
    | none => .no
    | some none => .ex k ρ1
    | some (some m) => m ρ1)
  | o => o
/-- except .. as n, n in slot i: the suite returns -/
def mTryAs (i : Nat) (mb : M Fl) (hd : Hd) : M Fl := fun ρ => match mb ρ with
  | .ex k ρ1 => (match hd k with
    | none => .no
    | some none => .ex k ρ1
    | some (some m) => (match ρ1[i]? with
      | some .hole => (match m ρ1 with
        | .ok (.rt d) ρ2 => .ok (.rt d) ρ2
        | _ => .no)
      | _ => .no))
  | o => o
section
variable {X : Cx} {cl : Nat → Addr} {Φ : St → Prop} {E : St → XK} {kk : Nat} {pos p p2 pos2 np pos' : Pos}
theorem rs_raise {x m : Str} {j k : Nat} {bmB : List Value} {B newId initId : String} (κ : Kx X E kk) (FB : ExcBaseFacts B newId initId bmB) (hx : X.mg x = some (.ref (cl k))) (c : XC X.K (cl k) bmB newId) (hg : Gl X x := by rfl) (hdb : (x == ("__debug__" : Str)) = false := by decide) :
    RS X cl Φ E (.Raise (some (.Call (.Name x p) [.Constant (.str m) j p2] [] pos)) none pos2) (mRaise k) :=
  ⟨(ps_raise κ.calm κ.tk (pmk_own FB c.q hx c.keep (raises_own c.sb c.ty) hg hdb)).weak fun D σ H ⟨F, N, R, ρ, a, q⟩ => q σ a.2.2 F N H Le.refl a.1 a.2.1⟩
theorem rs_raiseA {x : Str} {e : Expr} {es : List Expr} {ma : M (List D)} {k : Nat} {bmB : List Value} {B newId initId : String} (κ : Kx X E kk) (FB : ExcBaseFacts B newId initId bmB) (hx : X.mg x = some (.ref (cl k))) (c : XC X.K (cl k) bmB newId) (ha : RA X cl Φ E false (e :: es) ma) (hg : Gl X x := by rfl) (hdb : (x == ("__debug__" : Str)) = false := by decide)
    (he : starEach (e :: es) X.env = (false, eval e X.env) :: starEach es X.env := by rfl) (hpl : (backTo pos (starEach es X.env)).any (·.1) = false := by rfl) :
    RS X cl Φ E (.Raise (some (.Call (.Name x p) (e :: es) [] pos)) none pos2) (mRaiseA k ma) :=
  ⟨(ps_raise κ.calm κ.tk (pmk_ownA FB c.q hx c.keep (raises_own c.sb c.ty) hg ha.pa hdb he hpl)).weak fun D σ H ⟨F, N, R, ρ, a, q⟩ => by
    refine ⟨F, N, R, ρ, a, ?_⟩
    unfold mRaiseA at q
    cases e1 : ma ρ with
    | no => rw [e1] at q; exact q
    | ex k2 ρ1 => rw [e1] at q; exact q σ a.2.2
    | ok ds ρ1 =>
      rw [e1] at q
      intro vs F1 N1 T1 H1 l1 k1 j1 r1 o1
      simp only [O.bind] at q
      split at q
      · rename_i hl
        rw [← ownL_len o1] at hl
        have d := dump1 j1
        exact ⟨hl, q σ a.2.2 _ N1 H1 (l1.trans d.2.1) (emp_out d.1) (rel_le d.2.1 r1)⟩
      · exact q.elim⟩
/-- lists of clauses -/
def hdN : Hd := fun _ => none
def hdC (j : Nat) (o : Option (M Fl)) (r : Hd) : Hd := fun k => if k = j then some o else r k
theorem hx_nil {K : PySem.W.Frag} {c : Value} : ∀ k o, hdN k = some o → PySem.W.exmOne K (.ref (cl k)) c = some o.isSome := fun _ _ h => nomatch h
theorem hx_cons {K : PySem.W.Frag} {c : Value} {j : Nat} {o : Option (M Fl)} {r : Hd} (h : PySem.W.exmOne K (.ref (cl j)) c = some o.isSome) (hr : ∀ k o, r k = some o → PySem.W.exmOne K (.ref (cl k)) c = some o.isSome) : ∀ k o', hdC j o r k = some o' → PySem.W.exmOne K (.ref (cl k)) c = some o'.isSome := by
  intro k o' e
  unfold hdC at e
  split at e
  · rename_i z
    cases e
    rw [z]; exact h
  · exact hr k o' e
theorem hs_nil {P : Nat → M Fl → Prop} : ∀ k m, hdN k = some (some m) → P k m := fun _ _ h => nomatch h
theorem hs_catch {P : Nat → M Fl → Prop} {j : Nat} {m : M Fl} {r : Hd} (h : P j m) (hr : ∀ k m, r k = some (some m) → P k m) : ∀ k m', hdC j (some m) r k = some (some m') → P k m' := by
  intro k m' e
  unfold hdC at e
  split at e
  · rename_i z
    cases e
    rw [z]; exact h
  · exact hr k m' e
theorem hs_pass {P : Nat → M Fl → Prop} {j : Nat} {r : Hd} (hr : ∀ k m, r k = some (some m) → P k m) : ∀ k m', hdC j none r k = some (some m') → P k m' := by
  intro k m' e
  unfold hdC at e
  split at e
  · cases e
  · exact hr k m' e
theorem rs_try {x : Str} {c : Value} {body suite : List Stmt} {b₀ : Stmt} {mb : M Fl} {hd : Hd} (κ : Kx X E kk) (hs : X.stack = X.env :: X.outer) (hf : X.env.frame = some X.env.locals) (hc : Names X x c)
    (hb : ∀ (pn : List (Addr × Obj)) (xe : Value → Shared → Prop) (E' : St → XK), Kx (X.tr pn xe) E' kk → RSs (X.tr pn xe) cl Φ E' body mb)
    (hx : ∀ k o, hd k = some o → PySem.W.exmOne X.K (.ref (cl k)) c = some o.isSome)
    (hsu : ∀ k m, hd k = some (some m) → ∀ (a : Addr) (oe : Obj) (pn : List (Addr × Obj)), Zc (.ref (cl k)) none oe → (∃ vs, oe.data = .fields vs) → RSs (X.suite a ((a, oe) :: pn)) cl Φ E (b₀ :: suite) m) :
    RS X cl Φ E (.Try body [.ExceptHandler (some (.Name x np)) none (b₀ :: suite) pos'] [] [] pos) (mTry mb hd) := by
  refine ⟨(ps_try_only (tb := fun W => tS (gx X cl) Φ (fun σ cls d H => W cls d σ H) mb)
    (ts := fun a cls d D σ H => ∃ k m, hd k = some (some m) ∧ cls = .ref (cl k) ∧ d = none ∧ tS (gx X cl) Φ E m D σ H) hs hf hc κ.tk (fun W pn xe tk hp => (hb pn xe _ ⟨κ.calm, hp, κ.nd, κ.room, tk⟩).pss) ?_).weak ?_⟩
  · intro a oe cls d pn hz hv
    refine ⟨fun pins s σ H D I ⟨k, m, e1, e2, e3, h⟩ => ?_⟩
    subst e2 e3
    exact (hsu k m e1 a oe pn hz hv).pss.run pins s σ H D I h
  · intro D σ H ⟨F, N, R, ρ, a, q⟩
    refine ⟨F, N, R, ρ, a, ?_⟩
    unfold mTry at q
    cases e : mb ρ with
    | no => rw [e] at q; exact q
    | ok f ρ1 =>
      rw [e] at q
      cases f <;> exact q
    | ex k ρ1 =>
      rw [e] at q
      intro σ' f F' N' H' l j r
      simp only at q
      cases h : hd k with
      | none => rw [h] at q; exact q.elim
      | some o =>
        rw [h] at q
        refine ⟨o.isSome, hx k o h, fun e2 a' na => ?_, fun e2 => ?_⟩
        · cases o with
          | none => cases e2
          | some m => exact ⟨k, m, h, rfl, rfl, F', N', R, ρ1, ⟨j, r, f⟩, PostS.le q l⟩
        · cases o with
          | none => exact q σ' f F' N' H' l j r
          | some m => cases e2
theorem rs_tryAs {x n : Str} {i : Nat} {c : Value} {body suite : List Stmt} {b₀ : Stmt} {mb : M Fl} {hd : Hd} (κ : Kx X E kk) (hs : X.stack = X.env :: X.outer) (hf : X.env.frame = some X.env.locals) (hi : X.N[i]? = some n) (hln : X.env.kindOf n = some .local) (hc : Names X x c)
    (hΦ : ∀ σ v, Φ σ → Φ (σ.set i (some v)))
    (hb : ∀ (pn : List (Addr × Obj)) (xe : Value → Shared → Prop) (E' : St → XK), Kx (X.tr pn xe) E' kk → RSs (X.tr pn xe) cl Φ E' body mb)
    (hx : ∀ k o, hd k = some o → PySem.W.exmOne X.K (.ref (cl k)) c = some o.isSome)
    (hsu : ∀ k m, hd k = some (some m) → ∀ (a : Addr) (oe : Obj) (pn : List (Addr × Obj)), Zc (.ref (cl k)) none oe → (∃ vs, oe.data = .fields vs) → RSs (X.suite a ((a, oe) :: pn)) cl (fun σ => Φ σ ∧ σ[i]? = some (some (.ref a))) E (b₀ :: suite) m) :
    RS X cl Φ E (.Try body [.ExceptHandler (some (.Name x np)) (some n) (b₀ :: suite) pos'] [] [] pos) (mTryAs i mb hd) := by
  refine ⟨(ps_try_as (i := i) (tb := fun W => tS (gx X cl) Φ (fun σ cls d H => W cls d σ H) mb)
    (ts := fun a cls d D σ H => ∃ k m, hd k = some (some m) ∧ cls = .ref (cl k) ∧ d = none ∧ tS (gx X cl) (fun σ => Φ σ ∧ σ[i]? = some (some (.ref a))) E m D σ H) hs hf κ.nd hi hln hc κ.tk (fun W pn xe tk hp => (hb pn xe _ ⟨κ.calm, hp, κ.nd, κ.room, tk⟩).pss) ?_).weak ?_⟩
  · intro a oe cls d pn hz hv
    refine ⟨fun pins s σ H D I ⟨k, m, e1, e2, e3, h⟩ => ?_⟩
    subst e2 e3
    exact (hsu k m e1 a oe pn hz hv).pss.run pins s σ H D I h
  · intro D σ H ⟨F, N, R, ρ, a, q⟩
    refine ⟨F, N, R, ρ, a, ?_⟩
    unfold mTryAs at q
    cases e : mb ρ with
    | no => rw [e] at q; exact q
    | ok f ρ1 =>
      rw [e] at q
      cases f <;> exact q
    | ex k ρ1 =>
      rw [e] at q
      intro σ' f F' N' H' l j r
      simp only at q
      cases h : hd k with
      | none => rw [h] at q; exact q.elim
      | some o =>
        rw [h] at q
        refine ⟨o.isSome, hx k o h, fun e2 a' na => ?_, fun e2 => ?_⟩
        · cases o with
          | none => cases e2
          | some m =>
            simp only at q
            split at q
            · rename_i hh
              obtain ⟨ov, M1, Mr, e3, jm, w, kk⟩ := rel_at r hh
              have lt : i < σ'.length := (List.getElem?_eq_some_iff.mp e3).1
              have ew : M1 = emp := by
                rcases w with ⟨_, z⟩ | ⟨v, _, z⟩
                · exact z
                · exact z
              have r2 := kk F' .hole (some (.ref a')) M1 N' Le.refl (.inl ⟨rfl, ew⟩) jm
              rw [set_self hh] at r2
              refine ⟨k, m, h, rfl, rfl, F', N', R, ρ1, ⟨j, r2, hΦ _ _ f, by rw [List.getElem?_set_self lt]⟩, ?_⟩
              split at q
              · rename_i d ρ2 e4
                rw [e4]
                exact fun v F2 N2 T H2 σ2 l2 j2 r2 f2 o2 => q v F2 N2 T H2 σ2 (l.trans l2) j2 r2 f2.1 o2
              · exact q.elim
            · exact q.elim
        · cases o with
          | none => exact q σ' f F' N' H' l j r
          | some m => cases e2
/-- isinstance(n, C), n the exception that the suite holds -/
theorem re_isE {a : Addr} {oe : Obj} {pn : List (Addr × Obj)} {i k : Nat} {n x : Str} {c : Addr} {b cc : Bool} (C : ExcC X.K (cl k)) (hz : Zc (.ref (cl k)) none oe) (hv : ∃ vs, oe.data = .fields vs) (hn : PE (X.suite a ((a, oe) :: pn)) (.Name n p) (tVar i)) (hx : X.mg x = some (.ref c)) (hk : PySem.W.kitOne X.K (.ref (cl k)) (.ref c) = some b)
    (hm : X.mg "isinstance" = none) (hg : Gl X "isinstance" := by rfl) (hgx : Gl X x := by rfl) (hdb : (x == ("__debug__" : Str)) = false := by decide)
    (he : starEach [.Name n p, .Name x p2] X.env = (false, eval (.Name n p) X.env) :: starEach [.Name x p2] X.env := by rfl)
    (he2 : starEach [.Name x p2] X.env = (false, eval (.Name x p2) X.env) :: starEach [] X.env := by rfl) (hpl : (backTo pos (starEach [.Name x p2] X.env)).any (·.1) = false := by rfl) :
    RE (X.suite a ((a, oe) :: pn)) cl (fun σ => Φ σ ∧ σ[i]? = some (some (.ref a))) E cc (.Call (.Name "isinstance" p') [.Name n p, .Name x p2] [] pos) (mK (.bl b)) := by
  refine ⟨(pe_callB (X := X.suite a ((a, oe) :: pn)) (call_isE C hz hv) hg hm (by decide +kernel) (pa_cons hn (pa_cons (pe_glob (v := .ref c) (X := X.suite a ((a, oe) :: pn)) hgx hx rfl hdb) pa_nil he2) he) (by decide) (by decide) he hpl).weak fun σ H Q ⟨F, N, R, ρ, w, q⟩ => ?_⟩
  exact ⟨.ref a, w.2.2.2, .ref c, .ref c, b, rfl, fun u r => r, hk, q _ F N emp H Le.refl (fun _ => Le.refl) ((J.emp_iff.mpr (w.1.re [2, 0, 1])).re [2, 3, 0, 1]) w.2.1 ⟨rfl, rfl⟩⟩
end
/-- the address of a class of the written part -/
def addrOf (K : PySem.W.Frag) (x : Str) : Addr := match PySem.W.nsIn K mainGlobals x with
  | some (some (.ref a)) => a
  | _ => 0
theorem addrOf_is {K : PySem.W.Frag} {x : Str} {a : Addr} (h : PySem.W.nsIn K mainGlobals x = some (some (.ref a))) : addrOf K x = a := by unfold addrOf; rw [h]
theorem kit_t {K : PySem.W.Frag} {t : Value} {C : Addr} (h1 : PySem.W.isClsIn K C = true) (h2 : PySem.W.typeIn K (.ref C) = some (.type "type")) (h3 : PySem.W.subIn K t (.ref C) = some true) : PySem.W.kitOne K t (.ref C) = some true := by
  unfold PySem.W.kitOne
  split
  · rfl
  · show (if ((PySem.W.clsIn K C).isSome && PySem.W.typeIn K (.ref C) == some (.type "type")) = true then _ else _) = _
    rw [show (PySem.W.clsIn K C).isSome = true from h1, h2, if_pos (by rfl)]
    exact h3
theorem kit_f {K : PySem.W.Frag} {D C : Addr} (h0 : D ≠ C) (h1 : PySem.W.isClsIn K C = true) (h2 : PySem.W.typeIn K (.ref C) = some (.type "type")) (h3 : PySem.W.subIn K (.ref D) (.ref C) = some false) : PySem.W.kitOne K (.ref D) (.ref C) = some false := by
  unfold PySem.W.kitOne
  split
  · rename_i e
    exact absurd (Value.ref.inj (beq_iff_eq.mp e)) h0
  · show (if ((PySem.W.clsIn K C).isSome && PySem.W.typeIn K (.ref C) == some (.type "type")) = true then _ else _) = _
    rw [show (PySem.W.clsIn K C).isSome = true from h1, h2, if_pos (by rfl)]
    exact h3
end Z

end
section
set_option maxRecDepth 100000
/-! Z: own classes: fields, methods, properties, new instances -/
namespace Z
open PySem PySem.Spec L2
open PyProof.Rows hiding St
/-- the classes that may have a field have it not as a class's own -/
def FldOk (K : PySem.W.Frag) (cl : Nat → Addr) (f : Str) : List Nat → Prop
  | [] => True
  | c :: r => (Cls K (cl c) ∧ NoAttr K (cl c) f) ∧ FldOk K cl f r
theorem fo_nil {K : PySem.W.Frag} {cl : Nat → Addr} {f : Str} : FldOk K cl f [] := True.intro
theorem fo_cons {K : PySem.W.Frag} {cl : Nat → Addr} {f : Str} {c : Nat} {r : List Nat} (a : Cls K (cl c)) (b : NoAttr K (cl c) f) (h : FldOk K cl f r) : FldOk K cl f (c :: r) := ⟨⟨a, b⟩, h⟩
theorem FldOk.mem {K : PySem.W.Frag} {cl : Nat → Addr} {f : Str} {c : Nat} : ∀ {cs : List Nat}, FldOk K cl f cs → cs.contains c = true → Cls K (cl c) ∧ NoAttr K (cl c) f
  | [], _, h => by cases h
  | d :: r, ⟨a, b⟩, h => by
    rw [List.contains_cons, Bool.or_eq_true] at h
    rcases h with h | h
    · rw [beq_iff_eq] at h; subst h; exact a
    · exact FldOk.mem b h
theorem own_ins {G : Gx} {F : Hp} {o : Bool} {c : Nat} {fs : List Str} {ds : List D} {v : V} {T : Hp} (h : Own G F (.ins o c fs ds) v T) : ∃ a dx vs S C, v = .ref a ∧ fs.length = ds.length ∧ J [S, C] T ∧ OwnL G F ds vs C ∧ ∀ H, Le F H → Le T H → H a = some (.ins (G.cl c) dx (fs.zip vs)) := by
  obtain ⟨a, dx, vs, rfl, hl, h⟩ := h
  rcases h with ⟨_, rfl, e, w⟩ | ⟨_, C, j, w⟩
  · exact ⟨a, dx, vs, emp, emp, rfl, hl, J.emps, w, fun H l _ => l _ _ e⟩
  · exact ⟨a, dx, vs, _, C, rfl, hl, j, w, fun H _ m => m _ _ j.at⟩
theorem getR_fld {ρ : Env} {p : Pth} {o : Bool} {c : Nat} {fs : List Str} {ds : List D} {f : Str} {j : Nat} {d : D} (g : getR ρ p = some (.ins o c fs ds)) (hf : findF f fs = some j) (hd : ds[j]? = some d) : getR ρ (p.1, p.2 ++ [.fld f]) = some d := by
  unfold getR at g ⊢
  cases hi : ρ[p.1]? with
  | none => rw [hi] at g; cases g
  | some d0 =>
    rw [hi] at g
    have g : getP d0 p.2 = some (.ins o c fs ds) := g
    show getP d0 (p.2 ++ [.fld f]) = some d
    rw [getP_app, g]
    show getS (.ins o c fs ds) (.fld f) = some d
    unfold getS
    show (findF f fs).bind _ = _
    rw [hf]
    exact hd
section
variable {X : Cx} {cl : Nat → Addr} {Φ : St → Prop} {E : St → XK} {c : Bool} {k : Nat} {pos pos' p apos : Pos} {e o : Expr} {es : List Expr}
/-- place.f -/
theorem rp_fld {cs : List Nat} {f : Str} {m : M Pth} (h : RP X cl Φ E o m) (hc : FldOk X.K cl f cs) (hb : attributeBase o f X.env (eval o X.env) = eval o X.env := by rfl) : RP X cl Φ E (.Attribute o f pos) (pFld cs f m) := by
  refine ⟨(pe_fld h.pe.kf hb).weak fun σ H Q ⟨F, N, R, ρ, a, q⟩ => ⟨F, N, R, ρ, a, ?_⟩, fun ρ p ρ' hh => ?_⟩
  · unfold pFld at q
    cases e1 : m ρ with
    | no => rw [e1] at q; exact q
    | ex k ρ' => rw [e1] at q; exact q
    | ok p ρ1 =>
      rw [e1] at q
      simp only [O.bind] at q
      intro v0 v F1 N1 H1 l1 k1 j1 r1 s1 at1 kf
      split at q
      · rename_i o0 c0 fs ds g
        split at q
        · rename_i hcc
          split at q
          · rename_i j hj
            split at q
            · rename_i d hd
              split at q
              · exact q.elim
              · obtain ⟨M1, Mr, jm, ow, kk⟩ := place (G := gx X cl) j1 r1 g rfl kf s1 at1
                obtain ⟨b, dx, vs, S, C, rfl, hl, _, oC, gH⟩ := own_ins ow
                have hH := gH H1 j1.le ((j_le jm).1.trans (j1.sub (by simp)))
                obtain ⟨w, _, _, ew, _, _, _⟩ := ownL_at oC hd
                have lk := findF_val hj ew
                obtain ⟨c1, c2⟩ := hc.mem hcc
                exact ⟨b, cl c0, dx, _, w, rfl, hH, c1, c2, lk, q v0 w F1 N1 H1 l1 k1 j1 r1 s1 (atP_app at1 ⟨b, _, dx, _, rfl, hH, lk⟩)⟩
            · exact q.elim
          · exact q.elim
        · exact q.elim
      · exact q.elim
  · unfold pFld at hh
    cases e1 : m ρ with
    | no => rw [e1] at hh; cases hh
    | ex k ρ' => rw [e1] at hh; cases hh
    | ok p0 ρ1 =>
      rw [e1] at hh
      simp only [O.bind] at hh
      split at hh
      · rename_i o0 c0 fs ds g
        split at hh
        · split at hh
          · rename_i j hj
            split at hh
            · rename_i d hd
              split at hh
              · cases hh
              · rename_i hn
                cases hh
                exact ⟨d, getR_fld g hj hd, by simpa using hn⟩
            · cases hh
          · cases hh
        · cases hh
      · cases hh
/-! ### fields written -/
def insPut (f : Str) (x : D) (fs : List Str) (ds : List D) : List Str × List D := match findF f fs with
  | some j => (fs, ds.set j x)
  | none => (fs ++ [f], ds ++ [x])
def mSetF (cs : List Nat) (f : Str) (q : M Pth) (m : M D) : M Fl := fun ρ => (m ρ).bind fun d ρ1 => match q ρ1 with
  | .ok p ρ2 => (match getR ρ2 p with
    | some (.ins true c fs ds) => if (cs.contains c && decide (fs.length < 1000)) = true then .ok .nx (setR ρ2 p (.ins true c (insPut f d fs ds).1 (insPut f d fs ds).2)) else .no
    | _ => .no)
  | _ => .no
theorem findF_none {f : Str} {y : V} : ∀ {fs : List Str} {vs : List V}, fs.length = vs.length → findF f fs = none → putF f y (fs.zip vs) = (fs ++ [f]).zip (vs ++ [y])
  | [], [], _, _ => rfl
  | [], _ :: _, h, _ => by simp at h
  | _ :: _, [], h, _ => by simp at h
  | a :: fs, v :: vs, hl, h => by
    unfold findF at h
    by_cases q : (f == a) = true
    · rw [if_pos q] at h; cases h
    · rw [if_neg q] at h
      cases hf : findF f fs with
      | some j => rw [hf] at h; cases h
      | none =>
        have ih := findF_none (f := f) (y := y) (fs := fs) (vs := vs) (by simpa using hl) hf
        have ne : ¬ a = f := fun z => q (by rw [z]; exact beq_self_eq_true _)
        show (if a = f then (a, y) :: fs.zip vs else (a, v) :: putF f y (fs.zip vs)) = _
        rw [if_neg ne, ih]; rfl
theorem findF_some {f : Str} {y : V} : ∀ {fs : List Str} {vs : List V} {j : Nat}, fs.length = vs.length → findF f fs = some j → putF f y (fs.zip vs) = fs.zip (vs.set j y)
  | [], _, _, _, h => by cases h
  | _ :: _, [], _, h, _ => by simp at h
  | a :: fs, v :: vs, j, hl, h => by
    unfold findF at h
    by_cases q : (f == a) = true
    · rw [if_pos q] at h
      cases h
      have e : a = f := (beq_iff_eq.mp q).symm
      show (if a = f then (a, y) :: fs.zip vs else _) = _
      rw [if_pos e]; rfl
    · rw [if_neg q] at h
      cases hf : findF f fs with
      | none => rw [hf] at h; cases h
      | some i =>
        rw [hf] at h
        cases h
        have ih := findF_some (f := f) (y := y) (fs := fs) (vs := vs) (by simpa using hl) hf
        have ne : ¬ a = f := fun z => q (by rw [z]; exact beq_self_eq_true _)
        show (if a = f then (a, y) :: fs.zip vs else (a, v) :: putF f y (fs.zip vs)) = _
        rw [if_neg ne, ih]; rfl
theorem findF_lt {f : Str} : ∀ {fs : List Str} {j : Nat}, findF f fs = some j → j < fs.length
  | [], _, h => by cases h
  | a :: fs, j, h => by
    unfold findF at h
    split at h
    · cases h; simp
    · cases hf : findF f fs with
      | none => rw [hf] at h; cases h
      | some i => rw [hf] at h; cases h; have := findF_lt hf; simp; omega
theorem own_insT {G : Gx} {F : Hp} {c : Nat} {fs : List Str} {ds : List D} {v : V} {M : Hp} (o : Own G F (.ins true c fs ds) v M) : ∃ a dx vs C, v = .ref a ∧ fs.length = ds.length ∧ J [one a (.ins (G.cl c) dx (fs.zip vs)), C] M ∧ OwnL G F ds vs C ∧ M ≠ emp := by
  obtain ⟨a, dx, vs, rfl, hl, o⟩ := o
  rcases o with ⟨z, _⟩ | ⟨_, C, j, w⟩
  · cases z
  · refine ⟨a, dx, vs, C, rfl, hl, j, w, fun z => ?_⟩
    have := j.at
    rw [z] at this
    cases this
/-- o.f = e -/
theorem rs_setF {cs : List Nat} {f : Str} {q : M Pth} {m : M D} (hm : RE X cl Φ E c e m) (h : RP X cl Φ E o q) (hc : FldOk X.K cl f cs) (hs : swapsWith e (some (.Attribute o f pos')) pos.line X.env = pure false := by rfl) : RS X cl Φ E (.Assign [.Attribute o f pos'] e pos) (mSetF cs f q m) := by
  refine ⟨(ps_fld h.pe.kf hm.pe hs).weak fun D' σ H z => ?_⟩
  refine tS_ofE z fun d v F N T R ρ H1 j r f0 ow z => ?_
  have jt : J [T, R] (un T R) := (j.re [2, 3, 0, 1]).join.1
  refine ⟨F, N, un T R, ρ, ⟨j.hide, r, f0⟩, ?_⟩
  cases e1 : q ρ with
  | no => rw [e1] at z; exact z
  | ex k ρ' => rw [e1] at z; exact z.elim
  | ok p ρ2 =>
    rw [e1] at z
    simp only at z
    intro v0 w F1 N1 H2 l1 k1 j1 r1 s1 at1 kf
    split at z
    · rename_i c0 fs ds g
      split at z
      · rename_i hcc
        rw [Bool.and_eq_true, decide_eq_true_eq] at hcc
        obtain ⟨M1, Mr, jm, om, kk⟩ := place (G := gx X cl) j1 r1 g rfl kf s1 at1
        obtain ⟨a, dx, vs, C, rfl, hl, jc, wc, ne⟩ := own_insT om
        have hlv : fs.length = vs.length := by rw [hl, ownL_len wc]
        have j3 : J [F1, N1, T, R] H2 := J.unhide (ys := []) jt j1
        have j4 : J [M1, Mr, F1, T, R] H2 := J.nest (xs := [F1, T, R]) jm (j3.re [1, 0, 2, 3])
        have j5 : J [one a (.ins (cl c0) dx (fs.zip vs)), C, Mr, F1, T, R] H2 := J.nest (xs := [Mr, F1, T, R]) jc j4
        obtain ⟨c1, c2⟩ := hc.mem hcc.1
        refine ⟨a, cl c0, dx, _, rfl, j5.at, c1, c2, ?_, ?_⟩
        · rw [List.length_zip]; omega
        -- the new parts
        have key : ∃ vs' C', (insPut f d fs ds).1.length = (insPut f d fs ds).2.length ∧ putF f v (fs.zip vs) = (insPut f d fs ds).1.zip vs' ∧ ∃ Z, J [C', Z] (un C T) ∧ ∀ F', Le F1 F' → OwnL (gx X cl) F' (insPut f d fs ds).2 vs' C' := by
          have jct : J [C, T] (un C T) := (j5.re [1, 4, 0, 2, 3, 5]).join.1
          unfold insPut
          cases hf : findF f fs with
          | none =>
            refine ⟨vs ++ [v], _, by simp [hl], findF_none hlv hf, emp, (J.emp_iff.mpr J.self).re [1, 0], fun F' l' => ?_⟩
            exact ownL_app (ownL_le l' wc) ⟨v, [], T, emp, rfl, (J.emp_iff.mpr J.self).re [1, 0], own_le (l1.trans l') ow, ⟨rfl, rfl⟩⟩ jct
          | some jx =>
            have hjx := findF_lt hf
            obtain ⟨d0, hd⟩ : ∃ d0, ds[jx]? = some d0 := ⟨ds[jx]'(by omega), List.getElem?_eq_getElem (by omega)⟩
            obtain ⟨v1, Mj, Mr1, ev, jj, oj, kp⟩ := ownL_put wc hd
            have j6 : J [Mj, Mr1, T] (un C T) := J.nest (xs := [T]) jj jct
            obtain ⟨ja, jb⟩ := (j6.re [2, 1, 0]).join
            refine ⟨vs.set jx v, _, by simp [hl], findF_some hlv hf, Mj, jb, fun F' l' => ?_⟩
            exact kp F' d v T _ l' (own_le (l1.trans l') ow) ja
        obtain ⟨vs', C', hl', ep, Z, jz, oz⟩ := key
        rw [ep]
        have j6 := (j5.re [1, 4, 0, 2, 3, 5]).join.2
        have j7 : J [C', Z, one a (.ins (cl c0) dx (fs.zip vs)), Mr, F1, R] H2 := J.nest (xs := [_, Mr, F1, R]) jz j6
        have j8 := (j7.re [2, 0, 1, 3, 4, 5]).write (o' := .ins (cl c0) dx ((insPut f d fs ds).1.zip vs'))
        have j9 := (j8.re [4, 0, 2, 1, 3, 5]).give
        obtain ⟨jc2, jd⟩ := (j9.1.re [1, 2, 0, 3, 4]).join
        obtain ⟨je, jf⟩ := (jd.re [0, 2, 1, 3]).join
        have r3 := kk _ (.ins true c0 (insPut f d fs ds).1 (insPut f d fs ds).2) _ _ j9.2.1 ⟨a, dx, vs', rfl, hl', .inr ⟨rfl, C', jc2, oz _ j9.2.1⟩⟩ je (.inr ne)
        exact z _ _ _ σ (l1.trans j9.2.1) ⟨jf.re [1, 0, 2], r3, f0⟩
      · exact z.elim
    · exact z.elim
end
end Z
/-! ### methods, properties, new instances -/
namespace Z
open PySem PySem.Spec L2
open PyProof.Rows hiding St
/-- an instance of class k whose own attributes do not have the name -/
def isCls (k : Nat) (x : Str) : D → Bool
  | .ins _ c fs _ => decide (c = k) && (findF x fs).isNone
  | _ => false
def mGuard (k : Nat) (x : Str) (m : M D) : M D := fun ρ => (m ρ).bind fun d ρ1 => if isCls k x d = true then .ok d ρ1 else .no
/-- a receiver that is a name -/
def aSelf (k : Nat) (x : Str) (i : Nat) (r : M (List Ar)) : M (List Ar) := fun ρ => match ρ[i]? with
  | some d => if isCls k x d = true then aLend i r ρ else .no
  | none => .no
def noEx (r : List D → O3) : List D → O3 := fun ds => match r ds with
  | .ex _ _ => .no
  | o => o
def mMake (k : Nat) (r : List D → O3) (ma : M (List Ar)) : M D := fun ρ => (ma ρ).bind fun as ρ1 => match gath as ρ1 with
  | some (ds, bs, ρ2) => (match r (.ins true k [] [] :: ds) with
    | .ok .non (x :: as) => (match putAll bs as ρ2 with
      | some ρ3 => .ok x ρ3
      | none => .no)
    | .ex k (_ :: as) => (match putAll bs as ρ2 with
      | some ρ3 => .ex k ρ3
      | none => .no)
    | _ => .no)
  | none => .no
theorem lookup_none {x : Str} : ∀ {fs : List Str} {vs : List V}, findF x fs = none → (fs.zip vs).lookup x = none
  | [], _, _ => rfl
  | _ :: _, [], _ => rfl
  | a :: fs, v :: vs, h => by
    unfold findF at h
    by_cases q : (x == a) = true
    · rw [if_pos q] at h; cases h
    · rw [if_neg q] at h
      have q' : (x == a) = false := by simpa using q
      cases hf : findF x fs with
      | some j => rw [hf] at h; cases h
      | none =>
        show (match x == a with
          | true => some v
          | false => (fs.zip vs).lookup x) = none
        rw [q']
        exact lookup_none hf
/-- v is an instance of class k at which the name is not an attribute of its own -/
def InsAt (C : Addr) (x : Str) (H : Hp) (v : V) : Prop := ∃ a dx fs, v = .ref a ∧ H a = some (.ins C dx fs) ∧ fs.lookup x = none
theorem own_isCls {G : Gx} {F T H : Hp} {k : Nat} {x : Str} {d : D} {v : V} (o : Own G F d v T) (h : isCls k x d = true) (lF : Le F H) (lT : Le T H) : InsAt (G.cl k) x H v := by
  cases d with
  | ins o0 c fs ds =>
    unfold isCls at h
    rw [Bool.and_eq_true, decide_eq_true_eq, Option.isNone_iff_eq_none] at h
    obtain ⟨rfl, hx⟩ := h
    obtain ⟨a, dx, vs, S, C, rfl, hl, _, _, gH⟩ := own_ins o
    exact ⟨a, dx, _, rfl, gH H lF lT, lookup_none hx⟩
  | _ => cases h
section
variable {G : Gx} {Φ : St → Prop} {E : St → XK} {c : Bool} {σ : St} {H : Hp}
theorem tE_guard {k : Nat} {x : Str} {m : M D} {Q : VK} (h : tE G Φ E c (mGuard k x m) σ H Q) : tE G Φ E c m σ H fun v H1 => InsAt (G.cl k) x H1 v ∧ Q v H1 := by
  obtain ⟨F, N, R, ρ, a, q⟩ := h
  refine ⟨F, N, R, ρ, a, ?_⟩
  unfold mGuard at q
  cases e : m ρ with
  | no => rw [e] at q; exact q
  | ex k ρ' => rw [e] at q; exact q
  | ok d ρ1 =>
    rw [e] at q
    simp only [O.bind] at q
    intro v F1 N1 T1 H1 l1 k1 j1 r1 o1
    split at q
    · rename_i hc
      exact ⟨own_isCls o1 hc j1.le (j1.sub (by simp)), q v F1 N1 T1 H1 l1 k1 j1 r1 o1⟩
    · exact q.elim
theorem tAB_self {k : Nat} {x : Str} {i : Nat} {r : M (List Ar)} {Q : List V → Hp → Prop} (h : tAB G Φ E (aSelf k x i r) σ H Q) : ∃ v, σ[i]? = some (some v) ∧ InsAt (G.cl k) x H v ∧ tAB G Φ E r σ H fun xs H2 => Q (v :: xs) H2 := by
  obtain ⟨F, N, R, ρ, a, q⟩ := h
  unfold aSelf at q
  split at q
  · rename_i d e0
    split at q
    · rename_i hc
      obtain ⟨v, e1, t⟩ := tAB_lend ⟨F, N, R, ρ, a, q⟩
      refine ⟨v, e1, ?_, t⟩
      obtain ⟨ov, M1, Mr, e2, j, w, kk⟩ := rel_at a.2.1 e0
      rw [e1] at e2
      cases e2
      obtain ⟨v', e3, w1⟩ := ownO_of w (by rintro rfl; cases hc)
      cases e3
      exact own_isCls w1 hc a.1.le ((j_le j).1.trans (a.1.sub (by simp)))
    · exact q.elim
  · exact q.elim
theorem spR_nox {r : List D → O3} {n : Nat} {vs : List V} {H : Hp} {Q : VK} {E E' : XK} (h : spR G (noEx r) n vs H Q E) : spR G r n vs H Q E' := by
  obtain ⟨h1, F, M, R, ds, j, o, q⟩ := h
  refine ⟨h1, F, M, R, ds, j, o, ?_⟩
  unfold noEx at q
  cases e : r ds with
  | no => rw [e] at q; exact q
  | ok d as => rw [e] at q; exact q
  | ex k as => rw [e] at q; exact q.elim
theorem noEx_len {r : List D → O3} {n : Nat} (h : ∀ ds, r ds ≠ .no → ds.length = n) : ∀ ds, noEx r ds ≠ .no → ds.length = n := fun ds q => h ds fun z => q (by unfold noEx; rw [z])
theorem tE_make {k : Nat} {r : List D → O3} {ma : M (List Ar)} {n : Nat} {Q : VK} (hn : ∀ ds, r ds ≠ .no → ds.length = n) (h : tE G Φ E false (mMake k r ma) σ H Q) :
    tAB G Φ E ma σ H fun vs H1 => ∀ x dx, H1 x = none → H1 dx = none → dx ≠ x → spR G r n (.ref x :: vs) (upd (upd H1 dx (.own x)) x (.ins (G.cl k) dx [])) (fun v H2 => v = .non ∧ Q (.ref x) H2) (E σ) := by
  obtain ⟨F, N, R, ρ, a, q⟩ := h
  refine ⟨F, N, R, ρ, a, ?_⟩
  unfold mMake at q
  cases e : ma ρ with
  | no => rw [e] at q; exact q
  | ex k ρ' => rw [e] at q; exact q
  | ok as0 ρ1 =>
    rw [e] at q
    simp only [O.bind] at q
    intro vs F0 N0 T0 H1 l0 j0 r0 o0 x dx hx hdx hne
    cases hg : gath as0 ρ1 with
    | none => rw [hg] at q; exact q.elim
    | some z =>
      obtain ⟨ds, bs, ρ2⟩ := z
      rw [hg] at q
      simp only at q
      obtain ⟨jU, jV⟩ := (j0.re [2, 1, 0, 3]).join
      obtain ⟨T1, N1, Z, jz, lo, kz⟩ := gath_ok hg o0 r0 jU
      have jw : J [T1, N1, Z, F0, R] H1 := J.nest (xs := [F0, R]) jz jV
      have jg := (jw.re [3, 0, 2, 1, 4]).give
      have j1 : J [_, N1, T1, R] H1 := jg.1.re [0, 2, 1, 3]
      -- the new instance and its dict
      have j2 := j1.alloc (o := .own x) hdx
      have hx2 : upd H1 dx (.own x) x = none := by rw [upd_ne (fun z => hne z.symm)]; exact hx
      have j3 := j2.alloc (o := .ins (G.cl k) dx []) hx2
      have j4 := (j3.re [2, 0, 1, 3, 4, 5]).give
      have jF := j4.1
      have l01 : Le F0 _ := jg.2.1.trans j4.2.1
      obtain ⟨F1, hF1, l1, o1, r1, j5⟩ : ∃ F1, F1 = un (un F0 Z) (one dx (.own x)) ∧ Le F0 F1 ∧ OwnL G F1 ds vs T1 ∧ Rel G F1 ρ2 σ N1 ∧ J [F1, one x (.ins (G.cl k) dx []), N1, T1, R] (upd (upd H1 dx (.own x)) x (.ins (G.cl k) dx [])) :=
        ⟨_, rfl, l01, (kz _ l01 (jg.2.2.trans j4.2.1)).1, (kz _ l01 (jg.2.2.trans j4.2.1)).2, jF⟩
      have oI : Own G F1 (.ins true k [] []) (.ref x) (one x (.ins (G.cl k) dx [])) := ⟨x, dx, [], rfl, rfl, .inr ⟨rfl, emp, (J.emp_iff.mpr J.self).re [1, 0], ⟨rfl, rfl⟩⟩⟩
      obtain ⟨jx, jy⟩ := (j5.re [1, 3, 0, 2, 4]).join
      have oL : OwnL G F1 (.ins true k [] [] :: ds) (.ref x :: vs) (un (one x (.ins (G.cl k) dx [])) T1) := ⟨.ref x, vs, _, T1, rfl, jx, oI, o1⟩
      have hr : r (.ins true k [] [] :: ds) ≠ .no := fun z => by rw [z] at q; exact q
      have jt : J [N1, R] (un N1 R) := (jy.re [2, 3, 0, 1]).join.1
      refine ⟨by rw [ownL_len oL]; exact hn _ hr, F1, _, un N1 R, _, (jy.re [1, 0, 2, 3]).hide, oL, ?_⟩
      cases e2 : r (.ins true k [] [] :: ds) with
      | no => exact hr e2
      | ok d as =>
        rw [e2] at q
        cases d with
        | non =>
          cases as with
          | nil => exact q.elim
          | cons xt as1 =>
            simp only at q
            intro v F2 M2 T2 H2 l2 j6 o2 ov
            split at q
            · rename_i ρ3 hp
              obtain ⟨rfl, rfl⟩ := ov
              refine ⟨rfl, ?_⟩
              have j7 : J [F2, M2, N1, R] H2 := J.unhide (ys := []) jt (emp_out j6)
              obtain ⟨w0, w, M21, M22, ew, jm, ox, oas⟩ := o2
              cases ew
              have j8 : J [M21, M22, F2, N1, R] H2 := J.nest (xs := [F2, N1, R]) jm (j7.re [1, 0, 2, 3])
              obtain ⟨j9, j10⟩ := (j8.re [3, 1, 0, 2, 4]).join
              obtain ⟨N2, Z2, j11, r2⟩ := putAll_ok (σ := σ) hp oas (rel_le l2 r1) lo j9
              have j12 : J [N2, Z2, M21, F2, R] H2 := J.nest (xs := [M21, F2, R]) j11 j10
              have j13 := (j12.re [3, 0, 1, 2, 4]).give
              exact q (.ref x) _ N2 M21 H2 ((l0.trans (l1.trans l2)).trans j13.2.1) (fun z => nomatch z) j13.1 (rel_le j13.2.1 r2) (own_le j13.2.1 ox)
            · exact q.elim
        | _ => exact q.elim
      | ex kx as =>
        rw [e2] at q
        cases as with
        | nil => exact q.elim
        | cons xt as1 =>
          simp only at q
          intro F2 M2 H2 l2 j6 o2
          split at q
          · rename_i ρ3 hp
            have j7 : J [F2, M2, N1, R] H2 := J.unhide (ys := []) jt j6
            obtain ⟨w0, w, M21, M22, ew, jm, ox, oas⟩ := o2
            cases ew
            have j8 : J [M21, M22, F2, N1, R] H2 := J.nest (xs := [F2, N1, R]) jm (j7.re [1, 0, 2, 3])
            obtain ⟨j9, j10⟩ := (j8.re [3, 1, 0, 2, 4]).join
            obtain ⟨N2, Z2, j11, r2⟩ := putAll_ok (σ := σ) hp oas (rel_le l2 r1) lo j9
            have j12 : J [N2, Z2, M21, F2, R] H2 := J.nest (xs := [M21, F2, R]) j11 j10
            have j13 := (j12.re [3, 0, 1, 2, 4]).give
            have j16 := (j13.1.re [0, 1, 2, 3]).give
            exact q _ N2 H2 (((l0.trans (l1.trans l2)).trans j13.2.1).trans j16.2.1) j16.1 (rel_le (j13.2.1.trans j16.2.1) r2)
          · exact q.elim
end
end Z
namespace Z
open PySem PySem.Spec L2
open PyProof.Rows hiding St
def tMethZ (C : Addr) (m : Str) (sp : Sp) (E : St → XK) (ta : TE) (t : TA) : TE := fun σ H Q => ta σ H fun x H1 => InsAt C m H1 x ∧ t σ H1 fun vs H2 => sp (x :: vs) H2 Q (E σ)
def tMakeZ (C : Addr) (sp : Sp) (E : St → XK) (t : TA) : TE := fun σ H Q => t σ H fun vs H1 => ∀ x dx, H1 x = none → H1 dx = none → dx ≠ x →
  sp (.ref x :: vs) (upd (upd H1 dx (.own x)) x (.ins C dx [])) (fun v H2 => v = .non ∧ Q (.ref x) H2) (E σ)
section
variable {X : Cx} {CX : CXT} {k : Nat} {f C : Addr} {fd : FuncData} {ps : List Str} {sp : Sp} {E : St → XK} {x m : Str} {p pos apos : Pos} {e o : Expr} {es : List Expr} {ta : TE} {t : TA}
theorem pe_methZ {pl : Sem Bool} (he : PE X o ta) (c : Cls X.K C) (hm : Meth X.K C m f) (F : FnOk X.prog X.w X.K X.mg X.base CX k f fd ps sp) (hr : Room k X.A) (hb : Binds X.K fd ps []) (hx : ∀ σ, PassesAt CX X σ (E σ)) (ha : PA X (e :: es) t)
    (hst : starEach (e :: es) X.env = (false, eval e X.env) :: starEach es X.env) (hpl : (backTo pos (starEach es X.env)).any (·.1) = false)
    (ht : eval (.Call (.Attribute o m apos) (e :: es) [] pos) X.env = (do
      let ov ← eval o X.env
      standAt apos.atName
      let (f, first) ← holding [ov] (getMethod ov m pl)
      callWith pos f first (backTo pos (starEach (e :: es) X.env)) (backToKw pos (keywordEach [] X.env)))) :
    PE X (.Call (.Attribute o m apos) (e :: es) [] pos) (tMethZ C m sp E ta t) := by
  refine ⟨fun pins s σ H Q I h => ?_⟩
  refine PySem.W.methodCall_KW (pl := pl) (thn (he.run pins s σ H _ I h) fun u s1 ⟨x, H1, I1, rx, ⟨a, dx, fs, ex, ea, l⟩, q⟩ => ?_) ht
  subst ex
  obtain rfl : u = Value.ref a := rx
  refine getmeth_ok I1 ea c hm l ?_
  refine PySem.W.callWith_K (first := [.ref a]) (h₀ := X.base) I.ok.mod.kin hm.kp (thn (ha.run pos pins s1 σ H1 _ I1 q) fun us s2 ⟨vs, H2, I2, r, q2⟩ => ⟨I2.kIn, ?_⟩) hst hpl
  exact run_fnS (us := .ref a :: us) (vs := .ref a :: vs) F hr hb (hx σ) I2 (.cons rfl r) q2
theorem pe_methZ0 {pl : Sem Bool} (he : PE X o ta) (c : Cls X.K C) (hm : Meth X.K C m f) (F : FnOk X.prog X.w X.K X.mg X.base CX k f fd ps sp) (hr : Room k X.A) (hb : Binds X.K fd ps []) (hx : ∀ σ, PassesAt CX X σ (E σ))
    (ht : eval (.Call (.Attribute o m apos) [] [] pos) X.env = (do
      let ov ← eval o X.env
      standAt apos.atName
      let (f, first) ← holding [ov] (getMethod ov m pl)
      callWith pos f first (backTo pos (starEach [] X.env)) (backToKw pos (keywordEach [] X.env)))) :
    PE X (.Call (.Attribute o m apos) [] [] pos) (tMethZ C m sp E ta tNil) := by
  refine ⟨fun pins s σ H Q I h => ?_⟩
  refine PySem.W.methodCall_KW (pl := pl) (thn (he.run pins s σ H _ I h) fun u s1 ⟨x, H1, I1, rx, ⟨a, dx, fs, ex, ea, l⟩, q⟩ => ?_) ht
  subst ex
  obtain rfl : u = Value.ref a := rx
  refine getmeth_ok I1 ea c hm l ?_
  exact PySem.W.callWith_K0 (first := [.ref a]) I1.kIn hm.kp (run_fnS (us := [.ref a]) (vs := [.ref a]) F hr hb (hx σ) I1 (.cons rfl .nil) q)
theorem run_makeS {pins : List (Addr × Obj)} {σ : St} {H : Hp} {s : Shared} {Q : VK} {us : List Value} {vs : List V} (M : Mk X.K C f) (F : FnOk X.prog X.w X.K X.mg X.base CX k f fd ps sp) (hr : Room (k + 1) X.A) (hb : Binds X.K fd ps [])
    (hx : PassesAt CX X σ (E σ)) (I : Inv X pins σ H s) (r : Vals vs us)
    (h : ∀ x dx, H x = none → H dx = none → dx ≠ x → sp (.ref x :: vs) (upd (upd H dx (.own x)) x (.ins C dx [])) (fun v H2 => v = .non ∧ Q (.ref x) H2) (E σ)) :
    wpAny (model X.prog X.w) X.A (call (.ref C) us) (EP X pins σ Q) X.xe s := by
  have hq := h (s.heap.objs.size + 1) s.heap.objs.size (I.hok.fresh (Nat.le_succ _)) (I.hok.fresh (Nat.le_refl _)) (Nat.ne_of_lt (Nat.lt_succ_self _))
  have I2 := Inv.made (C := C) I
  have r2 : Vals (V.ref (s.heap.objs.size + 1) :: vs) (Value.ref (s.heap.objs.size + 1) :: us) := .cons rfl r
  have hl : (Value.ref (s.heap.objs.size + 1) :: us ++ []).length = ps.length := by
    have e := r2.length
    rw [F.len _ _ _ _ hq] at e
    rw [List.append_nil]
    exact e.symm
  have b := hb _ (Value.ref (s.heap.objs.size + 1) :: us) I2.kIn hl
  rw [List.append_nil] at b
  refine wpAny_call (make_map (f := f) I.kIn M.makes M.init (beq_iff_eq.mp M.fn) (codeAny_mono (F.run _ X.stack _ _ ⟨Value.ref (s.heap.objs.size + 1) :: us, []⟩ (Value.ref (s.heap.objs.size + 1) :: us) _ _ (E σ) (hr.make C us [])
    (I2.env0.make C us []) b r2 hq) fun r s' hq' => ?_))
  cases r with
  | error e => exact hx pins _ _ e s' I2 hq'
  | ok fl =>
    cases fl with
    | ret u =>
      obtain ⟨v, H', I3, rv, ev, q3⟩ := I2.after hq'
      subst ev
      exact ⟨rv, ⟨V.ref (s.heap.objs.size + 1), H', I3, rfl, q3⟩⟩
    | next => exact False.elim hq'
    | brk => exact False.elim hq'
    | cont => exact False.elim hq'
theorem pe_makeZ (M : Mk X.K C f) (F : FnOk X.prog X.w X.K X.mg X.base CX k f fd ps sp) (hr : Room (k + 1) X.A) (hg : Gl X x) (hm : X.mg x = some (.ref C)) (hb : Binds X.K fd ps []) (hx : ∀ σ, PassesAt CX X σ (E σ))
    (ha : PA X (e :: es) t) (hdb : (x == ("__debug__" : Str)) = false) (he : starEach (e :: es) X.env = (false, eval e X.env) :: starEach es X.env) (hpl : (backTo pos (starEach es X.env)).any (·.1) = false) :
    PE X (.Call (.Name x p) (e :: es) [] pos) (tMakeZ C sp E t) := by
  refine ⟨fun pins s σ H Q I h => ?_⟩
  refine wpAny_Call_Name_kw (ld_glob I hg hm ?_ hdb)
  refine PySem.W.callWith_K (h₀ := X.base) I.ok.mod.kin M.kp (thn (ha.run pos pins s σ H _ I h) fun us s1 ⟨vs, H1, I1, r, q⟩ => ⟨I1.kIn, ?_⟩) he hpl
  exact run_makeS M F hr hb (hx σ) I1 r q
theorem pe_makeZ0 (M : Mk X.K C f) (F : FnOk X.prog X.w X.K X.mg X.base CX k f fd ps sp) (hr : Room (k + 1) X.A) (hg : Gl X x) (hm : X.mg x = some (.ref C)) (hb : Binds X.K fd ps []) (hx : ∀ σ, PassesAt CX X σ (E σ))
    (hdb : (x == ("__debug__" : Str)) = false) : PE X (.Call (.Name x p) [] [] pos) (tMakeZ C sp E tNil) := by
  refine ⟨fun pins s σ H Q I h => ?_⟩
  refine wpAny_Call_Name_kw (ld_glob I hg hm ?_ hdb)
  exact PySem.W.callWith_K0 I.kIn M.kp (run_makeS (us := []) M F hr hb (hx σ) I .nil h)
end
section
variable {X : Cx} {cl : Nat → Addr} {Φ : St → Prop} {E : St → XK} {c : Bool} {k kc : Nat} {pos p apos : Pos} {e o : Expr} {es : List Expr} {y m : Str} {f : Addr} {fd : FuncData} {ps : List Str} {r : List D → O3} {ma : M (List Ar)} {j : Nat}
/-- name.m(e, ..) -/
theorem re_methN {i : Nat} (κ : Kx X E k) (hv : PE X (.Name y p) (tVar i)) (hc : Cls X.K (cl kc)) (hm : Meth X.K (cl kc) m f) (Fk : FnOk X.prog X.w X.K X.mg X.base (L2.CX X.prog X.w) j f fd ps (spR (gx X cl) r ps.length)) (hj : j ≤ k)
    (hb : Binds X.K fd ps []) (hn : ∀ ds, r ds ≠ .no → ds.length = ps.length) (ha : RC X cl Φ E (e :: es) ma) {pl : Sem Bool}
    (hst : starEach (e :: es) X.env = (false, eval e X.env) :: starEach es X.env := by rfl) (hpl : (backTo pos (starEach es X.env)).any (·.1) = false := by rfl)
    (ht : eval (.Call (.Attribute (.Name y p) m apos) (e :: es) [] pos) X.env = (do
      let ov ← eval (.Name y p) X.env
      standAt apos.atName
      let (f, first) ← holding [ov] (getMethod ov m pl)
      callWith pos f first (backTo pos (starEach (e :: es) X.env)) (backToKw pos (keywordEach [] X.env))) := by rfl) :
    RE X cl Φ E false (.Call (.Attribute (.Name y p) m apos) (e :: es) [] pos) (mCall r (aSelf kc m i ma)) :=
  ⟨(pe_methZ hv hc hm Fk (κ.room.mono hj) hb κ.pass ha.pa hst hpl ht).weak fun σ H Q q => by
    obtain ⟨v, e1, h1, h2⟩ := tAB_self (tE_call hn q rfl)
    exact ⟨v, e1, h1, h2⟩⟩
theorem re_methN0 {i : Nat} (κ : Kx X E k) (hv : PE X (.Name y p) (tVar i)) (hc : Cls X.K (cl kc)) (hm : Meth X.K (cl kc) m f) (Fk : FnOk X.prog X.w X.K X.mg X.base (L2.CX X.prog X.w) j f fd ps (spR (gx X cl) r ps.length)) (hj : j ≤ k)
    (hb : Binds X.K fd ps []) (hn : ∀ ds, r ds ≠ .no → ds.length = ps.length) {pl : Sem Bool}
    (ht : eval (.Call (.Attribute (.Name y p) m apos) [] [] pos) X.env = (do
      let ov ← eval (.Name y p) X.env
      standAt apos.atName
      let (f, first) ← holding [ov] (getMethod ov m pl)
      callWith pos f first (backTo pos (starEach [] X.env)) (backToKw pos (keywordEach [] X.env))) := by rfl) :
    RE X cl Φ E false (.Call (.Attribute (.Name y p) m apos) [] [] pos) (mCall r (aSelf kc m i aNil)) :=
  ⟨(pe_methZ0 hv hc hm Fk (κ.room.mono hj) hb κ.pass ht).weak fun σ H Q q => by
    obtain ⟨v, e1, h1, h2⟩ := tAB_self (tE_call hn q rfl)
    exact ⟨v, e1, h1, tAB_nil h2⟩⟩
/-- o.m(e, ..), o an expression -/
theorem re_methE {mo : M D} (κ : Kx X E k) (ho : RE X cl Φ E c o mo) (hc : Cls X.K (cl kc)) (hm : Meth X.K (cl kc) m f) (Fk : FnOk X.prog X.w X.K X.mg X.base (L2.CX X.prog X.w) j f fd ps (spR (gx X cl) r ps.length)) (hj : j ≤ k)
    (hb : Binds X.K fd ps []) (hn : ∀ ds, r ds ≠ .no → ds.length = ps.length) (ha : RC X cl Φ E (e :: es) ma) {pl : Sem Bool}
    (hst : starEach (e :: es) X.env = (false, eval e X.env) :: starEach es X.env := by rfl) (hpl : (backTo pos (starEach es X.env)).any (·.1) = false := by rfl)
    (ht : eval (.Call (.Attribute o m apos) (e :: es) [] pos) X.env = (do
      let ov ← eval o X.env
      standAt apos.atName
      let (f, first) ← holding [ov] (getMethod ov m pl)
      callWith pos f first (backTo pos (starEach (e :: es) X.env)) (backToKw pos (keywordEach [] X.env))) := by rfl) :
    RE X cl Φ E false (.Call (.Attribute o m apos) (e :: es) [] pos) (mCall r (aTmp (mGuard kc m mo) ma)) :=
  ⟨(pe_methZ ho.pe hc hm Fk (κ.room.mono hj) hb κ.pass ha.pa hst hpl ht).weak fun σ H Q q => tE_guard (tAB_tmp (tE_call hn q rfl))⟩
theorem tE_then {G : Gx} {m : M D} {σ : St} {H : Hp} {Q Q' : VK} (h : tE G Φ E c m σ H Q) (w : ∀ v H', Q v H' → Q' v H') : tE G Φ E c m σ H Q' := by
  obtain ⟨F, N, R, ρ, a, q⟩ := h
  refine ⟨F, N, R, ρ, a, ?_⟩
  cases e : m ρ with
  | no => rw [e] at q; exact q
  | ex k ρ' => rw [e] at q; exact q
  | ok d ρ1 => rw [e] at q; exact fun v F' N' T H' l k j r o => w v H' (q v F' N' T H' l k j r o)
theorem re_methE0 {mo : M D} (κ : Kx X E k) (ho : RE X cl Φ E c o mo) (hc : Cls X.K (cl kc)) (hm : Meth X.K (cl kc) m f) (Fk : FnOk X.prog X.w X.K X.mg X.base (L2.CX X.prog X.w) j f fd ps (spR (gx X cl) r ps.length)) (hj : j ≤ k)
    (hb : Binds X.K fd ps []) (hn : ∀ ds, r ds ≠ .no → ds.length = ps.length) {pl : Sem Bool}
    (ht : eval (.Call (.Attribute o m apos) [] [] pos) X.env = (do
      let ov ← eval o X.env
      standAt apos.atName
      let (f, first) ← holding [ov] (getMethod ov m pl)
      callWith pos f first (backTo pos (starEach [] X.env)) (backToKw pos (keywordEach [] X.env))) := by rfl) :
    RE X cl Φ E false (.Call (.Attribute o m apos) [] [] pos) (mCall r (aTmp (mGuard kc m mo) aNil)) :=
  ⟨(pe_methZ0 ho.pe hc hm Fk (κ.room.mono hj) hb κ.pass ht).weak fun σ H Q q => tE_then (tE_guard (tAB_tmp (tE_call hn q rfl))) fun v H' z => ⟨z.1, tAB_nil z.2⟩⟩
/-- a property, of a name -/
theorem re_propN {i : Nat} {pa : Addr} (κ : Kx X E k) (hv : PE X (.Name y p) (tVar i)) (hc : Cls X.K (cl kc)) (hp : PropOf X.K (cl kc) m pa f) (Fk : FnOk X.prog X.w X.K X.mg X.base (L2.CX X.prog X.w) j f fd ps (spR (gx X cl) r ps.length)) (hj : j + 1 ≤ k)
    (hb : Binds X.K fd ps []) (hn : ∀ ds, r ds ≠ .no → ds.length = ps.length) (hab : attributeBase (.Name y p) m X.env (eval (.Name y p) X.env) = eval (.Name y p) X.env := by rfl) :
    RE X cl Φ E false (.Attribute (.Name y p) m pos) (mCall (noEx r) (aSelf kc m i aNil)) :=
  ⟨(pe_prop (E := fun _ _ _ => False) hv hc hp Fk (κ.room.mono hj) hb .nil (fun pins σ H s e s' I h => (cx_none h).elim) hab).weak fun σ H Q q => by
    obtain ⟨v, e1, ⟨a, dx, fs, ev, ea, _⟩, h2⟩ := tAB_self (tE_call (noEx_len hn) q rfl)
    subst ev
    exact ⟨_, e1, a, dx, fs, rfl, ea, spR_nox (tAB_nil h2)⟩⟩
theorem re_propE {mo : M D} {pa : Addr} (κ : Kx X E k) (ho : RE X cl Φ E c o mo) (hc : Cls X.K (cl kc)) (hp : PropOf X.K (cl kc) m pa f) (Fk : FnOk X.prog X.w X.K X.mg X.base (L2.CX X.prog X.w) j f fd ps (spR (gx X cl) r ps.length)) (hj : j + 1 ≤ k)
    (hb : Binds X.K fd ps []) (hn : ∀ ds, r ds ≠ .no → ds.length = ps.length) (hab : attributeBase o m X.env (eval o X.env) = eval o X.env := by rfl) :
    RE X cl Φ E false (.Attribute o m pos) (mCall (noEx r) (aTmp (mGuard kc m mo) aNil)) :=
  ⟨(pe_prop (E := fun _ _ _ => False) ho.pe hc hp Fk (κ.room.mono hj) hb .nil (fun pins σ H s e s' I h => (cx_none h).elim) hab).weak fun σ H Q q => tE_then (tE_guard (tAB_tmp (tE_call (noEx_len hn) q rfl))) fun v H' z => by
    obtain ⟨⟨a, dx, fs, ev, ea, _⟩, z2⟩ := z
    subst ev
    exact ⟨a, dx, fs, rfl, ea, spR_nox (tAB_nil z2)⟩⟩
/-- C(e, ..) -/
theorem re_make (κ : Kx X E k) (M : Mk X.K (cl kc) f) (Fk : FnOk X.prog X.w X.K X.mg X.base (L2.CX X.prog X.w) j f fd ps (spR (gx X cl) r ps.length)) (hj : j + 1 ≤ k) (hm : X.mg y = some (.ref (cl kc)))
    (hb : Binds X.K fd ps []) (hn : ∀ ds, r ds ≠ .no → ds.length = ps.length) (ha : RC X cl Φ E (e :: es) ma) (hg : Gl X y := by rfl) (hdb : (y == ("__debug__" : Str)) = false := by decide)
    (he : starEach (e :: es) X.env = (false, eval e X.env) :: starEach es X.env := by rfl) (hpl : (backTo pos (starEach es X.env)).any (·.1) = false := by rfl) :
    RE X cl Φ E false (.Call (.Name y p) (e :: es) [] pos) (mMake kc r ma) :=
  ⟨(pe_makeZ M Fk (κ.room.mono hj) hg hm hb κ.pass ha.pa hdb he hpl).weak fun _ _ _ q => tE_make hn q⟩
theorem re_make0 (κ : Kx X E k) (M : Mk X.K (cl kc) f) (Fk : FnOk X.prog X.w X.K X.mg X.base (L2.CX X.prog X.w) j f fd ps (spR (gx X cl) r ps.length)) (hj : j + 1 ≤ k) (hm : X.mg y = some (.ref (cl kc)))
    (hb : Binds X.K fd ps []) (hn : ∀ ds, r ds ≠ .no → ds.length = ps.length) (hg : Gl X y := by rfl) (hdb : (y == ("__debug__" : Str)) = false := by decide) :
    RE X cl Φ E false (.Call (.Name y p) [] [] pos) (mMake kc r aNil) :=
  ⟨(pe_makeZ0 M Fk (κ.room.mono hj) hg hm hb κ.pass hdb).weak fun _ _ _ q => tAB_nil (tE_make hn q)⟩
end
end Z

end
section
set_option maxRecDepth 100000
/-! Z: dicts that lie in slots: read, written, asked -/
namespace Z
open PySem PySem.Spec L2
open PyProof.Rows hiding St
/-- place[key] of a dict -/
def pKey (q : M Pth) (m : M D) : M Pth := fun ρ => (q ρ).bind fun p ρ1 => (m ρ1).bind fun e ρ2 => match keyD e with
  | some k => (match getR ρ2 (p.1, p.2 ++ [.key k]) with
    | some d => if isHole d = true then .no else .ok (p.1, p.2 ++ [.key k]) ρ2
    | none => .no)
  | none => .no
section
variable {X : Cx} {cl : Nat → Addr} {Φ : St → Prop} {E : St → XK} {c : Bool} {k : Nat} {pos pos' p apos cpos : Pos} {a b e f o : Expr} {es : List Expr}
theorem rp_key {m : M Pth} {mi : M D} (κ : Kx X E k) (h : RP X cl Φ E o m) (hi : RE X cl Φ E true e mi) (hs : NoSl e := by exact fun _ _ => rfl) : RP X cl Φ E (.Subscript o e pos) (pKey m mi) := by
  refine ⟨(pe_dget κ.units h.pe hi.pe.kf hs).weak fun σ H Q ⟨F, N, R, ρ, a, q⟩ => ⟨F, N, R, ρ, a, ?_⟩, fun ρ p ρ' hh => ?_⟩
  · unfold pKey at q
    cases e1 : m ρ with
    | no => rw [e1] at q; exact q
    | ex k ρ' => rw [e1] at q; exact q
    | ok p ρ1 =>
      rw [e1] at q
      simp only [O.bind] at q
      intro v0 v F1 N1 H1 l1 k1 j1 r1 s1 at1
      refine ⟨F1, N1, R, ρ1, ⟨j1, r1, a.2.2⟩, ?_⟩
      cases e2 : mi ρ1 with
      | no => rw [e2] at q; exact q
      | ex k ρ' => rw [e2] at q; exact PX.le q l1
      | ok d ρ2 =>
        rw [e2] at q
        intro w F2 N2 T2 H2 l2 k2 j2 r2 o2 kf
        simp only at q
        split at q
        · rename_i kk hk
          split at q
          · rename_i d2 g2
            split at q
            · exact q.elim
            · rename_i hn
              have hn : isHole d2 = false := by simpa using hn
              obtain ⟨rfl, rfl⟩ := own_key o2 hk
              have j3 := emp_out j2
              obtain ⟨w0, w1, M1, Mr, s2, jm, ow, at2, kk2⟩ := rel_path (G := gx X cl) r2 g2 hn
              have s2 : σ[p.1]? = some (some w0) := s2
              rw [s1] at s2; cases s2
              have a3 := at2 H2 j3.le (j3.sub (by simp))
              have at1' := AtP.le (k2 rfl) at1
              have key : ∀ {π : List Stp} {x y z : V}, AtP X.K H2 x π y → AtP X.K H2 x (π ++ [.key kk]) z → ∃ u, AtS X.K H2 y (.key kk) u := by
                intro π
                induction π with
                | nil => intro x y z h1 h2; cases h1; obtain ⟨u, h3, _⟩ := h2; exact ⟨u, h3⟩
                | cons s π ih =>
                  intro x y z h1 h2
                  obtain ⟨u, b1, b2⟩ := h1
                  obtain ⟨u', c1, c2⟩ := h2
                  have := atS_one kf b1 c1
                  subst this
                  exact ih b2 c2
              obtain ⟨u, hu⟩ := key at1' a3
              obtain ⟨b, kvs, rfl, hq, hv⟩ := id hu
              exact ⟨b, u, rfl, .inl ⟨kvs, kk, hq, rfl, hv.symm⟩, q v0 u F2 N2 H2 (l1.trans l2) (k1.trans (k2 rfl)) j3 r2 s1 (atP_app at1' hu)⟩
          · exact q.elim
        · exact q.elim
  · unfold pKey at hh
    cases e1 : m ρ with
    | no => rw [e1] at hh; cases hh
    | ex k ρ' => rw [e1] at hh; cases hh
    | ok p0 ρ1 =>
      rw [e1] at hh
      simp only [O.bind] at hh
      cases e2 : mi ρ1 with
      | no => rw [e2] at hh; cases hh
      | ex k ρ' => rw [e2] at hh; cases hh
      | ok d ρ2 =>
        rw [e2] at hh
        simp only at hh
        split at hh
        · split at hh
          · split at hh
            · cases hh
            · rename_i hn
              cases hh
              exact ⟨_, by assumption, by simpa using hn⟩
          · cases hh
        · cases hh
end
/-! ### d[k] = v -/
def findQ {κ : Type} [DecidableEq κ] (k : κ) : List κ → Option Nat
  | [] => none
  | a :: r => if a = k then some 0 else (findQ k r).map (· + 1)
/-- keys once -/
def onceQ {κ : Type} [DecidableEq κ] (k : κ) : List κ → Bool
  | [] => true
  | a :: r => if a = k then (findQ k r).isNone else onceQ k r
def dicPut {κ : Type} [DecidableEq κ] (k : κ) (x : D) (ks : List κ) (ds : List D) : List κ × List D := match findQ k ks with
  | some j => (ks, ds.set j x)
  | none => (ks ++ [k], ds ++ [x])
theorem findQ_any {κ : Type} [DecidableEq κ] {k : κ} : ∀ {ks : List κ} {vs : List V}, ks.length = vs.length → ((ks.zip vs).any fun kv => decide (kv.1 = k)) = (findQ k ks).isSome
  | [], _, _ => rfl
  | _ :: _, [], h => by simp at h
  | a :: ks, v :: vs, h => by
    rw [List.zip_cons_cons, List.any_cons, findQ_any (ks := ks) (by simpa using h), findQ]
    by_cases c : a = k
    · simp [c]
    · rw [if_neg c]
      simp [c]
theorem findQ_lt {κ : Type} [DecidableEq κ] {k : κ} : ∀ {ks : List κ} {j : Nat}, findQ k ks = some j → j < ks.length
  | [], _, h => by cases h
  | a :: ks, j, h => by
    unfold findQ at h
    split at h
    · cases h; simp
    · cases hf : findQ k ks with
      | none => rw [hf] at h; cases h
      | some i => rw [hf] at h; cases h; have := findQ_lt hf; simp; omega
theorem map_none {κ : Type} [DecidableEq κ] {k : κ} {v : V} : ∀ {ks : List κ} {vs : List V}, findQ k ks = none → (ks.zip vs).map (fun kv => if kv.1 = k then (kv.1, v) else kv) = ks.zip vs
  | [], _, _ => rfl
  | _ :: _, [], _ => rfl
  | a :: ks, w :: vs, h => by
    unfold findQ at h
    by_cases c : a = k
    · rw [if_pos c] at h; cases h
    · rw [if_neg c] at h
      have hf : findQ k ks = none := by
        cases hf : findQ k ks with
        | none => rfl
        | some i => rw [hf] at h; cases h
      rw [List.zip_cons_cons, List.map_cons, map_none hf]
      simp [c]
theorem putK_zip {κ : Type} [DecidableEq κ] {k : κ} {x : D} {v : V} {ks : List κ} {vs : List V} (hl : ks.length = vs.length) (h1 : onceQ k ks = true) :
    (∀ j, findQ k ks = some j → putK (ks.zip vs) k v = ks.zip (vs.set j v)) ∧ (findQ k ks = none → putK (ks.zip vs) k v = (ks ++ [k]).zip (vs ++ [v])) := by
  unfold putK
  rw [findQ_any hl]
  refine ⟨fun j h => ?_, fun h => ?_⟩
  · rw [h]
    simp only [Option.isSome_some, if_true]
    clear x
    induction ks generalizing vs j with
    | nil => cases h
    | cons a ks ih =>
      cases vs with
      | nil => simp at hl
      | cons w vs =>
        unfold findQ at h
        unfold onceQ at h1
        by_cases c : a = k
        · rw [if_pos c] at h h1
          cases h
          rw [Option.isNone_iff_eq_none] at h1
          rw [List.zip_cons_cons, List.map_cons, map_none h1]
          simp [c]
        · rw [if_neg c] at h h1
          cases hf : findQ k ks with
          | none => rw [hf] at h; cases h
          | some i =>
            rw [hf] at h
            cases h
            rw [List.zip_cons_cons, List.map_cons, ih (by simpa using hl) h1 i hf]
            simp [c]
  · rw [h]
    simp only [Option.isSome_none, Bool.false_eq_true, if_false]
    rw [List.zip_append hl]; rfl
def mSetK (q : M Pth) (mi m : M D) : M Fl := fun ρ => (m ρ).bind fun d ρ1 => match q ρ1 with
  | .ok p ρ2 => (match mi ρ2 with
    | .ok e ρ3 => (match getR ρ3 p with
      | some (.dic true ks ds) => (match keyD e with
        | some k => if (onceQ k ks && decide (ks.length < sizeLine)) = true then .ok .nx (setR ρ3 p (.dic true (dicPut k d ks ds).1 (dicPut k d ks ds).2)) else .no
        | none => .no)
      | some (.dit true ks ds) => (match tkD e with
        | some k => if (onceQ k ks && decide (ks.length < sizeLine)) = true then .ok .nx (setR ρ3 p (.dit true (dicPut k d ks ds).1 (dicPut k d ks ds).2)) else .no
        | none => .no)
      | _ => .no)
    | _ => .no)
  | _ => .no
section
variable {G : Gx}
theorem own_dicT {F : Hp} {ks : List Key} {ds : List D} {v : V} {M : Hp} (o : Own G F (.dic true ks ds) v M) : ∃ a vs C, v = .ref a ∧ ks.length = ds.length ∧ J [one a (.dK (ks.zip vs)), C] M ∧ OwnL G F ds vs C ∧ M ≠ emp := by
  obtain ⟨a, vs, rfl, hl, o⟩ := o
  rcases o with ⟨z, _⟩ | ⟨_, C, j, w⟩
  · cases z
  · refine ⟨a, vs, C, rfl, hl, j, w, fun z => ?_⟩
    have := j.at
    rw [z] at this
    cases this
theorem own_ditT {F : Hp} {ks : List (List Key)} {ds : List D} {v : V} {M : Hp} (o : Own G F (.dit true ks ds) v M) : ∃ a vs C, v = .ref a ∧ ks.length = ds.length ∧ J [one a (.dT (ks.zip vs)), C] M ∧ OwnL G F ds vs C ∧ M ≠ emp := by
  obtain ⟨a, vs, rfl, hl, o⟩ := o
  rcases o with ⟨z, _⟩ | ⟨_, C, j, w⟩
  · cases z
  · refine ⟨a, vs, C, rfl, hl, j, w, fun z => ?_⟩
    have := j.at
    rw [z] at this
    cases this
/-- the values behind a store -/
theorem dicPut_own {κ : Type} [DecidableEq κ] {F1 : Hp} {k : κ} {d : D} {v : V} {ks : List κ} {ds : List D} {vs : List V} {C T U : Hp} (hl : ks.length = ds.length) (wc : OwnL G F1 ds vs C) (ow : Own G F1 d v T) (j : J [C, T] U) (h1 : onceQ k ks = true) :
    ∃ vs' C' Z, (dicPut k d ks ds).1.length = (dicPut k d ks ds).2.length ∧ putK (ks.zip vs) k v = (dicPut k d ks ds).1.zip vs' ∧ J [C', Z] U ∧ ∀ F', Le F1 F' → OwnL G F' (dicPut k d ks ds).2 vs' C' := by
  have hlv : ks.length = vs.length := by rw [hl, ownL_len wc]
  obtain ⟨p1, p2⟩ := putK_zip (x := d) (v := v) hlv h1
  unfold dicPut
  cases hf : findQ k ks with
  | none =>
    exact ⟨vs ++ [v], U, emp, by simp [hl], p2 hf, (J.emp_iff.mpr J.self).re [1, 0], fun F' l' => ownL_app (ownL_le l' wc) ⟨v, [], T, emp, rfl, (J.emp_iff.mpr J.self).re [1, 0], own_le l' ow, ⟨rfl, rfl⟩⟩ j⟩
  | some jx =>
    have hjx := findQ_lt hf
    obtain ⟨d0, hd⟩ : ∃ d0, ds[jx]? = some d0 := ⟨ds[jx]'(by omega), List.getElem?_eq_getElem (by omega)⟩
    obtain ⟨v1, Mj, Mr1, ev, jj, oj, kp⟩ := ownL_put wc hd
    have j6 : J [Mj, Mr1, T] U := J.nest (xs := [T]) jj j
    obtain ⟨ja, jb⟩ := (j6.re [2, 1, 0]).join
    exact ⟨vs.set jx v, _, Mj, by simp [hl], p1 jx hf, jb, fun F' l' => kp F' d v T _ l' (own_le l' ow) ja⟩
theorem own_tkZ {F T : Hp} {d : D} {v : V} {k : List Key} (o : Own G F d v T) (h : tkD d = some k) : ∃ b, v = .ref b ∧ ∀ H, Le F H → Le T H → H b = some (.tup (k.map kV)) := by
  unfold tkD at h
  split at h
  · obtain ⟨a, vs, S, C, rfl, j, w, g⟩ := own_tupH o
    exact ⟨a, rfl, fun H l m => by rw [← ownL_keys w h]; exact g H l m⟩
  · cases h
end
section
variable {X : Cx} {cl : Nat → Addr} {Φ : St → Prop} {E : St → XK} {c : Bool} {k : Nat} {pos pos' p apos cpos : Pos} {a b e f i o : Expr} {es : List Expr}
theorem rs_setK {q : M Pth} {mi m : M D} (κ : Kx X E k) (hm : RE X cl Φ E c e m) (h : RP X cl Φ E o q) (hi : RE X cl Φ E true i mi) (hs : swapsWith e (some (.Subscript o i pos')) pos.line X.env = pure false := by rfl) : RS X cl Φ E (.Assign [.Subscript o i pos'] e pos) (mSetK q mi m) := by
  refine ⟨(ps_dput κ.units h.pe hi.pe.kf hm.pe hs).weak fun D' σ H z => ?_⟩
  refine tS_ofE z fun d v F N T R ρ H1 j r f0 ow z => ?_
  have jt : J [T, R] (un T R) := (j.re [2, 3, 0, 1]).join.1
  refine ⟨F, N, un T R, ρ, ⟨j.hide, r, f0⟩, ?_⟩
  cases e1 : q ρ with
  | no => rw [e1] at z; exact z
  | ex k ρ' => rw [e1] at z; exact z.elim
  | ok p ρ2 =>
    rw [e1] at z
    simp only at z
    intro v0 w F1 N1 H2 l1 k1 j1 r1 s1 at1
    refine ⟨F1, N1, un T R, ρ2, ⟨j1, r1, f0⟩, ?_⟩
    cases e2 : mi ρ2 with
    | no => rw [e2] at z; exact z
    | ex k ρ' => rw [e2] at z; exact z.elim
    | ok ei ρ3 =>
      rw [e2] at z
      intro y F2 N2 T2 H3 l2 k2 j2 r2 o2 kf
      simp only at z
      have at2 := AtP.le (k2 rfl) at1
      have j3 : J [F2, N2, T, T2, R] H3 := (J.unhide (ys := [T2]) jt (j2.re [0, 1, 3, 2])).re [0, 1, 2, 4, 3]
      split at z
      · rename_i ks ds g
        split at z
        · rename_i kk hk
          split at z
          · rename_i hcc
            rw [Bool.and_eq_true, decide_eq_true_eq] at hcc
            obtain ⟨M1, Mr, jm, om, kkp⟩ := place (G := gx X cl) j2.hide r2 g rfl kf s1 at2
            obtain ⟨ad, vs, C, rfl, hl, jc, wc, ne⟩ := own_dicT om
            have j4 : J [M1, Mr, F2, T, T2, R] H3 := J.nest (xs := [F2, T, T2, R]) jm (j3.re [1, 0, 2, 3, 4])
            have j5 : J [one ad (.dK (ks.zip vs)), C, Mr, F2, T, T2, R] H3 := J.nest (xs := [Mr, F2, T, T2, R]) jc j4
            obtain ⟨jct, j6⟩ := (j5.re [1, 4, 0, 2, 3, 5, 6]).join
            obtain ⟨vs', C', Z, hl', ep, jz, oz⟩ := dicPut_own hl wc (own_le (l1.trans l2) ow) jct hcc.1
            have j7 : J [C', Z, one ad (.dK (ks.zip vs)), Mr, F2, T2, R] H3 := J.nest (xs := [one ad (.dK (ks.zip vs)), Mr, F2, T2, R]) jz j6
            have j8 := (j7.re [2, 0, 1, 3, 4, 5, 6]).write (o' := .dK (putK (ks.zip vs) kk v))
            have j9 := (j8.re [4, 0, 2, 1, 3, 5, 6]).give
            have j10 := (j9.1.re [0, 1, 4, 2, 3, 5]).give
            have l3 := j9.2.1.trans j10.2.1
            obtain ⟨jc2, jd⟩ := (j10.1.re [1, 2, 0, 3, 4]).join
            obtain ⟨je, jf⟩ := (jd.re [0, 2, 1, 3]).join
            have r3 := kkp _ (.dic true (dicPut kk d ks ds).1 (dicPut kk d ks ds).2) _ _ l3 ⟨ad, vs', rfl, hl',   .inr ⟨rfl, C', by rw [← ep]; exact jc2, oz _ l3⟩⟩ je (.inr ne)
            have hsz : (ks.zip vs).length < sizeLine := by rw [List.length_zip]; omega
            obtain ⟨ey, _⟩ := own_key o2 hk
            exact ⟨ad, _, rfl, .inl ⟨_, kk, j5.at, ey, hsz, rfl⟩, z _ _ _ σ ((l1.trans l2).trans l3) ⟨jf.re [1, 0, 2], r3, f0⟩⟩
          · exact z.elim
        · exact z.elim
      · rename_i ks ds g
        split at z
        · rename_i kk hk
          split at z
          · rename_i hcc
            rw [Bool.and_eq_true, decide_eq_true_eq] at hcc
            obtain ⟨M1, Mr, jm, om, kkp⟩ := place (G := gx X cl) j2.hide r2 g rfl kf s1 at2
            obtain ⟨ad, vs, C, rfl, hl, jc, wc, ne⟩ := own_ditT om
            have j4 : J [M1, Mr, F2, T, T2, R] H3 := J.nest (xs := [F2, T, T2, R]) jm (j3.re [1, 0, 2, 3, 4])
            have j5 : J [one ad (.dT (ks.zip vs)), C, Mr, F2, T, T2, R] H3 := J.nest (xs := [Mr, F2, T, T2, R]) jc j4
            obtain ⟨jct, j6⟩ := (j5.re [1, 4, 0, 2, 3, 5, 6]).join
            obtain ⟨vs', C', Z, hl', ep, jz, oz⟩ := dicPut_own hl wc (own_le (l1.trans l2) ow) jct hcc.1
            have j7 : J [C', Z, one ad (.dT (ks.zip vs)), Mr, F2, T2, R] H3 := J.nest (xs := [one ad (.dT (ks.zip vs)), Mr, F2, T2, R]) jz j6
            have j8 := (j7.re [2, 0, 1, 3, 4, 5, 6]).write (o' := .dT (putK (ks.zip vs) kk v))
            have j9 := (j8.re [4, 0, 2, 1, 3, 5, 6]).give
            have j10 := (j9.1.re [0, 1, 4, 2, 3, 5]).give
            have l3 := j9.2.1.trans j10.2.1
            obtain ⟨jc2, jd⟩ := (j10.1.re [1, 2, 0, 3, 4]).join
            obtain ⟨je, jf⟩ := (jd.re [0, 2, 1, 3]).join
            have r3 := kkp _ (.dit true (dicPut kk d ks ds).1 (dicPut kk d ks ds).2) _ _ l3 ⟨ad, vs', rfl, hl',   .inr ⟨rfl, C', by rw [← ep]; exact jc2, oz _ l3⟩⟩ je (.inr ne)
            have hsz : (ks.zip vs).length < sizeLine := by rw [List.length_zip]; omega
            obtain ⟨b, ey, gb⟩ := own_tkZ o2 hk
            exact ⟨ad, _, rfl, .inr ⟨_, kk, b, j5.at, ey, gb _ j2.le (j3.sub (by simp)), hsz, rfl⟩, z _ _ _ σ ((l1.trans l2).trans l3) ⟨jf.re [1, 0, 2], r3, f0⟩⟩
          · exact z.elim
        · exact z.elim
      · exact z.elim
end
end Z
/-! ### k in d, d.get(k, z), {} -/
namespace Z
open PySem PySem.Spec L2
open PyProof.Rows hiding St
def dKIn (k d : D) : Option D := (dGet d k).map fun r => .bl r.isSome
def dKNot (k d : D) : Option D := (dGet d k).map fun r => .bl (!r.isSome)
theorem fo_kin {G : Gx} : FO2 G (fun y x H Q => ∃ a o, x = .ref a ∧ DGet H a y o ∧ Q (.bl o.isSome) H) dKIn := by
  intro F T1 T2 H y x d e z Q lF l1 l2 o1 o2 hz k
  unfold dKIn at hz
  cases hg : dGet e d with
  | none => rw [hg] at hz; cases hz
  | some r =>
    rw [hg] at hz
    cases hz
    obtain ⟨a, rfl, _⟩ := own_isDct lF l2 o2 (dGet_isDct hg)
    obtain ⟨x', g, n1, n2⟩ := own_dget lF l2 l1 o2 o1 hg
    have e : x'.isSome = r.isSome := by
      cases r with
      | none => rw [n1 rfl]; rfl
      | some ed => obtain ⟨v, M5, rfl, _⟩ := n2 ed rfl; rfl
    exact ⟨a, x', rfl, g, by rw [e]; exact k _ fun _ => ⟨rfl, rfl⟩⟩
theorem fo_knot {G : Gx} : FO2 G (fun y x H Q => ∃ a o, x = .ref a ∧ DGet H a y o ∧ Q (.bl (!o.isSome)) H) dKNot := by
  intro F T1 T2 H y x d e z Q lF l1 l2 o1 o2 hz k
  unfold dKNot at hz
  cases hg : dGet e d with
  | none => rw [hg] at hz; cases hz
  | some r =>
    rw [hg] at hz
    cases hz
    obtain ⟨a, rfl, _⟩ := own_isDct lF l2 o2 (dGet_isDct hg)
    obtain ⟨x', g, n1, n2⟩ := own_dget lF l2 l1 o2 o1 hg
    have e : x'.isSome = r.isSome := by
      cases r with
      | none => rw [n1 rfl]; rfl
      | some ed => obtain ⟨v, M5, rfl, _⟩ := n2 ed rfl; rfl
    exact ⟨a, x', rfl, g, by rw [e]; exact k _ fun _ => ⟨rfl, rfl⟩⟩
section
variable {X : Cx} {cl : Nat → Addr} {Φ : St → Prop} {E : St → XK} {c : Bool} {k : Nat} {pos p apos cpos : Pos} {a b e f o : Expr} {ma : M D} {m : M Pth}
theorem xKIn (κ : Kx X E k) (ha : RE X cl Φ E c a ma) (hb : RP X cl Φ E b m) (hm : behindInMarks .In b = false := by rfl) : RE X cl Φ E c (.Compare a [.In] [b] pos) (mBinP dKIn ma m) := ⟨(pe_cmp (pc_din κ.units ha.pe hb.pe.kf) hm).weak fun _ _ _ h => tE_binP fo_kin hb.wf h⟩
theorem xKNot (κ : Kx X E k) (ha : RE X cl Φ E c a ma) (hb : RP X cl Φ E b m) (hm : behindInMarks .NotIn b = false := by rfl) : RE X cl Φ E c (.Compare a [.NotIn] [b] pos) (mBinP dKNot ma m) := ⟨(pe_cmp (pc_dnotin κ.units ha.pe hb.pe.kf) hm).weak fun _ _ _ h => tE_binP fo_knot hb.wf h⟩
theorem bKIn (κ : Kx X E k) (ha : RE X cl Φ E c a ma) (hb : RP X cl Φ E b m) (hm : behindInMarks .In b = false := by rfl) : RB X cl Φ E c (.Compare a [.In] [b] pos) (mTst (mBinP dKIn ma m)) := ⟨(pt_cmp (pc_din κ.units ha.pe hb.pe.kf) hm).weak fun _ _ _ h => tE_binP fo_kin hb.wf (tB_val h)⟩
theorem bKNot (κ : Kx X E k) (ha : RE X cl Φ E c a ma) (hb : RP X cl Φ E b m) (hm : behindInMarks .NotIn b = false := by rfl) : RB X cl Φ E c (.Compare a [.NotIn] [b] pos) (mTst (mBinP dKNot ma m)) := ⟨(pt_cmp (pc_dnotin κ.units ha.pe hb.pe.kf) hm).weak fun _ _ _ h => tE_binP fo_knot hb.wf (tB_val h)⟩
theorem re_emptyK : RE X cl Φ E c (.Dict [] [] pos) (mK (.dic true [] [])) := by
  refine ⟨pe_dnewK.weak fun σ H Q ⟨F, N, R, ρ, a, q⟩ p hp => ?_⟩
  have j := (a.1.alloc (o := .dK []) hp).re [1, 2, 0, 3]
  exact q (.ref p) F N _ _ Le.refl (fun _ b o e => by rw [upd_ne (fun z => by rw [z, hp] at e; cases e)]; exact e) j a.2.1 ⟨p, [], rfl, rfl, .inr ⟨rfl, emp, (J.emp_iff.mpr J.self).re [1, 0], ⟨rfl, rfl⟩⟩⟩
theorem re_emptyT : RE X cl Φ E c (.Dict [] [] pos) (mK (.dit true [] [])) := by
  refine ⟨pe_dnewT.weak fun σ H Q ⟨F, N, R, ρ, a, q⟩ p hp => ?_⟩
  have j := (a.1.alloc (o := .dT []) hp).re [1, 2, 0, 3]
  exact q (.ref p) F N _ _ Le.refl (fun _ b o e => by rw [upd_ne (fun z => by rw [z, hp] at e; cases e)]; exact e) j a.2.1 ⟨p, [], rfl, rfl, .inr ⟨rfl, emp, (J.emp_iff.mpr J.self).re [1, 0], ⟨rfl, rfl⟩⟩⟩
end
/-- where a key stands -/
def dFind : D → D → Option (Option Nat)
  | .dic _ ks _, k => (keyD k).map fun q => findQ q ks
  | .dit _ ks _, k => (tkD k).map fun q => findQ q ks
  | _, _ => none
theorem valV_find {κ : Type} [DecidableEq κ] {k : κ} : ∀ {ks : List κ} {vs : List V}, ks.length = vs.length → valV (ks.zip vs) k = (findQ k ks).bind fun j => vs[j]?
  | [], _, _ => rfl
  | _ :: _, [], h => by simp at h
  | a :: ks, v :: vs, h => by
    unfold findQ
    by_cases c : a = k
    · rw [if_pos c]
      simp [valV, List.find?_cons, c]
    · rw [if_neg c]
      have ih := valV_find (k := k) (ks := ks) (vs := vs) (by simpa using h)
      have e : valV ((a, v) :: ks.zip vs) k = valV (ks.zip vs) k := by simp [valV, List.find?_cons, c]
      rw [List.zip_cons_cons, e, ih]
      cases findQ k ks <;> simp
theorem dFind_dct {d k : D} {r : Option Nat} (h : dFind d k = some r) : isDct d = true := by
  cases d <;> first | rfl | (cases h; done)
/-- a dict asked at a key: what stands there can be shared -/
theorem own_find {G : Gx} {F H T M : Hp} {d k : D} {v y : V} {r : Option Nat} (lF : Le F H) (lT : Le T H) (lM : Le M H) (o : Own G F d v T) (o2 : Own G F k y M) (h : dFind d k = some r) :
    ∃ a x, v = .ref a ∧ DGet H a y x ∧ (r = none → x = none) ∧ ∀ j, r = some j → ∃ e w M1 Mr, (partsD d)[j]? = some e ∧ x = some w ∧ J [M1, Mr] T ∧ Own G F e w M1 ∧ (Mr = emp ∨ T ≠ emp) ∧
      ∀ F', Le F F' → Le M1 F' → Own G F' (withParts d ((partsD d).set j (frz e))) v Mr := by
  cases d <;> first | (cases h; done) | skip
  · rename_i ob ks ds
    cases hk : keyD k with
    | none => rw [dFind, hk] at h; cases h
    | some q =>
      rw [dFind, hk] at h
      cases h
      obtain ⟨a, vs, C, rfl, n, lC, w, rd⟩ := own_dic o lF lT
      have hlv : ks.length = vs.length := by rw [n, ownL_len w]
      refine ⟨a, _, rfl, .inl ⟨_, q, rd, (own_key o2 hk).1, rfl⟩, fun z => by have z : findQ q ks = none := z; rw [valV_find hlv, z]; rfl, fun j z => ?_⟩
      have z : findQ q ks = some j := z
      rw [valV_find hlv, z]
      have hj := findQ_lt z
      obtain ⟨e, he⟩ : ∃ e, ds[j]? = some e := ⟨ds[j]'(by omega), List.getElem?_eq_getElem (by omega)⟩
      obtain ⟨a', vs', ea, n', o'⟩ := o
      cases ea
      rcases o' with ⟨rfl, rfl, fa, wo⟩ | ⟨rfl, C', jc, wo⟩
      · obtain ⟨u, M1, Mr, eu, jm, oe, kk⟩ := ownL_at wo he
        obtain ⟨rfl, rfl⟩ := j_emp2 jm
        have evs : vs' = vs := by
          have r1 := rd_one (Rd.le fa lF) rd (fun _ _ z => nomatch z) (fun _ _ z => nomatch z)
          have r2 : ks.zip vs' = ks.zip vs := by injection r1
          have r3 := congrArg (List.map Prod.snd) r2
          rwa [List.map_snd_zip (by have := ownL_len wo; omega), List.map_snd_zip (by omega)] at r3
        subst evs
        exact ⟨e, u, emp, emp, he, eu, J.emps, oe, .inl rfl, fun F' l' _ => ⟨a, vs', rfl, by simp [partsD, n], .inl ⟨rfl, rfl, Rd.le fa l', kk F' (frz e) emp emp l' (own_frz oe l' fun _ _ z => nomatch z) J.emps⟩⟩⟩
      · obtain ⟨u, M1, Mr, eu, jm, oe, kk⟩ := ownL_at wo he
        have evs : vs' = vs := by
          have r1 := rd_one (.inl (lT _ _ jc.at)) rd (fun _ _ z => nomatch z) (fun _ _ z => nomatch z)
          have r2 : ks.zip vs' = ks.zip vs := by injection r1
          have r3 := congrArg (List.map Prod.snd) r2
          rwa [List.map_snd_zip (by have := ownL_len wo; omega), List.map_snd_zip (by omega)] at r3
        subst evs
        have j2 : J [M1, Mr, one a (.dK (ks.zip vs'))] T := J.nest (xs := [one a (.dK (ks.zip vs'))]) jm (jc.re [1, 0])
        obtain ⟨j3, j4⟩ := (j2.re [2, 1, 0]).join
        refine ⟨e, u, M1, _, he, eu, j4.re [1, 0], oe, .inr fun z => ?_, fun F' l' m' => ⟨a, vs', rfl, by simp [partsD, n], .inr ⟨rfl, Mr, j3, kk F' (frz e) emp Mr l' (own_frz oe l' m') (J.emp_iff.mpr J.self)⟩⟩⟩
        have := jc.at
        rw [z] at this
        cases this
  · rename_i ob ks ds
    cases hk : tkD k with
    | none => rw [dFind, hk] at h; cases h
    | some q =>
      rw [dFind, hk] at h
      cases h
      obtain ⟨a, vs, C, rfl, n, lC, w, rd⟩ := own_dit o lF lT
      have hlv : ks.length = vs.length := by rw [n, ownL_len w]
      obtain ⟨b, ey, gb⟩ := own_tkZ o2 hk
      refine ⟨a, _, rfl, .inr ⟨_, q, b, rd, ey, gb H lF lM, rfl⟩, fun z => by have z : findQ q ks = none := z; rw [valV_find hlv, z]; rfl, fun j z => ?_⟩
      have z : findQ q ks = some j := z
      rw [valV_find hlv, z]
      have hj := findQ_lt z
      obtain ⟨e, he⟩ : ∃ e, ds[j]? = some e := ⟨ds[j]'(by omega), List.getElem?_eq_getElem (by omega)⟩
      obtain ⟨a', vs', ea, n', o'⟩ := o
      cases ea
      rcases o' with ⟨rfl, rfl, fa, wo⟩ | ⟨rfl, C', jc, wo⟩
      · obtain ⟨u, M1, Mr, eu, jm, oe, kk⟩ := ownL_at wo he
        obtain ⟨rfl, rfl⟩ := j_emp2 jm
        have evs : vs' = vs := by
          have r1 := rd_one (Rd.le fa lF) rd (fun _ _ z => nomatch z) (fun _ _ z => nomatch z)
          have r2 : ks.zip vs' = ks.zip vs := by injection r1
          have r3 := congrArg (List.map Prod.snd) r2
          rwa [List.map_snd_zip (by have := ownL_len wo; omega), List.map_snd_zip (by omega)] at r3
        subst evs
        exact ⟨e, u, emp, emp, he, eu, J.emps, oe, .inl rfl, fun F' l' _ => ⟨a, vs', rfl, by simp [partsD, n], .inl ⟨rfl, rfl, Rd.le fa l', kk F' (frz e) emp emp l' (own_frz oe l' fun _ _ z => nomatch z) J.emps⟩⟩⟩
      · obtain ⟨u, M1, Mr, eu, jm, oe, kk⟩ := ownL_at wo he
        have evs : vs' = vs := by
          have r1 := rd_one (.inl (lT _ _ jc.at)) rd (fun _ _ z => nomatch z) (fun _ _ z => nomatch z)
          have r2 : ks.zip vs' = ks.zip vs := by injection r1
          have r3 := congrArg (List.map Prod.snd) r2
          rwa [List.map_snd_zip (by have := ownL_len wo; omega), List.map_snd_zip (by omega)] at r3
        subst evs
        have j2 : J [M1, Mr, one a (.dT (ks.zip vs'))] T := J.nest (xs := [one a (.dT (ks.zip vs'))]) jm (jc.re [1, 0])
        obtain ⟨j3, j4⟩ := (j2.re [2, 1, 0]).join
        refine ⟨e, u, M1, _, he, eu, j4.re [1, 0], oe, .inr fun z => ?_, fun F' l' m' => ⟨a, vs', rfl, by simp [partsD, n], .inr ⟨rfl, Mr, j3, kk F' (frz e) emp Mr l' (own_frz oe l' m') (J.emp_iff.mpr J.self)⟩⟩⟩
        have := jc.at
        rw [z] at this
        cases this
/-- what stands at a place's key -/
def takeAt (ρ : Env) (p : Pth) (d : D) (j : Nat) : O D := match (partsD d)[j]? with
  | some e => .ok (frz e) (setR ρ p (withParts d ((partsD d).set j (frz e))))
  | none => .no
/-- place[k], k any key -/
def mAtP (q : M Pth) (mk : M D) : M D := fun ρ => (q ρ).bind fun p ρ1 => (mk ρ1).bind fun k ρ2 => match getR ρ2 p with
  | some d => (match dFind d k with
    | some (some j) => takeAt ρ2 p d j
    | _ => .no)
  | none => .no
/-- place.get(k, z) -/
def mGetP (q : M Pth) (mk mz : M D) : M D := fun ρ => (q ρ).bind fun p ρ1 => match getR ρ1 p with
  | some d0 => if isDct d0 = true then (mCons mk (mCons mz mNil) ρ1).bind fun as ρ2 => match as with
    | [k, z] => (match getR ρ2 p with
      | some d => (match dFind d k with
        | some none => .ok z ρ2
        | some (some j) => takeAt ρ2 p d j
        | none => .no)
      | none => .no)
    | _ => .no
    else .no
  | none => .no
section
variable {X : Cx} {cl : Nat → Addr} {Φ : St → Prop} {E : St → XK} {c : Bool} {k : Nat} {pos p apos cpos : Pos} {a b e f o : Expr} {mk mz : M D} {m : M Pth}
theorem take_at {σ : St} {F R N T H : Hp} {Q : VK} {ρ : Env} {p : Pth} {d kd : D} {v0 vd y : V} {j : Nat} (q : PostE (gx X cl) E false σ F R H Q (takeAt ρ p d j)) (jj : J [F, N, T, R] H) (r : Rel (gx X cl) F ρ σ N) (g : getR ρ p = some d) (kf : KF X.K H) (s : σ[p.1]? = some (some v0)) (at1 : AtP X.K H v0 p.2 vd)
    {M : Hp} (lM : Le M T) (oy : Own (gx X cl) F kd y M) (hf : dFind d kd = some (some j)) : ∃ ad w, vd = .ref ad ∧ DGet H ad y (some w) ∧ Q w H := by
  have n1 : isHole d = false := by have := dFind_dct hf; cases d <;> first | rfl | cases this
  obtain ⟨Mp, Mr, jp, op, kk⟩ := place (G := gx X cl) jj.hide r g n1 kf s at1
  obtain ⟨ad, x, rfl, gd, _, z2⟩ := own_find jj.le ((j_le jp).1.trans (jj.sub (by simp))) (lM.trans (jj.sub (by simp))) op oy hf
  obtain ⟨e, w, M1, M2, he, rfl, j2, oe, hc, ow⟩ := z2 j rfl
  refine ⟨ad, w, rfl, gd, ?_⟩
  unfold takeAt at q
  rw [he] at q
  have j3 : J [Mp, Mr, F, T, R] H := J.nest (xs := [F, T, R]) jp (jj.re [1, 0, 2, 3])
  have j4 : J [M1, M2, Mr, F, T, R] H := J.nest (xs := [Mr, F, T, R]) j2 j3
  have j5 := (j4.re [3, 1, 0, 2, 4, 5]).give
  obtain ⟨j6, j7⟩ := (j5.1.re [1, 2, 0, 3, 4]).join
  have j8 := (j7.re [1, 0, 2, 3]).give
  have l2 := j5.2.1.trans j8.2.1
  have r2 := kk _ _ _ _ l2 (ow _ l2 (j5.2.2.trans j8.2.1)) j6 hc
  exact q w _ _ emp H l2 (fun z => nomatch z) (emp_in j8.1) r2 (own_frz oe l2 (j5.2.2.trans j8.2.1))
theorem re_atP (κ : Kx X E k) (ho : RP X cl Φ E o m) (he : RE X cl Φ E true e mk) (hs : NoSl e := by exact fun _ _ => rfl) : RE X cl Φ E false (.Subscript o e pos) (mAtP m mk) := by
  refine ⟨(pe_dget κ.units ho.pe.kf he.pe.kf hs).weak fun σ H Q ⟨F, N, R, ρ, a, q⟩ => ⟨F, N, R, ρ, a, ?_⟩⟩
  unfold mAtP at q
  cases e1 : m ρ with
  | no => rw [e1] at q; exact q
  | ex k ρ' => rw [e1] at q; exact q
  | ok p ρ1 =>
    rw [e1] at q
    simp only [O.bind] at q
    intro v0 v F1 N1 H1 l1 k1 j1 r1 s1 at1 kf1
    refine ⟨F1, N1, R, ρ1, ⟨j1, r1, a.2.2⟩, ?_⟩
    cases e2 : mk ρ1 with
    | no => rw [e2] at q; exact q
    | ex k ρ' => rw [e2] at q; exact PX.le q l1
    | ok kd ρ2 =>
      rw [e2] at q
      intro y F2 N2 T2 H2 l2 k2 j2 r2 o2 kf
      simp only at q
      split at q
      · rename_i d g
        split at q
        · rename_i j hf
          have q2 : PostE (gx X cl) E false σ F2 R H2 Q (takeAt ρ2 p d j) := by
            cases e3 : takeAt ρ2 p d j with
            | no => rw [e3] at q; exact q
            | ex k ρ' => rw [e3] at q; exact PX.le q (l1.trans l2)
            | ok d' ρ' => rw [e3] at q; exact fun v F' N' T H' l _ jj rr oo => q v F' N' T H' ((l1.trans l2).trans l) (fun z => nomatch z) jj rr oo
          exact take_at q2 j2 r2 g kf s1 (AtP.le (k2 rfl) at1) Le.refl o2 hf
        · exact q.elim
      · exact q.elim
theorem re_getP (κ : Kx X E k) (ho : RP X cl Φ E o m) (he : RE X cl Φ E true e mk) (hf : RE X cl Φ E true f mz) (mm : M2 X o "get" apos e f cpos := by exact ⟨rfl, rfl, rfl, rfl⟩) :
    RE X cl Φ E false (.Call (.Attribute o "get" apos) [e, f] [] cpos) (mGetP m mk mz) := by
  refine ⟨(pe_dget2 κ.units ho.pe.kf he.pe hf.pe.kf mm).weak fun σ H Q ⟨F, N, R, ρ, a, q⟩ => ⟨F, N, R, ρ, a, ?_⟩⟩
  unfold mGetP at q
  cases e1 : m ρ with
  | no => rw [e1] at q; exact q
  | ex k ρ' => rw [e1] at q; exact q
  | ok p ρ1 =>
    rw [e1] at q
    simp only [O.bind] at q
    intro v0 v F1 N1 H1 l1 k1 j1 r1 s1 at1 kf1
    split at q
    · rename_i d0 g0
      split at q
      · rename_i hd0
        have n0 : isHole d0 = false := by cases d0 <;> first | rfl | cases hd0
        obtain ⟨M0, Mr0, jm0, om0, _⟩ := place (G := gx X cl) j1 r1 g0 n0 kf1 s1 at1
        obtain ⟨ad, rfl, isd⟩ := own_isDct j1.le ((j_le jm0).1.trans (j1.sub (by simp))) om0 hd0
        refine ⟨ad, rfl, isd, ?_⟩
        have ta : tA (gx X cl) Φ E (true && true) (mCons mk (mCons mz mNil)) σ H1 (fun vs H3 => KF X.K H3 → ∃ y z, vs = [y, z] ∧ ∃ o, DGet H3 ad y o ∧ Q (o.getD z) H3) := by
          refine ⟨F1, N1, R, ρ1, ⟨j1, r1, a.2.2⟩, ?_⟩
          cases e2 : mCons mk (mCons mz mNil) ρ1 with
          | no => rw [e2] at q; exact q
          | ex k ρ' => rw [e2] at q; exact PX.le q l1
          | ok as ρ2 =>
            rw [e2] at q
            intro ws F2 N2 T2 H2 l2 k2 j2 r2 o2 kf
            have at2 := AtP.le (k2 rfl) at1
            simp only at q
            split at q
            · rename_i kd zd
              obtain ⟨y, ws1, M1, M2, rfl, jm, oy, z, ws2, M3, M4, rfl, jm2, oz, rfl, rfl⟩ := o2
              refine ⟨y, z, rfl, ?_⟩
              have lM1 : Le M1 T2 := jm.sub (by simp)
              split at q
              · rename_i d g
                split at q
                · rename_i hg
                  have n1 : isHole d = false := by have := dFind_dct hg; cases d <;> first | rfl | cases this
                  obtain ⟨Mp, Mr, jp, op, kk⟩ := place (G := gx X cl) j2.hide r2 g n1 kf s1 at2
                  obtain ⟨ad2, x', ea, gd, z1, _⟩ := own_find j2.le ((j_le jp).1.trans (j2.sub (by simp))) (lM1.trans (j2.sub (by simp))) op oy hg
                  cases ea
                  refine ⟨x', gd, ?_⟩
                  rw [z1 rfl]
                  have eM2 := (J.emp_iff.mp (jm2.re [1, 0])).eq1
                  subst eM2
                  have j3 : J [M1, M2, F2, N2, R] H2 := J.nest (xs := [F2, N2, R]) jm (j2.re [2, 0, 1, 3])
                  have j4 := (j3.re [2, 3, 0, 1, 4]).give
                  exact q z _ N2 M2 H2 ((l1.trans l2).trans j4.2.1) (fun w => nomatch w) j4.1 (rel_le j4.2.1 r2) (own_le j4.2.1 oz)
                · rename_i j hg
                  have q2 : PostE (gx X cl) E false σ F2 R H2 Q (takeAt ρ2 p d j) := by
                    cases e3 : takeAt ρ2 p d j with
                    | no => rw [e3] at q; exact q
                    | ex k ρ' => rw [e3] at q; exact PX.le q (l1.trans l2)
                    | ok d' ρ' => rw [e3] at q; exact fun v F' N' T H' l _ jj rr oo => q v F' N' T H' ((l1.trans l2).trans l) (fun z => nomatch z) jj rr oo
                  obtain ⟨ad2, w, ea, gd, qw⟩ := take_at q2 j2 r2 g kf s1 at2 lM1 oy hg
                  cases ea
                  exact ⟨some w, gd, qw⟩
                · exact q.elim
              · exact q.elim
            · exact q.elim
        have t1 := tA_cons (c1 := true) (c2 := true) ta
        refine tE_mono t1 fun y H2 w => ?_
        have t2 := tA_cons (c1 := true) (c2 := true) w
        refine tE_mono t2 fun z H3 w2 => ?_
        have w3 := tA_nil w2
        exact fun kf3 => by
          obtain ⟨y', z', e', w4⟩ := w3 kf3
          cases e'
          exact w4
      · exact q.elim
    · exact q.elim
end
end Z

end
section
set_option maxRecDepth 100000
/-! Z: max, min with default=; xs[::-1]; list(range(..)); o.f += e -/
namespace Z
open PySem PySem.Spec L2
open PyProof.Rows hiding St
theorem vals_int_at : ∀ {ns : List Int} {its : List Value}, Vals (ns.map V.int) its → ∀ i v, its[i]? = some v → ∃ t, v = Value.int (ns.getD i 0) t
  | [], its, r, i, v, h => by
    have := Vals.length r
    have : its = [] := List.length_eq_zero_iff.mp (by rw [← this]; rfl)
    subst this; simp at h
  | n :: ns, its, r, i, v, h => by
    cases its with
    | nil => simp at h
    | cons u us =>
      cases i with
      | zero =>
        simp at h; subst h
        have hg := Vals.get (i := 0) r (x := .int n) rfl
        obtain ⟨w, e, rel⟩ := hg
        simp at e; subst e
        obtain ⟨t, e⟩ := (show ∃ t, u = Value.int n t from rel)
        exact ⟨t, by simpa using e⟩
      | succ i =>
        have r2 : Vals (ns.map V.int) us := by
          have := Vals.drop 1 r
          simpa using this
        obtain ⟨t, e⟩ := vals_int_at r2 i v (by simpa using h)
        exact ⟨t, by simpa using e⟩
def rMaxD (K : PySem.W.Frag) : List V → List V → Hp → VK → Prop := fun xs zs H Q => ∃ a ns v, xs = [.ref a] ∧ zs = [v] ∧ SqL K H a (ns.map V.int) ∧ (ns = [] → Q v H) ∧ ∀ m, m ∈ ns → (∀ b ∈ ns, b ≤ m) → Q (.int m) H
def rMinD (K : PySem.W.Frag) : List V → List V → Hp → VK → Prop := fun xs zs H Q => ∃ a kvs ns v, xs = [.ref a] ∧ zs = [v] ∧ Rd H a (.dK kvs) ∧ kvs.map (·.1) = ns.map Sum.inl ∧ (ns = [] → Q v H) ∧ ∀ m, m ∈ ns → (∀ b ∈ ns, m ≤ b) → Q (.int m) H
theorem cr_maxD {X : Cx} (hc : X.calm = true) : CallRK X (.builtin "max") [Str.ofString "default"] (rMaxD X.K) := by
  intro pins s σ H vs zs us ws Q I r rz h
  obtain ⟨a, ns, v, rfl, rfl, hs, h0, h1⟩ := h
  obtain rfl := Vals.ref1 r
  obtain ⟨w1, rfl, e1⟩ := vals1 rz
  obtain ⟨its, rv, hl, _⟩ := I.list hs
  have hlen : its.length = ns.length := by rw [← Vals.length rv, List.length_map]
  show wpAny _ _ (call (.builtin "max") [.ref a] [(Str.ofString "default", w1)]) _ _ s
  refine call_max_walkD (PySem.W.iter_listW (A := X.A.in1) (I.ok.hd hc) hl.isList fun s₂ e W st hfp hw hk => ?_)
  refine ⟨_, _, _, _, _, _, _, s.heap, (fun i j => decide (ns.getD i 0 > ns.getD j 0)), rfl, W, st, hfp, hw, hk, fun hz s' m => ?_, fun hp => ⟨fun i j vi vj s Q E _ hi hj hq => CmpOf.ints_gt (P := fun i v => its.toArray[i]? = some v) (fun i => ns.getD i 0) (fun i v hv => vals_int_at rv i v (by simpa using hv)) i j vi vj s Q E hi hj hq, fun v' s' hP m => ?_⟩⟩
  · obtain ⟨h', tk, rfl, hk'⟩   := PySem.W.moved_old e rfl m
    have : ns = [] := List.length_eq_zero_iff.mp (by simp at hz; rw [← hlen, hz]; rfl)
    exact ⟨v, H, I.kept hk', e1, h0 this⟩
  · obtain ⟨h', tk, rfl, hk'⟩   := PySem.W.moved_old e rfl m
    obtain ⟨t, rfl⟩ := vals_int_at rv (argBest (fun i j => decide (ns.getD i 0 > ns.getD j 0)) (its.toArray.size - 1)) v' (by rw [← List.getElem?_toArray]; exact hP)
    obtain ⟨g1, g2⟩ := argBest_gt (fun i => ns.getD i 0) (its.toArray.size - 1)
    have hp' : 0 < ns.length := by rw [← hlen]; simpa using hp
    refine ⟨.int _, H, I.kept hk', ⟨t, rfl⟩, h1 _ ?_ fun b hb => ?_⟩
    · have hlt : argBest (fun i j => decide (ns.getD i 0 > ns.getD j 0)) (its.toArray.size - 1) < ns.length := by
        have : its.toArray.size = ns.length := by simpa using hlen
        omega
      rw [List.getD_eq_getElem?_getD, List.getElem?_eq_getElem hlt]
      exact List.getElem_mem hlt
    · obtain ⟨j, hj, rfl⟩ := List.getElem_of_mem hb
      have := g2 j (by have : its.toArray.size = ns.length := by simpa using hlen
                       omega)
      rw [List.getD_eq_getElem?_getD (i := j), List.getElem?_eq_getElem hj] at this
      exact this
theorem cr_minD {X : Cx} (hc : X.calm = true) : CallRK X (.builtin "min") [Str.ofString "default"] (rMinD X.K) := by
  intro pins s σ H vs0 zs us ws Q I r rz h
  obtain ⟨a, kvs, ns, v, rfl, rfl, hd, hks, h0, h1⟩ := h
  obtain rfl := Vals.ref1 r
  obtain ⟨w1, rfl, e1⟩ := vals1 rz
  obtain ⟨z, lo, vs, rel, dd⟩ := dk_rd I.hok hd
  obtain ⟨ep, hat⟩ := dd.dictAt
  have hkeys : vs.map (·.1) = ns.map Sum.inl := rel.keys.symm.trans hks
  have hlen : vs.length = ns.length := by
    have e := congrArg List.length hkeys
    rw [List.length_map, List.length_map] at e
    exact e
  have hint : ∀ (i : Nat) (x : Value), (∃ k y, vs[i]? = some (k, y) ∧ (mixKind X.prog X.w).is k x = true) → ∃ t, x = .int (ns.getD i 0) t := by
    intro i x ⟨k, y, e2, e3⟩
    have e4 : (vs.map (·.1))[i]? = some k := by rw [List.getElem?_map, e2]; rfl
    rw [hkeys, List.getElem?_map] at e4
    cases e5 : ns[i]? with
    | none => rw [e5] at e4; cases e4
    | some n =>
      rw [e5] at e4
      have e6 : Sum.inl n = k := Option.some.inj e4
      subst e6
      rw [List.getD_eq_getElem?_getD, e5]
      rcases keyIs_shape (show keyIs (Sum.inl n) x = true from e3) with ⟨i, t, ek, ev⟩ | ⟨z, t, ek, ev⟩
      · cases ek; exact ⟨t, ev⟩
      · cases ek
  have hlt : a < s.heap.objs.size := hat.lt_size
  have hne : a ≠ s.heap.objs.size := Nat.ne_of_lt hlt
  show wpAny _ _ (call (.builtin "min") [.ref a] [(Str.ofString "default", w1)]) _ _ s
  refine call_min_walkD (wpAny_pyIter_dict (A := X.A.in1) lo hat ?_)
  refine ⟨s.heap.objs.size, _, _, _, _, _, _, s.heap, (fun i j => decide (ns.getD i 0 < ns.getD j 0)), rfl, (Walks.dictKeys (A := X.A.in1) (I.ok.hd hc) s.heap.objs.size a hne vs ep).toS, ⟨⟨_, Heap.get?_push_size _ rfl, rfl, rfl⟩, hat.push _⟩, ?_, ?_, fun b o e => Heap.get?_push_of_some _ e, fun hz s' m => ?_, fun hp => ⟨fun i j vi vj s Q E _ hi hj hq => CmpOf.ints_lt (fun i => ns.getD i 0) hint i j vi vj s Q E hi hj hq, fun v' s' hP m => ?_⟩⟩
  · intro b hb
    show b < (s.heap.push _).objs.size
    rw [Heap.size_push]
    rcases List.mem_cons.mp hb with rfl | hb
    · exact Nat.lt_succ_self _
    · rw [List.mem_singleton.mp hb]; exact Nat.lt_succ_of_lt hlt
  · intro b o e hb
    exact absurd (Heap.lt_size e) ((List.mem_singleton.mp hb) ▸ Nat.lt_irrefl _)
  · obtain ⟨h', tk, rfl, hk'⟩   := PySem.W.moved_old (s := s) rfl rfl m
    exact ⟨v, H, I.kept hk', e1, h0 (List.length_eq_zero_iff.mp (by rw [← hlen]; exact hz))⟩
  · obtain ⟨h', tk, rfl, hk'⟩   := PySem.W.moved_old (s := s) rfl rfl m
    obtain ⟨t, rfl⟩ := hint _ v' hP
    obtain ⟨g1, g2⟩ := argBest_lt (fun i => ns.getD i 0) (vs.length - 1)
    have hp' : 0 < ns.length := by rw [← hlen]; exact hp
    refine ⟨.int _, H, I.kept hk', ⟨t, rfl⟩, h1 _ ?_ fun b hb => ?_⟩
    · have hlt : argBest (fun i j => decide (ns.getD i 0 < ns.getD j 0)) (vs.length - 1) < ns.length := by omega
      rw [List.getD_eq_getElem?_getD, List.getElem?_eq_getElem hlt]
      exact List.getElem_mem hlt
    · obtain ⟨j, hj, rfl⟩ := List.getElem_of_mem hb
      have := g2 j (by omega)
      rw [List.getD_eq_getElem?_getD (i := j), List.getElem?_eq_getElem hj] at this
      exact this
def keysI : List Key → Option (List Int)
  | [] => some []
  | .inl i :: ks => (keysI ks).map (i :: ·)
  | .inr _ :: _ => none
theorem keysI_eq : ∀ {ks : List Key} {ns : List Int}, keysI ks = some ns → ks = ns.map Sum.inl
  | [], _, h => by cases h; rfl
  | .inl i :: ks, ns, h => by
    rw [keysI] at h
    cases hk : keysI ks with
    | none => rw [hk] at h; cases h
    | some ms => rw [hk] at h; cases h; rw [keysI_eq hk]; rfl
  | .inr _ :: _, _, h => by cases h
theorem keysI_map : ∀ ns : List Int, keysI (ns.map Sum.inl) = some ns
  | [] => rfl
  | n :: ns => by rw [List.map_cons, keysI, keysI_map ns]; rfl
def dMaxD (d e : D) : Option D := (asInts d).bind fun ns => match e with
  | .int i => some (.int (if ns = [] then i else maxOf ns))
  | _ => none
def dMinD (d e : D) : Option D := match d with
  | .dic _ ks _ => (keysI ks).bind fun ns => match e with
    | .int i => some (.int (if ns = [] then i else minOf ns))
    | _ => none
  | _ => none
theorem f2_maxD {G : Gx} : F2 G (fun x y H Q => rMaxD G.K [x] [y] H Q) dMaxD := by
  intro F N T1 T2 R H x y d e z Q j o1 o2 hz k
  unfold dMaxD at hz
  cases ha : asInts d with
  | none => rw [ha] at hz; cases hz
  | some ns =>
    rw [ha] at hz
    simp only [Option.bind_some] at hz
    split at hz
    · rename_i i
      cases hz
      obtain ⟨a, rfl, hs⟩ := own_asInts j.le (j.sub (by simp)) o1 ha
      obtain ⟨rfl, rfl⟩ := o2
      have dd := dump2 j
      refine ⟨a, ns, _, rfl, rfl, hs, fun h0 => ?_, fun m hm hb => ?_⟩
      · rw [if_pos h0] at k
        exact k _ _ emp H dd.2.1 Le.refl dd.1 ⟨rfl, rfl⟩
      · have hn : ns ≠ [] := by rintro rfl; cases hm
        have s := maxOf_spec (List.length_pos_iff.mpr hn)
        have : m = maxOf ns := Int.le_antisymm (s.2 m hm) (hb _ s.1)
        rw [if_neg hn, ← this] at k
        exact k _ _ emp H dd.2.1 Le.refl dd.1 ⟨rfl, rfl⟩
    · cases hz
theorem f2_minD {G : Gx} : F2 G (fun x y H Q => rMinD G.K [x] [y] H Q) dMinD := by
  intro F N T1 T2 R H x y d e z Q j o1 o2 hz k
  unfold dMinD at hz
  split at hz
  · rename_i ob ks ds
    cases ha : keysI ks with
    | none => rw [ha] at hz; cases hz
    | some ns =>
      rw [ha] at hz
      simp only [Option.bind_some] at hz
      split at hz
      · rename_i i
        cases hz
        obtain ⟨a, vs, C, rfl, hl, lC, w, rd⟩ := own_dic o1 j.le (j.sub (by simp))
        obtain ⟨rfl, rfl⟩ := o2
        have dd := dump2 j
        have hk := keysI_eq ha
        refine ⟨a, _, ns, _, rfl, rfl, rd, ?_, fun h0 => ?_, fun m hm hb => ?_⟩
        · rw [← hk, List.map_fst_zip (by have := ownL_len w; omega)]
        · rw [if_pos h0] at k
          exact k _ _ emp H dd.2.1 Le.refl dd.1 ⟨rfl, rfl⟩
        · have hn : ns ≠ [] := by rintro rfl; cases hm
          have s := minOf_spec (List.length_pos_iff.mpr hn)
          have : m = minOf ns := Int.le_antisymm (hb _ s.1) (s.2 m hm)
          rw [if_neg hn, ← this] at k
          exact k _ _ emp H dd.2.1 Le.refl dd.1 ⟨rfl, rfl⟩
      · cases hz
  · cases hz
def dRev : D → Option D
  | .lst _ ds => some (.lst true (frzL ds).reverse)
  | .out ds => some (.lst true (frzL ds).reverse)
  | _ => none
theorem ownL_rev {G : Gx} {F : Hp} : ∀ {ds : List D} {vs : List V}, OwnL G F ds vs emp → OwnL G F ds.reverse vs.reverse emp
  | [], _, h => by rw [h.1]; exact ⟨rfl, rfl⟩
  | d :: ds, vs, h => by
    obtain ⟨v, r, M1, M2, rfl, j, h1, h2⟩ := h
    obtain ⟨rfl, rfl⟩ := j_emp2 j
    rw [List.reverse_cons, List.reverse_cons]
    exact ownL_app (ownL_rev h2) ⟨v, [], emp, emp, rfl, J.emps, h1, rfl, rfl⟩ J.emps
theorem f1_rev {G : Gx} : F1 G (fun x H Q => ∃ a xs, x = .ref a ∧ SqL G.K H a xs ∧ ∀ p, H p = none → Q (.ref p) (upd H p (.lst xs.reverse))) dRev := by
  intro F N T R H x d z Q j o hz k
  unfold dRev at hz
  split at hz
  · cases hz
    obtain ⟨a, vs, S, C, rfl, jc, w, g⟩ := own_lst o
    have dd := dump1 j
    refine ⟨a, vs, rfl, .of (g H j.le (j.sub (by simp))), fun p hp => ?_⟩
    have wf := ownL_rev (ownL_frz w dd.2.1 ((j_le jc).2.trans dd.2.2))
    have j2 : J [un F T, N, one p (.lst vs.reverse), R] (upd H p (.lst vs.reverse)) := J.emp_iff.mp ((dd.1.alloc (o := .lst vs.reverse) hp).re [3, 1, 2, 0, 4])
    exact k _ _ _ _ dd.2.1 (fun b o e => by rw [upd_ne (fun z => by rw [z, hp] at e; cases e)]; exact e) j2 ⟨p, _, rfl, .inr ⟨rfl, emp, (J.emp_iff.mpr J.self).re [1, 0], wf⟩⟩
  · cases hz
    obtain ⟨a, vs, rfl, rfl, g, w⟩ := o
    have dd := dump1 j
    refine ⟨a, vs, rfl, sqL_le g j.le, fun p hp => ?_⟩
    have wf := ownL_rev (ownL_frz w dd.2.1 (fun _ _ z => nomatch z))
    have j2 : J [un F emp, N, one p (.lst vs.reverse), R] (upd H p (.lst vs.reverse)) := J.emp_iff.mp ((dd.1.alloc (o := .lst vs.reverse) hp).re [3, 1, 2, 0, 4])
    exact k _ _ _ _ dd.2.1 (fun b o e => by rw [upd_ne (fun z => by rw [z, hp] at e; cases e)]; exact e) j2 ⟨p, _, rfl, .inr ⟨rfl, emp, (J.emp_iff.mpr J.self).re [1, 0], wf⟩⟩
  · cases hz
def dLR (d e : D) : Option D := match d, e with
  | .int a, .int b => if (decide (0 ≤ a) && decide (a ≤ 16777216) && (decide (0 ≤ b) && decide (b ≤ 16777216))) = true then some (.lst true ((List.range (b - a).toNat).map fun i : Nat => .int (a + (i : Int)))) else none
  | _, _ => none
theorem ownL_rg {G : Gx} {F : Hp} (a : Int) (L : List Nat) : OwnL G F (L.map fun i : Nat => D.int (a + (i : Int))) (L.map fun i : Nat => V.int (a + (i : Int))) emp := by
  induction L with
  | nil => exact ⟨rfl, rfl⟩
  | cons i L ih => exact ⟨_, _, emp, emp, rfl, J.emps, ⟨rfl, rfl⟩, ih⟩
theorem f2_LR {G : Gx} : F2 G (fun x y H Q => ∃ i j, x = .int i ∧ y = .int j ∧ RgOk i j ∧ ∀ q, H q = none → Q (.ref q) (upd H q (.lst (rgV i j)))) dLR := by
  intro F N T1 T2 R H x y d e z Q j o1 o2 hz k
  unfold dLR at hz
  split at hz
  · rename_i a b
    split at hz
    · rename_i hb
      cases hz
      simp only [Bool.and_eq_true, decide_eq_true_eq] at hb
      obtain ⟨⟨b1, b2⟩, b3, b4⟩ := hb
      obtain ⟨rfl, rfl⟩ := o1
      obtain ⟨rfl, rfl⟩ := o2
      refine ⟨a, b, rfl, rfl, RgOk.of_le b1 b4 b2 b3, fun p hp => ?_⟩
      have dd := dump2 j
      have j2 : J [un (un F emp) emp, N, one p (.lst (rgV a b)), R] (upd H p (.lst (rgV a b))) := J.emp_iff.mp ((dd.1.alloc (o := .lst (rgV a b)) hp).re [3, 1, 2, 0, 4])
      exact k _ _ _ _ dd.2.1 (fun c o e => by rw [upd_ne (fun z => by rw [z, hp] at e; cases e)]; exact e) j2 ⟨p, _, rfl, .inr ⟨rfl, emp, (J.emp_iff.mpr J.self).re [1, 0], ownL_rg a _⟩⟩
    · cases hz
  · cases hz
theorem f1_LR {G : Gx} : F1 G (fun x H Q => ∃ n, x = .int n ∧ RgOk 0 n ∧ ∀ q, H q = none → Q (.ref q) (upd H q (.lst (rgV 0 n)))) (fun d => dLR (.int 0) d) := by
  intro F N T R H x d z Q j o hz k
  have hf := f2_LR (G := G) (F := F) (N := N) (T1 := emp) (T2 := T) (R := R) (H := H) (x := .int 0) (y := x) (d := .int 0) (e := d) (z := z) (Q := Q) ((J.emp_iff.mpr j).re [1, 2, 0, 3, 4]) ⟨rfl, rfl⟩ o hz k
  obtain ⟨i, n, e1, rfl, h1, h2⟩ := hf
  cases e1
  exact ⟨n, rfl, h1, h2⟩
section
variable {X : Cx} {cl : Nat → Addr} {Φ : St → Prop} {E : St → XK} {c c1 c2 : Bool} {k : Nat} {pos p p1 p2 p3 kp apos tpos : Pos} {e a b f o : Expr} {es : List Expr} {ma mb m : M D}
theorem re_maxD (κ : Kx X E k) (h : RE X cl Φ E c1 a ma) (h2 : RE X cl Φ E c2 b mb) (hm : X.mg "max" = none) (hg : Gl X "max" := by rfl) (hst : starEach [a] X.env = (false, eval a X.env) :: starEach [] X.env := by rfl)
    (he : backTo pos (starEach [a] X.env) = (false, eval a X.env) :: backTo pos (starEach [] X.env) := by rfl) (hpl : (backTo pos (starEach [a] X.env)).any (·.1) = false := by rfl)
    (hall : (backToKw pos (keywordEach [⟨some "default", b, kp⟩] X.env)).all (·.1.isSome) = true := by rfl) (hnone : (backToKw pos (keywordEach [⟨some "default", b, kp⟩] X.env)).any (·.1.isNone) = false := by rfl) (hks : (backToKw pos (keywordEach [⟨some "default", b, kp⟩] X.env)).filterMap (·.1) = [Str.ofString "default"] := by rfl) :
    RE X cl Φ E (c1 && c2) (.Call (.Name "max" p) [a] [⟨some "default", b, kp⟩] pos) (mBin dMaxD ma mb) :=
  ⟨(pe_callBK (cr_maxD κ.calm) hg hm (by decide +kernel) (pa_cons h.pe pa_nil hst) (pk_cons h2.pe pk_nil) (by decide) (by decide) he hpl hall hnone hks).weak fun σ H Q q => tE_bin f2_maxD q⟩
theorem re_minD (κ : Kx X E k) (h : RE X cl Φ E c1 a ma) (h2 : RE X cl Φ E c2 b mb) (hm : X.mg "min" = none) (hg : Gl X "min" := by rfl) (hst : starEach [a] X.env = (false, eval a X.env) :: starEach [] X.env := by rfl)
    (he : backTo pos (starEach [a] X.env) = (false, eval a X.env) :: backTo pos (starEach [] X.env) := by rfl) (hpl : (backTo pos (starEach [a] X.env)).any (·.1) = false := by rfl)
    (hall : (backToKw pos (keywordEach [⟨some "default", b, kp⟩] X.env)).all (·.1.isSome) = true := by rfl) (hnone : (backToKw pos (keywordEach [⟨some "default", b, kp⟩] X.env)).any (·.1.isNone) = false := by rfl) (hks : (backToKw pos (keywordEach [⟨some "default", b, kp⟩] X.env)).filterMap (·.1) = [Str.ofString "default"] := by rfl) :
    RE X cl Φ E (c1 && c2) (.Call (.Name "min" p) [a] [⟨some "default", b, kp⟩] pos) (mBin dMinD ma mb) :=
  ⟨(pe_callBK (cr_minD κ.calm) hg hm (by decide +kernel) (pa_cons h.pe pa_nil hst) (pk_cons h2.pe pk_nil) (by decide) (by decide) he hpl hall hnone hks).weak fun σ H Q q => tE_bin f2_minD q⟩
theorem re_rev {j : Nat} (h : RE X cl Φ E c e m) : RE X cl Φ E c (.Subscript e (.Slice none none (some (.UnaryOp .USub (.Constant (.int 1) j p1) p2)) p3) pos) (mUn dRev m) := ⟨(pe_revL h.pe).weak fun σ H Q q => tE_un f1_rev q⟩
theorem re_lr1 (κ : Kx X E k) (h : RE X cl Φ E c e m) (hl : X.mg "list" = none) (hr : X.mg "range" = none) (g1 : Gl X "list" := by rfl) (g2 : Gl X "range" := by rfl)
    (n1 : starEach [e] X.env = (false, eval e X.env) :: starEach [] X.env := by rfl) (n2 : starEach [.Call (.Name "range" p) [e] [] p1] X.env = (false, eval (.Call (.Name "range" p) [e] [] p1) X.env) :: starEach [] X.env := by rfl) :
    RE X cl Φ E c (.Call (.Name "list" p2) [.Call (.Name "range" p) [e] [] p1] [] pos) (mUn (fun d => dLR (.int 0) d) m) :=
  ⟨(pe_listRg κ.calm g1 hl (prg_1 g2 hr h.pe n1) n2).weak fun σ H Q q => tE_un f1_LR q⟩
theorem re_lr2 (κ : Kx X E k) (h : RE X cl Φ E c1 a ma) (h2 : RE X cl Φ E c2 b mb) (hl : X.mg "list" = none) (hr : X.mg "range" = none) (g1 : Gl X "list" := by rfl) (g2 : Gl X "range" := by rfl)
    (n1 : starEach [a, b] X.env = (false, eval a X.env) :: starEach [b] X.env := by rfl) (n3 : starEach [b] X.env = (false, eval b X.env) :: starEach [] X.env := by rfl) (n4 : (backTo p1 (starEach [b] X.env)).any (·.1) = false := by rfl) (n2 : starEach [.Call (.Name "range" p) [a, b] [] p1] X.env = (false, eval (.Call (.Name "range" p) [a, b] [] p1) X.env) :: starEach [] X.env := by rfl) :
    RE X cl Φ E (c1 && c2) (.Call (.Name "list" p2) [.Call (.Name "range" p) [a, b] [] p1] [] pos) (mBin dLR ma mb) :=
  ⟨(pe_listRg κ.calm g1 hl (prg_2 g2 hr h.pe h2.pe n1 n3 n4) n2).weak fun σ H Q q => tE_bin f2_LR (tE_mono q fun x H1 z => z)⟩
end
end Z

end
section
set_option maxRecDepth 100000
set_option maxHeartbeats 4000000
/-! Z: comprehensions with two fors -/
namespace Z
open PySem PySem.Spec L2
open PyProof.Rows hiding St
def loopC2 (vs vs1 : List Nat) (g : D → M Unit) (t : M Bool) (it1 : M (List D × Bk)) (g1 : D → M Unit) (t1 : M Bool) (m : M D) : List D → List D → Env → O (List D)
  | [], acc, ρ => .ok acc ρ
  | d :: ds, acc, ρ => match g d ρ with
    | .ok _ ρ1 => (match t ρ1 with
      | .ok true ρ2 => (match it1 ρ2 with
        | .ok (ds1, none) ρ3 => (match loopC vs1 g1 t1 m ds1 acc (wipeR vs1 ρ3) with
          | .ok acc' ρ4 => loopC2 vs vs1 g t it1 g1 t1 m ds acc' (wipeR vs ρ4)
          | _ => .no)
        | _ => .no)
      | .ok false ρ2 => loopC2 vs vs1 g t it1 g1 t1 m ds acc (wipeR vs ρ2)
      | _ => .no)
    | _ => .no
/-- [m for g in it if t for g1 in it1 if t1] -/
def mLc2 (vs vs1 : List Nat) (it : M (List D × Bk)) (g : D → M Unit) (t : M Bool) (it1 : M (List D × Bk)) (g1 : D → M Unit) (t1 : M Bool) (m : M D) : M D := fun ρ => (it ρ).bind fun x ρ1 => match loopC2 vs vs1 g t it1 g1 t1 m x.1 [] (wipeR vs ρ1) with
  | .ok acc ρ2 => if holeAt x.2 (restR vs ρ1 ρ2) = true then .ok (.lst true acc) (putBk x.2 (restR vs ρ1 ρ2)) else .no
  | _ => .no
theorem wipe_sub {vs : List Nat} : ∀ {us : List Nat} (σ : St), (∀ i ∈ us, i ∈ vs) → wipe (wipe σ us) vs = wipe σ vs
  | [], σ, _ => rfl
  | u :: us, σ, h => by
    show wipe ((wipe σ us).set u none) vs = _
    rw [wipe_set (h u List.mem_cons_self)]
    exact wipe_sub σ fun i hi => h i (List.mem_cons_of_mem _ hi)
section
variable {G : Gx} {Φ : St → Prop} {E : St → XK} {c : Bool} {σ : St} {H : Hp}
theorem tE_lc2 {G : Gx} {vs vs1 : List Nat} {it it1 : M (List D × Bk)} {g g1 : D → M Unit} {t t1 : M Bool} {m : M D} {c1 c2 c3 : Bool} {σ : St} {H : Hp} {Q : VK} (hv : ∀ i ∈ vs1, i ∈ vs) (h : tE G Φ E false (mLc2 vs vs1 it g t it1 g1 t1 m) σ H Q) :
    tLc2 (tI G Φ E it) (fun v σ H Q => ∃ σ0, tG G (Wp vs σ0) g v σ H Q) (fun σ H Q => ∃ σ0, tB G (Wp vs σ0) E00 c1 t σ H Q) (fun σ H Q => ∃ σ0, tI G (Wp vs σ0) E00 it1 σ H Q) (fun v σ H Q => ∃ σ0, tG G (Wp vs1 σ0) g1 v σ H Q) (fun σ H Q => ∃ σ0, tB G (Wp vs1 σ0) E00 c3 t1 σ H Q) (fun σ H Q => ∃ σ0, tE G (Wp vs1 σ0) E00 c2 m σ H Q) vs vs1 σ H Q := by
  obtain ⟨F, N, R, ρ, a, q⟩ := h
  refine ⟨F, N, R, ρ, a, ?_⟩
  unfold mLc2 at q
  cases e : it ρ with
  | no => rw [e] at q; exact q
  | ex k ρ' => rw [e] at q; exact q
  | ok x ρ1 =>
    obtain ⟨ds, bk⟩ := x
    rw [e] at q
    simp only [O.bind] at q
    intro Jt F1 N1 T H1 l1 j1 r1 fd bo Dp hD
    obtain ⟨P, Nw, jp, rw1, back⟩ := rel_wipe (vs := vs) r1
    have j2 : J [P, Nw, F1, T, R] H1 := J.nest (xs := [F1, T, R]) jp (j1.re [1, 0, 2, 3])
    have j3 := (j2.alloc (o := .lst []) hD).re [3, 2, 0, 1, 4, 5]
    let Fin : O (List D) → Prop := fun o => match o with
      | .ok acc ρ2 => ∀ F2 N2 C accv H2, Le F1 F2 → J [F2, N2, one Dp (.lst accv), C, P, T, R] H2 → Rel G F2 ρ2 (wipe σ vs) N2 → OwnL G F2 acc accv C → Q (.ref Dp) H2
      | _ => False
    have fin0 : Fin (loopC2 vs vs1 g t it1 g1 t1 m ds [] (wipeR vs ρ1)) := by
      cases e2 : loopC2 vs vs1 g t it1 g1 t1 m ds [] (wipeR vs ρ1) with
      | no => rw [e2] at q; exact q
      | ex k ρ' => rw [e2] at q; exact q
      | ok acc ρ2 =>
        rw [e2] at q
        intro F2 N2 C accv H2 l2 jj rr oo
        obtain ⟨ja, jb⟩ := (jj.re [4, 1, 0, 2, 3, 5, 6]).join
        obtain ⟨N3, Z, jc, r3⟩ := back F2 ρ2 N2 _ l2 rr ja
        have jd : J [N3, Z, F2, one Dp (.lst accv), C, T, R] H2 := J.nest (xs := [F2, one Dp (.lst accv), C, T, R]) jc jb
        have je := (jd.re [2, 0, 1, 3, 4, 5, 6]).give
        obtain ⟨jf, jg⟩ := (je.1.re [2, 3, 0, 1, 4, 5]).join
        simp only at q
        split at q
        · rename_i hh
          have bo2 : BackOk G Φ (un F2 Z) T σ ρ1 bk := by
            cases bk with
            | none => trivial
            | some p =>
              obtain ⟨i, d⟩ := p
              obtain ⟨v, e', o', s'⟩ := bo
              exact ⟨v, e', own_le (l2.trans je.2.1) o', s'⟩
          obtain ⟨jh, ji⟩ := (jg.re [0, 4, 1, 2, 3]).join
          obtain ⟨F3, N4, l3, a3⟩ := back_in (G := G) (Φ := Φ) (H := H2) (ji.re [1, 2, 3, 0]) (rel_le je.2.1 r3) a.2.2 bo2 hh
          exact q (.ref Dp) F3 N4 _ H2 (((l1.trans l2).trans je.2.1).trans l3) (fun z => nomatch z) (J.unhide (ys := []) jh a3.1) a3.2.1 ⟨Dp, accv, rfl, .inr ⟨rfl, C, jf, ownL_le (je.2.1.trans l3) oo⟩⟩
        · exact q.elim
    refine ⟨fun i mm H' => i + mm = ds.length ∧ ∃ F' N' ρ' accv acc C, Le F1 F' ∧ J [F', N', one Dp (.lst accv), C, P, T, R] H' ∧ Rel G F' ρ' (wipe σ vs) N' ∧ OwnL G F' acc accv C ∧ Fin (loopC2 vs vs1 g t it1 g1 t1 m (ds.drop i) acc ρ'),
      ⟨ds.length, by omega, F1, Nw, _, [], [], emp, Le.refl, (J.emp_iff.mpr j3).re [1, 2, 3, 0, 4, 5, 6], rw1, ⟨rfl, rfl⟩, fin0⟩, ?_⟩
    rintro i mm H' ⟨hm, F', N', ρ', accv, acc, C, l', j', r', o', q'⟩
    obtain ⟨f1, f2⟩ := fd F' H' l' j'.le (j'.sub (by simp))
    by_cases hi : i < ds.length
    · have e1 : ds[i]? = some ds[i] := List.getElem?_eq_getElem hi
      rw [List.drop_eq_getElem_cons hi] at q'
      obtain ⟨gg1, g2⟩ := f2 i _ e1
      refine .inr ⟨gg1, _, fun H2 w => ⟨mm - 1, by omega, w⟩, fun x H2 y => ?_⟩
      obtain ⟨B, jb1, jb2⟩ := J.pack (ys := [one Dp (.lst accv), C, P, T, R]) (xs := [F', N']) (j'.re [2, 3, 4, 5, 6, 0, 1])
      obtain ⟨F2, T', l2, jj2, o2⟩ := g2 x H2 N' B y (jb2.re [1, 2, 0])
      refine ⟨σ, F2, N', T', B, ρ', _, jj2, rel_le l2 r', wipe_idem vs σ, o2, ?_⟩
      unfold loopC2 at q'
      cases eg : g ds[i] ρ' with
      | no => rw [eg] at q'; exact q'.elim
      | ex k ρ' => rw [eg] at q'; exact q'.elim
      | ok u ρ1' =>
        rw [eg] at q'
        intro F3 N3 H3 σ3 l3 a3
        have ew : wipe σ3 vs = wipe σ vs := a3.2.2
        refine ⟨ew, σ, F3, N3, B, ρ1', a3, ?_⟩
        simp only at q'
        cases et : t ρ1' with
        | no => rw [et] at q'; exact q'.elim
        | ex k ρ' => rw [et] at q'; exact q'.elim
        | ok b ρ2 =>
          rw [et] at q'
          intro F4 N4 H4 l4 k4 j4 r4
          cases b with
          | false =>
            simp only at q'
            refine ite_ff ?_
            obtain ⟨P5, Nw5, jw, rw5, _⟩ := rel_wipe (vs := vs) r4
            rw [ew] at rw5
            have ja := J.nest (xs := [F4, N4]) jb1 (j4.re [2, 0, 1])
            have jc := J.nest (xs := [one Dp (.lst accv), C, P, T, R, F4]) jw (ja.re [6, 0, 1, 2, 3, 4, 5])
            have jd := (jc.re [7, 1, 0, 2, 3, 4, 5, 6]).give
            exact ⟨by omega, _, Nw5, _, accv, acc, C, (((l'.trans l2).trans l3).trans l4).trans jd.2.1, jd.1, rel_le jd.2.1 rw5, ownL_le (((l2.trans l3).trans l4).trans jd.2.1) o', q'⟩
          | true =>
            simp only at q'
            refine ite_tt ⟨σ, F4, N4, B, ρ2, ⟨j4, r4, a3.2.2⟩, ?_⟩
            cases ei1 : it1 ρ2 with
            | no => rw [ei1] at q'; exact q'.elim
            | ex k ρ' => rw [ei1] at q'; exact q'.elim
            | ok x1 ρ3 =>
              obtain ⟨ds1, bk1⟩ := x1
              rw [ei1] at q'
              cases bk1 with
              | some p => exact q'.elim
              | none =>
                intro Jt1 F5 N5 T1 H5 l5 j5 r5 fd1 _
                simp only at q'
                let Fin2 : O (List D) → Prop := fun o => match o with
                  | .ok acc' ρ4 => Fin (loopC2 vs vs1 g t it1 g1 t1 m (ds.drop (i + 1)) acc' (wipeR vs ρ4))
                  | _ => False
                have fin2 : Fin2 (loopC vs1 g1 t1 m ds1 acc (wipeR vs1 ρ3)) := by
                  cases e3 : loopC vs1 g1 t1 m ds1 acc (wipeR vs1 ρ3) with
                  | no => rw [e3] at q'; exact q'.elim
                  | ex k ρ' => rw [e3] at q'; exact q'.elim
                  | ok acc' ρ4 => rw [e3] at q'; exact q'
                obtain ⟨P6, Nw6, jw6, rw6, _⟩ := rel_wipe (vs := vs1) r5
                have ja := J.nest (xs := [F5, N5, T1]) jb1 (j5.re [3, 0, 1, 2])
                have jc := J.nest (xs := [one Dp (.lst accv), C, P, T, R, F5, T1]) jw6 (ja.re [6, 0, 1, 2, 3, 4, 5, 7])
                have jd := (jc.re [7, 1, 0, 2, 3, 4, 5, 6, 8]).give
                have lz := ((l2.trans l3).trans l4).trans (l5.trans jd.2.1)
                refine ⟨fun j kk H' => j + kk = ds1.length ∧ ∃ F' N' ρ' accv acc C, Le F5 F' ∧ Le F1 F' ∧ J [F', N', one Dp (.lst accv), C, P, T, R, T1] H' ∧ Rel G F' ρ' (wipe σ3 vs1) N' ∧ OwnL G F' acc accv C ∧ Fin2 (loopC vs1 g1 t1 m (ds1.drop j) acc ρ'),
                  ⟨ds1.length, by omega, _, Nw6, _, accv, acc, C, jd.2.1, l'.trans lz, jd.1, rel_le jd.2.1 rw6, ownL_le lz o', fin2⟩, ?_⟩
                rintro j kk H6 ⟨hk, F6, N6, ρ6, accv6, acc6, C6, l6, l61, j6, r6, o6, q6⟩
                obtain ⟨f3, f4⟩ := fd1 F6 H6 l6 j6.le (j6.sub (by simp))
                by_cases hj : j < ds1.length
                · have e4 : ds1[j]? = some ds1[j] := List.getElem?_eq_getElem hj
                  rw [List.drop_eq_getElem_cons hj] at q6
                  obtain ⟨gg3, g4⟩ := f4 j _ e4
                  refine .inr ⟨gg3, _, fun H2 w => ⟨kk - 1, by omega, w⟩, fun x7 H7 y7 => ?_⟩
                  obtain ⟨B6, jb6, jb7⟩ := J.pack (ys := [one Dp (.lst accv6), C6, P, T, R, T1]) (xs := [F6, N6]) (j6.re [2, 3, 4, 5, 6, 7, 0, 1])
                  obtain ⟨F7, T7, l7, jj7, o7⟩ := g4 x7 H7 N6 B6 y7 (jb7.re [1, 2, 0])
                  refine ⟨σ3, F7, N6, T7, B6, ρ6, _, jj7, rel_le l7 r6, wipe_idem vs1 σ3, o7, ?_⟩
                  unfold loopC at q6
                  cases eg6 : g1 ds1[j] ρ6 with
                  | no => rw [eg6] at q6; exact q6.elim
                  | ex k ρ' => rw [eg6] at q6; exact q6.elim
                  | ok u ρ7 =>
                    rw [eg6] at q6
                    intro F8 N8 H8 σ8 l8 a8
                    have ew8 : wipe σ8 vs1 = wipe σ3 vs1 := a8.2.2
                    refine ⟨ew8, σ3, F8, N8, B6, ρ7, a8, ?_⟩
                    simp only at q6
                    cases et8 : t1 ρ7 with
                    | no => rw [et8] at q6; exact q6.elim
                    | ex k ρ' => rw [et8] at q6; exact q6.elim
                    | ok b ρ8 =>
                      rw [et8] at q6
                      intro F9 N9 H9 l9 k9 j9 r9
                      cases b with
                      | false =>
                        simp only at q6
                        refine ite_ff ?_
                        obtain ⟨P9, Nw9, jw9, rw9, _⟩ := rel_wipe (vs := vs1) r9
                        rw [ew8] at rw9
                        have ja := J.nest (xs := [F9, N9]) jb6 (j9.re [2, 0, 1])
                        have jc := J.nest (xs := [one Dp (.lst accv6), C6, P, T, R, T1, F9]) jw9 (ja.re [7, 0, 1, 2, 3, 4, 5, 6])
                        have jd := (jc.re [8, 1, 0, 2, 3, 4, 5, 6, 7]).give
                        have lz := ((l7.trans l8).trans l9).trans jd.2.1
                        exact ⟨by omega, _, Nw9, _, accv6, acc6, C6, l6.trans lz, l61.trans lz, jd.1, rel_le jd.2.1 rw9, ownL_le lz o6, q6⟩
                      | true =>
                        simp only at q6
                        refine ite_tt ⟨σ3, F9, N9, B6, ρ8, ⟨j9, r9, a8.2.2⟩, ?_⟩
                        cases em : m ρ8 with
                        | no => rw [em] at q6; exact q6.elim
                        | ex k ρ' => rw [em] at q6; exact q6.elim
                        | ok z ρ9 =>
                          rw [em] at q6
                          intro v Fa Na Ta Ha la ka ja ra oa
                          simp only at q6
                          split at q6
                          · rename_i hlt
                            obtain ⟨Pb, Nwb, jwb, rwb, _⟩ := rel_wipe (vs := vs1) ra
                            rw [ew8] at rwb
                            have jb := J.nest (xs := [Fa, Na, Ta]) jb6 (ja.re [3, 0, 1, 2])
                            have jw1 := jb.write (o' := .lst (accv6 ++ [v]))
                            have jc := J.nest (xs := [one Dp (.lst (accv6 ++ [v])), C6, P, T, R, T1, Fa, Ta]) jwb (jw1.re [7, 0, 1, 2, 3, 4, 5, 6, 8])
                            have jd := (jc.re [8, 1, 0, 2, 3, 4, 5, 6, 7, 9]).give
                            obtain ⟨je, jf⟩ := (jd.1.re [3, 8, 0, 1, 2, 4, 5, 6, 7]).join
                            have lz := ((l7.trans l8).trans l9).trans (la.trans jd.2.1)
                            refine ⟨accv6, jb.at, by rw [ownL_len o6]; exact hlt, by omega, _, Nwb, _, accv6 ++ [v], acc6 ++ [z], _, l6.trans lz, l61.trans lz, jf.re [1, 2, 3, 0, 4, 5, 6, 7], rel_le jd.2.1 rwb, ?_, q6⟩
                            exact ownL_app (ownL_le lz o6) ⟨v, [], Ta, emp, rfl, (J.emp_iff.mpr J.self).re [1, 0], own_le jd.2.1 oa, ⟨rfl, rfl⟩⟩ je
                          · exact q6.elim
                · have ej : j = ds1.length := by omega
                  subst ej
                  rw [List.drop_length] at q6
                  refine .inl ⟨f3, ?_⟩
                  obtain ⟨P9, Nw9, jw9, rw9, _⟩ := rel_wipe (vs := vs) r6
                  rw [wipe_sub σ3 hv, ew] at rw9
                  have jc := J.nest (xs := [F6, one Dp (.lst accv6), C6, P, T, R, T1]) jw9 (j6.re [1, 0, 2, 3, 4, 5, 6, 7])
                  have jd := (jc.re [2, 1, 0, 3, 4, 5, 6, 7, 8]).give
                  have je := (jd.1.re [0, 1, 7, 2, 3, 4, 5, 6]).give
                  have lz := jd.2.1.trans je.2.1
                  exact ⟨by omega, _, Nw9, _, accv6, acc6, C6, l61.trans lz, je.1, rel_le lz rw9, ownL_le lz o6, q6⟩
    · have ei : i = ds.length := by omega
      subst ei
      rw [List.drop_length] at q'
      exact .inl ⟨f1, q' F' N' C accv H' l' j' r' o'⟩
end
section
variable {X : Cx} {cl : Nat → Addr} {Φ : St → Prop} {E : St → XK} {c : Bool} {k : Nat} {pos p : Pos} {e : Expr} {es : List Expr} {tg iter tg1 iter1 elt : Expr} {ifs ifs1 : List Expr}
theorem re_lc2 {scope : Scope} {own : List (Str × Nat)} {vs1 : List Nat} {it it1 : M (List D × Bk)} {g g1 : D → M Unit} {t t1 : M Bool} {m : M D} {c1 c2 c3 : Bool} (κ : Kx X E k) (hi : RI X cl Φ E tg iter it) (ok : BlkOk X.N X.env.scope scope own) (hv : ∀ i ∈ vs1, i ∈ own.map (·.2))
    (hg : ∀ (s : Shared) (H : Hp) (C : Addr) (cs : List (Str × Addr)) (fp : List Addr) (σ0 : St), Kx (bX X scope s H C cs fp) E00 k → RG (bX X scope s H C cs fp) cl (Wp (own.map (·.2)) σ0) tg g)
    (ht : ∀ (s : Shared) (H : Hp) (C : Addr) (cs : List (Str × Addr)) (fp : List Addr) (σ0 : St), Kx (bX X scope s H C cs fp) E00 k → RT (bX X scope s H C cs fp) cl (Wp (own.map (·.2)) σ0) E00 c1 ifs t)
    (hi1 : ∀ (s : Shared) (H : Hp) (C : Addr) (cs : List (Str × Addr)) (fp : List Addr) (σ0 : St), Kx (bX X scope s H C cs fp) E00 k → RI (bX X scope s H C cs fp) cl (Wp (own.map (·.2)) σ0) E00 tg1 iter1 it1)
    (hg1 : ∀ (s : Shared) (H : Hp) (C : Addr) (cs : List (Str × Addr)) (fp : List Addr) (σ0 : St), Kx (bX X scope s H C cs fp) E00 k → RG (bX X scope s H C cs fp) cl (Wp vs1 σ0) tg1 g1)
    (ht1 : ∀ (s : Shared) (H : Hp) (C : Addr) (cs : List (Str × Addr)) (fp : List Addr) (σ0 : St), Kx (bX X scope s H C cs fp) E00 k → RT (bX X scope s H C cs fp) cl (Wp vs1 σ0) E00 c3 ifs1 t1)
    (he : ∀ (s : Shared) (H : Hp) (C : Addr) (cs : List (Str × Addr)) (fp : List Addr) (σ0 : St), Kx (bX X scope s H C cs fp) E00 k → RE (bX X scope s H C cs fp) cl (Wp vs1 σ0) E00 c2 elt m)
    (hs : ∀ x, foldedSetIterable iter X.env x = pure x := by intro _; rfl) (hs1 : ∀ env x, foldedSetIterable iter1 env x = pure x := by intro _ _; rfl) : RE X cl Φ E false (.ListComp elt [⟨tg, iter, ifs, 0⟩, ⟨tg1, iter1, ifs1, 0⟩] scope pos) (mLc2 (own.map (·.2)) vs1 it g t it1 g1 t1 m) := by
  have hg' : ∀ (s : Shared) (H : Hp) (C : Addr) (cs : List (Str × Addr)) (fp : List Addr), PG (bX X scope s H C cs fp) tg (fun v σ H Q => ∃ σ0, tG (gx X cl) (Wp (own.map (·.2)) σ0) g v σ H Q) := fun s H C cs fp =>
    ⟨fun pins s' σ H' v u Q I r ⟨σ0, q⟩ => (hg s H C cs fp σ0 κ.blk).pg.run pins s' σ H' v u Q I r q⟩
  have ht' : ∀ (s : Shared) (H : Hp) (C : Addr) (cs : List (Str × Addr)) (fp : List Addr), PTs (bX X scope s H C cs fp) ifs (fun σ H Q => ∃ σ0, tB (gx X cl) (Wp (own.map (·.2)) σ0) E00 c1 t σ H Q) := fun s H C cs fp =>
    ⟨fun pins s' σ H' Q I ⟨σ0, q⟩ => (ht s H C cs fp σ0 κ.blk).pts.run pins s' σ H' Q I q⟩
  have hi1' : ∀ (s : Shared) (H : Hp) (C : Addr) (cs : List (Str × Addr)) (fp : List Addr), PI (bX X scope s H C cs fp) tg1 iter1 (fun σ H Q => ∃ σ0, tI (gx X cl) (Wp (own.map (·.2)) σ0) E00 it1 σ H Q) := fun s H C cs fp =>
    ⟨fun pins s' σ H' Q I ⟨σ0, q⟩ => (hi1 s H C cs fp σ0 κ.blk).pi.run pins s' σ H' Q I q⟩
  have hg1' : ∀ (s : Shared) (H : Hp) (C : Addr) (cs : List (Str × Addr)) (fp : List Addr), PG (bX X scope s H C cs fp) tg1 (fun v σ H Q => ∃ σ0, tG (gx X cl) (Wp vs1 σ0) g1 v σ H Q) := fun s H C cs fp =>
    ⟨fun pins s' σ H' v u Q I r ⟨σ0, q⟩ => (hg1 s H C cs fp σ0 κ.blk).pg.run pins s' σ H' v u Q I r q⟩
  have ht1' : ∀ (s : Shared) (H : Hp) (C : Addr) (cs : List (Str × Addr)) (fp : List Addr), PTs (bX X scope s H C cs fp) ifs1 (fun σ H Q => ∃ σ0, tB (gx X cl) (Wp vs1 σ0) E00 c3 t1 σ H Q) := fun s H C cs fp =>
    ⟨fun pins s' σ H' Q I ⟨σ0, q⟩ => (ht1 s H C cs fp σ0 κ.blk).pts.run pins s' σ H' Q I q⟩
  have he' : ∀ (s : Shared) (H : Hp) (C : Addr) (cs : List (Str × Addr)) (fp : List Addr), PE (bX X scope s H C cs fp) elt (fun σ H Q => ∃ σ0, tE (gx X cl) (Wp vs1 σ0) E00 c2 m σ H Q) := fun s H C cs fp =>
    ⟨fun pins s' σ H' Q I ⟨σ0, q⟩ => (he s H C cs fp σ0 κ.blk).pe.run pins s' σ H' Q I q⟩
  exact ⟨(pe_lc2 κ.calm κ.nd hi.pi ok hv hg' ht' hi1' hg1' ht1' he' hs hs1).weak fun σ H Q h => tE_lc2 hv h⟩
end
end Z

end
section
set_option maxRecDepth 100000
/-! Z: moved out of places; place[i] op= e; place.f op= e; setdefault with append; d.pop(k, z); reversed; sorted(d) -/
namespace Z
open PySem PySem.Spec L2
open PyProof.Rows hiding St
/-- what lies at a place is taken away from it -/
def mTakeM (q : M Pth) : M D := fun ρ => (q ρ).bind fun p ρ1 => match getR ρ1 p with
  | some d => .ok d (setR ρ1 p .hole)
  | none => .no
section
variable {X : Cx} {cl : Nat → Addr} {Φ : St → Prop} {E : St → XK} {c : Bool} {k : Nat} {pos pos' p apos cpos dpos : Pos} {a b e f o i : Expr} {es : List Expr}
theorem re_takeM {m : M Pth} (h : RP X cl Φ E e m) : RE X cl Φ E true e (mTakeM m) := by
  refine ⟨h.pe.kf.weak fun σ H Q ⟨F, N, R, ρ, a, q⟩ => ⟨F, N, R, ρ, a, ?_⟩⟩
  unfold mTakeM at q
  cases e1 : m ρ with
  | no => rw [e1] at q; exact q
  | ex k ρ' => rw [e1] at q; exact q
  | ok p ρ1 =>
    rw [e1] at q
    simp only [O.bind] at q
    intro v0 v F1 N1 H1 l1 k1 j1 r1 s1 at1 kf
    obtain ⟨d, g, n⟩ := h.wf _ _ _ e1
    rw [g] at q
    simp only at q
    obtain ⟨M1, Mr, jm, ow, kk⟩ := place (G := gx X cl) j1 r1 g n kf s1 at1
    have j2 : J [M1, Mr, F1, R] H1 := J.nest (xs := [F1, R]) jm (j1.re [1, 0, 2])
    have r3 := kk F1 .hole emp Mr Le.refl rfl (J.emp_iff.mpr J.self) (.inl rfl)
    exact q v F1 Mr M1 H1 l1 (fun _ => k1) (j2.re [2, 1, 0, 3]) r3 ow
/-! ### d.setdefault(k, []).append(x) -/
/-- x is laid behind the list that stands at the key -/
def setdK (p : Pth) (kk : Key) (mv : M D) : M D := fun ρ3 => match getR ρ3 p with
  | some (.dic true ks ds) => (match (findQ kk ks).bind fun j => ds[j]? with
    | some (.lst true _) => (match mv ρ3 with
      | .ok d ρ4 => (match getR ρ4 p with
        | some (.dic true ks' ds') => (match findQ kk ks' with
          | some j => (match ds'[j]? with
            | some (.lst true es) => if es.length < sizeLine then .ok .non (setR ρ4 p (.dic true ks' (ds'.set j (.lst true (es ++ [d]))))) else .no
            | _ => .no)
          | none => .no)
        | _ => .no)
      | _ => .no)
    | _ => .no)
  | _ => .no
def mSetdApp (q : M Pth) (mk mv : M D) : M D := fun ρ => (q ρ).bind fun p ρ1 => match getR ρ1 p with
  | some (.dic _ _ _) => if p.2.isEmpty = true then (mk ρ1).bind fun k ρ2 => (match keyD k, getR ρ2 p with
    | some kk, some (.dic true ks ds) => if (onceQ kk ks && decide (ks.length < sizeLine)) = true then
        (match findQ kk ks with
          | some _ => setdK p kk mv ρ2
          | none => setdK p kk mv (setR ρ2 p (.dic true (ks ++ [kk]) (ds ++ [.lst true []])))) else .no
    | _, _ => .no) else .no
  | _ => .no
theorem rd_dK {H : Hp} {a : Addr} {u w : List (Key × V)} (h : Rd H a (.dK u)) (h' : H a = some (.dK w)) : u = w := by
  have := rd_one h (.inl h') (fun _ _ z => nomatch z) (fun _ _ z => nomatch z)
  injection this
theorem setd_fin {Q : VK} {mv : M D} {σ : St} {pp : Pth} {kk : Key} {F3 N3 R H3 : Hp} {ρ3 : Env} {v0 x : V} {ad : Addr} {kvs : List (Key × V)} (hv : PA X [f] (tA (gx X cl) Φ E true (mCons mv mNil))) (kf3 : KF X.K H3)
    (q : PostE (gx X cl) E false σ F3 R H3 Q (setdK pp kk mv ρ3)) (j3 : J [F3, N3, R] H3) (r3 : Rel (gx X cl) F3 ρ3 σ N3) (f0 : Φ σ) (s1 : σ[pp.1]? = some (some v0)) (at3 : AtP X.K H3 v0 pp.2 (.ref ad))
    (hd : H3 ad = some (.dK kvs)) (hx : valV kvs kk = some x) :
    tyV X.K "list" x H3 ∧ tA (gx X cl) Φ E true (mCons mv mNil) σ H3 fun vs H4 => KF X.K H4 → rAppend x vs H4 Q := by
  unfold setdK at q
  split at q
  · rename_i ks ds g
    split at q
    · rename_i es0 hj
      obtain ⟨M1, Mr, jm, om, _⟩ := place (G := gx X cl) j3 r3 g rfl kf3 s1 at3
      obtain ⟨ad', vs, C, e0, hl, jc, wc, ne⟩ := own_dicT om
      cases e0
      have g1 : H3 ad = some (.dK (ks.zip vs)) := j3.sub (List.mem_cons_of_mem _ List.mem_cons_self) _ _ (jm.le _ _ (jc.le _ _ one_same))
      have ek : ks.zip vs = kvs := by rw [hd] at g1; injection g1 with g1; injection g1 with g1; exact g1.symm
      have hlv : ks.length = vs.length := by rw [hl, ownL_len wc]
      cases hf : findQ kk ks with
      | none => rw [hf] at hj; cases hj
      | some j =>
        rw [hf] at hj
        have hj : ds[j]? = some (.lst true es0) := hj
        obtain ⟨w, Mj, Mr1, ew, jj, oj, _⟩ := ownL_put wc hj
        have hxw : x = w := by
          rw [← ek, valV_find hlv, hf] at hx
          have hx : vs[j]? = some x := hx
          rw [ew] at hx; injection hx with hx; exact hx.symm
        subst hxw
        obtain ⟨al, ws, C2, rfl, jl, wl, nel⟩ := own_true oj
        have jMj : J [Mj, Mr1, one ad (.dK (ks.zip vs)), Mr, F3, R] H3 := by
          have ja : J [M1, Mr, F3, R] H3 := J.nest (xs := [F3, R]) jm (j3.re [1, 0, 2])
          have jb : J [one ad (.dK (ks.zip vs)), C, Mr, F3, R] H3 := J.nest (xs := [Mr, F3, R]) jc ja
          exact J.nest (xs := [one ad (.dK (ks.zip vs)), Mr, F3, R]) jj (jb.re [1, 0, 2, 3, 4])
        refine ⟨.inl ⟨rfl, ws, .of (jMj.le _ _ (jl.le _ _ one_same))⟩, F3, N3, R, ρ3, ⟨j3, r3, f0⟩, ?_⟩
        split at q
        · rename_i d ρ4 e4
          unfold mCons mNil
          rw [e4]
          simp only [O.bind]
          intro us F4 N4 T4 H4 l4 k4 j4 r4 o4 kf4
          obtain ⟨y, us', My, Mz, rfl, jy, oy, rfl, rfl⟩ := o4
          have := (J.emp_iff.mp (jy.re [1, 0])).eq1
          subst this
          have at4 := AtP.le (k4 rfl) at3
          split at q
          · rename_i ks' ds' g4
            split at q
            · rename_i j' hf'
              split at q
              · rename_i es' hj'
                split at q
                · rename_i hlen
                  obtain ⟨M2, Mr2, jm2, om2, kk2⟩ := place (G := gx X cl) j4.hide r4 g4 rfl kf4 s1 at4
                  obtain ⟨ad2, vs2, C3, e2, hl2, jc2, wc2, ne2⟩ := own_dicT om2
                  cases e2
                  have ja : J [M2, Mr2, F4, T4, R] H4 := J.nest (xs := [F4, T4, R]) jm2 (j4.re [1, 0, 2, 3])
                  have jb : J [one ad (.dK (ks'.zip vs2)), C3, Mr2, F4, T4, R] H4 := J.nest (xs := [Mr2, F4, T4, R]) jc2 ja
                  have g5 : H4 ad = some (.dK (ks'.zip vs2)) := jb.at
                  have ek2 : ks'.zip vs2 = ks.zip vs := by
                    have := k4 rfl _ _ g1
                    rw [g5] at this; injection this with this; injection this with this
                  have hlv2 : ks'.length = vs2.length := by rw [hl2, ownL_len wc2]
                  obtain ⟨w2, Mj2, Mr3, ew2, jj2, oj2, kp⟩ := ownL_at wc2 hj'
                  have : w2 = .ref al := by
                    have h1 : valV (ks'.zip vs2) kk = some w2 := by rw [valV_find hlv2, hf']; exact ew2
                    rw [ek2, ek, hx] at h1; injection h1 with h1; exact h1.symm
                  subst this
                  obtain ⟨al2, ws2, C4, e5, jl2, wl2, nel2⟩ := own_true oj2
                  cases e5
                  have jd : J [Mj2, Mr3, one ad (.dK (ks'.zip vs2)), Mr2, F4, T4, R] H4 := J.nest (xs := [one ad (.dK (ks'.zip vs2)), Mr2, F4, T4, R]) jj2 (jb.re [1, 0, 2, 3, 4, 5])
                  have je : J [one al (.lst ws2), C4, Mr3, one ad (.dK (ks'.zip vs2)), Mr2, F4, T4, R] H4 := J.nest (xs := [Mr3, one ad (.dK (ks'.zip vs2)), Mr2, F4, T4, R]) jl2 jd
                  refine ⟨al, ws2, y, rfl, rfl, je.at, by rw [ownL_len wl2]; exact hlen, ?_⟩
                  have jf := je.write (o' := .lst (ws2 ++ [y]))
                  obtain ⟨jg, jh⟩ := (jf.re [1, 6, 0, 2, 3, 4, 5, 7]).join
                  have wnew : OwnL (gx X cl) F4 (es' ++ [d]) (ws2 ++ [y]) (un C4 T4) := ownL_app wl2 ⟨y, [], T4, emp, rfl, (J.emp_iff.mpr J.self).re [1, 0], oy, ⟨rfl, rfl⟩⟩ jg
                  obtain ⟨ji, jk⟩ := (jh.re [1, 0, 2, 3, 4, 5, 6]).join
                  have onew : Own (gx X cl) F4 (.lst true (es' ++ [d])) (.ref al) _ := ⟨al, _, rfl, .inr ⟨rfl, _, ji, wnew⟩⟩
                  obtain ⟨jl3, jn⟩ := jk.join
                  have dnew := kp F4 _ _ _ Le.refl onew jl3
                  obtain ⟨jo, jp⟩ := (jn.re [1, 0, 2, 3, 4]).join
                  have odic : Own (gx X cl) F4 (.dic true ks' (ds'.set j' (.lst true (es' ++ [d])))) (.ref ad) _ := ⟨ad, vs2, rfl, by simp [hl2], .inr ⟨rfl, _, jo, dnew⟩⟩
                  obtain ⟨jq, jr⟩ := jp.join
                  have r6 := kk2 F4 _ _ _ Le.refl odic jq (.inr ne2)
                  exact q .non F4 _ emp _ l4 (fun z => nomatch z) (emp_in (jr.re [1, 0, 2])) r6 ⟨rfl, rfl⟩
                · exact q.elim
              · exact q.elim
            · exact q.elim
          · exact q.elim
        · exact q.elim
    · exact q.elim
  · exact q.elim
theorem findQ_app {κ : Type} [DecidableEq κ] {k : κ} : ∀ {ks : List κ}, findQ k ks = none → findQ k (ks ++ [k]) = some ks.length
  | [], _ => by simp [findQ]
  | a :: ks, h => by
    unfold findQ at h
    split at h
    · cases h
    · rename_i n
      have hf : findQ k ks = none := by
        cases hf : findQ k ks with
        | none => rfl
        | some i => rw [hf] at h; cases h
      rw [List.cons_append, findQ, if_neg n, findQ_app hf]; rfl
/-- place.setdefault(k, []).append(x) -/
theorem re_setdApp {m : M Pth} {mk mv : M D} {c1 : Bool} (κ : Kx X E k) (ho : RP X cl Φ E o m) (he : RE X cl Φ E c1 e mk) (hv : RE X cl Φ E true f mv) (mm : M2 X o "setdefault" apos e (.List [] p) cpos := by exact ⟨rfl, rfl, rfl, rfl⟩)
    (hbase : attributeBase (.Call (.Attribute o "setdefault" apos) [e, .List [] p] [] cpos) "append" X.env (eval (.Call (.Attribute o "setdefault" apos) [e, .List [] p] [] cpos) X.env) = eval (.Call (.Attribute o "setdefault" apos) [e, .List [] p] [] cpos) X.env := by rfl)
    (hfew : ((backTo pos (starEach [f] X.env)).all (fun x => !x.1) && (backToKw pos (keywordEach [] X.env)).all (fun x => x.1.isSome) && decide ([f].length + ([] : List Keyword).length + (if ([] : List Keyword).isEmpty then 0 else 1) < 30)) = true := by rfl)
    (hline : (dpos.endLine == pos.line) = true := by rfl) (hs : starEach [f] X.env = (false, eval f X.env) :: starEach [] X.env := by rfl) (hplain : (backTo pos (starEach [] X.env)).any (·.1) = false := by rfl) :
    RE X cl Φ E false (.Call (.Attribute (.Call (.Attribute o "setdefault" apos) [e, .List [] p] [] cpos) "append" dpos) [f] [] pos) (mSetdApp m mk mv) := by
  have hz : RE X cl Φ E true (.List [] p) (mLst mNil) := re_lst ra_nil
  have ha : RA X cl Φ E true [f] (mCons mv mNil) := ra_cons (c1 := true) (c2 := true) hv ra_nil hs
  refine ⟨(pe_bm PySem.F.plainAttrs_list PySem.F.slot_list_append PySem.F.type_list_append mt_append (pe_dsetd ho.pe.kf he.pe hz.pe.kf mm) ha.pa.kf hbase hfew hline hs hplain).weak fun σ H Q ⟨F, N, R, ρ, a, q⟩ => ⟨F, N, R, ρ, a, ?_⟩⟩
  unfold mSetdApp at q
  cases e1 : m ρ with
  | no => rw [e1] at q; exact q
  | ex k ρ' => rw [e1] at q; exact q
  | ok pp ρ1 =>
    rw [e1] at q
    simp only [O.bind] at q
    intro v0 v F1 N1 H1 l1 k1 j1 r1 s1 at1 kf1
    split at q
    · rename_i b0 ks0 ds0 g0
      split at q
      rotate_left
      · exact q.elim
      rename_i hp0
      rw [List.isEmpty_iff] at hp0
      obtain ⟨M0, Mr0, jm0, om0, _⟩ := place (G := gx X cl) j1 r1 g0 rfl kf1 s1 at1
      obtain ⟨ad, rfl, isd⟩ := own_isDct j1.le ((j_le jm0).1.trans (j1.sub (by simp))) om0 rfl
      refine ⟨ad, rfl, isd, F1, N1, R, ρ1, ⟨j1, r1, a.2.2⟩, ?_⟩
      cases e2 : mk ρ1 with
      | no => rw [e2] at q; exact q
      | ex k ρ' => rw [e2] at q; exact PX.le q l1
      | ok kd ρ2 =>
        rw [e2] at q
        intro y F2 N2 T2 H2 l2 k2 j2 r2 o2
        simp only at q
        have at2 : AtP X.K H2 v0 pp.2 (.ref ad) := by rw [hp0] at at1 ⊢; exact at1
        split at q
        · rename_i kk ks ds hk g
          obtain ⟨rfl, rfl⟩ := own_key o2 hk
          split at q
          · rename_i hcc
            rw [Bool.and_eq_true, decide_eq_true_eq] at hcc
            have j2' := emp_out j2
            refine ⟨F2, N2, R, ρ2, ⟨j2', r2, a.2.2⟩, ?_⟩
            -- the list that may be laid
            show PostE (gx X cl) E true σ F2 R H2 _ (mLst mNil ρ2)
            intro z F3 N3 T3 H3 l3 k3 j3 r3 o3 kf3
            have at3 := AtP.le (k3 rfl) at2
            obtain ⟨M1, Mr, jm, om, kkp⟩ := place (G := gx X cl) j3.hide r3 g rfl kf3 s1 at3
            obtain ⟨ad', vs, C, e0, hl, jc, wc, ne⟩ := own_dicT om
            cases e0
            have ja : J [M1, Mr, F3, T3, R] H3 := J.nest (xs := [F3, T3, R]) jm (j3.re [1, 0, 2, 3])
            have jb : J [one ad (.dK (ks.zip vs)), C, Mr, F3, T3, R] H3 := J.nest (xs := [Mr, F3, T3, R]) jc ja
            have hlv : ks.length = vs.length := by rw [hl, ownL_len wc]
            have up : ∀ {o : O D} {F4 : Hp} {Hx Hy : Hp}, PostE (gx X cl) E false σ F R Hx Q o → Le F F4 → PostE (gx X cl) E false σ F4 R Hy Q o := fun {o F4 Hx Hy} h l => by
              cases o with
              | no => exact h
              | ex k ρ' => exact PX.le h l
              | ok d' ρ' => exact fun v F' N' T H' l' _ jj rr oo => h v F' N' T H' (l.trans l') (fun z => nomatch z) jj rr oo
            refine ⟨ks.zip vs, kk, jb.at, rfl, by rw [List.length_zip]; omega, fun x hx => ?_, fun hn => ?_⟩
            · have hf : ∃ j, findQ kk ks = some j := by
                rw [valV_find hlv] at hx
                cases hf : findQ kk ks with
                | none => rw [hf] at hx; cases hx
                | some j => exact ⟨j, rfl⟩
              obtain ⟨j, hf⟩ := hf
              rw [hf] at q
              -- the new list is shared
              have jd := (j3.re [0, 1, 2, 3]).give
              exact setd_fin (Φ := Φ) ha.pa kf3 (up q (((l1.trans l2).trans l3).trans jd.2.1)) jd.1 (rel_le jd.2.1 r3) a.2.2 s1 at3 jb.at hx
            · have hf : findQ kk ks = none := by
                rw [valV_find hlv] at hn
                cases hf : findQ kk ks with
                | none => rfl
                | some j =>
                  rw [hf] at hn
                  have := findQ_lt hf
                  have hn : vs[j]? = none := hn
                  rw [List.getElem?_eq_none_iff] at hn
                  omega
              rw [hf] at q
              obtain ⟨_, p2⟩ := putK_zip (x := .hole) (v := z) hlv hcc.1
              have ep := p2 hf
              rw [ep]
              have jw := jb.write (o' := .dK ((ks ++ [kk]).zip (vs ++ [z])))
              obtain ⟨jct, jx⟩ := (jw.re [1, 4, 0, 2, 3, 5]).join
              have wn : OwnL (gx X cl) F3 (ds ++ [.lst true []]) (vs ++ [z]) (un C T3) := ownL_app wc ⟨z, [], T3, emp, rfl, (J.emp_iff.mpr J.self).re [1, 0], o3, ⟨rfl, rfl⟩⟩ jct
              obtain ⟨jy, jz⟩ := (jx.re [1, 0, 2, 3, 4]).join
              have od : Own (gx X cl) F3 (.dic true (ks ++ [kk]) (ds ++ [.lst true []])) (.ref ad) _ := ⟨ad, _, rfl, by simp [hl], .inr ⟨rfl, _, jy, wn⟩⟩
              obtain ⟨jq, jr⟩ := jz.join
              have r5 := kkp F3 _ _ _ Le.refl od jq (.inr ne)
              have jfin := jr.re [1, 0, 2]
              have kf5 : KF X.K (upd H3 ad (.dK ((ks ++ [kk]).zip (vs ++ [z])))) := fun b o eb => by
                have hb := kf3 b o eb
                have nb : b ≠ ad := fun z => by rw [z, jb.at] at hb; cases hb
                rw [upd_ne nb]; exact hb
              have at5 : AtP X.K (upd H3 ad (.dK ((ks ++ [kk]).zip (vs ++ [z])))) v0 pp.2 (.ref ad) := by rw [hp0] at at3 ⊢; exact at3
              exact setd_fin (Φ := Φ) ha.pa kf5 (up q ((l1.trans l2).trans l3)) jfin r5 a.2.2 s1 at5 (upd_same) (by rw [valV_find (by simp [hlv]), findQ_app hf, hlv]; simp)
          · exact q.elim
        · exact q.elim
    · exact q.elim
/-! ### d.pop(k, z) -/
theorem ownL_erase {G : Gx} {F : Hp} : ∀ {ds : List D} {vs : List V} {M : Hp} {j : Nat} {d : D}, OwnL G F ds vs M → ds[j]? = some d → ∃ v Mj Mr, vs[j]? = some v ∧ J [Mj, Mr] M ∧ Own G F d v Mj ∧ OwnL G F (ds.eraseIdx j) (vs.eraseIdx j) Mr
  | [], _, _, _, _, _, e => by simp at e
  | d :: ds, vs, M, 0, d0, h, e => by
    obtain ⟨v, r, M1, M2, rfl, j, h1, h2⟩ := h
    simp at e; subst e
    exact ⟨v, M1, M2, rfl, j, h1, h2⟩
  | d :: ds, vs, M, i + 1, d0, h, e => by
    obtain ⟨v, r, M1, M2, rfl, j, h1, h2⟩ := h
    obtain ⟨w, Mj, Mr, e2, j2, q, k⟩ := ownL_erase (j := i) h2 (by simpa using e)
    have jj : J [Mj, Mr, M1] M := J.nest (xs := [M1]) j2 (j.re [1, 0])
    obtain ⟨b1, b2⟩ := (jj.re [2, 1, 0]).join
    exact ⟨w, Mj, _, by simpa using e2, b2.re [1, 0], q, v, _, M1, Mr, rfl, b1, h1, k⟩
theorem drop_none {κ : Type} [DecidableEq κ] {k : κ} : ∀ {ks : List κ} {vs : List V}, findQ k ks = none → dropK (ks.zip vs) k = ks.zip vs
  | [], _, _ => rfl
  | _ :: _, [], _ => rfl
  | a :: ks, w :: vs, h => by
    unfold findQ at h
    by_cases c : a = k
    · rw [if_pos c] at h; cases h
    · rw [if_neg c] at h
      have hf : findQ k ks = none := by
        cases hf : findQ k ks with
        | none => rfl
        | some i => rw [hf] at h; cases h
      have ih := drop_none (vs := vs) hf
      unfold dropK at ih ⊢
      rw [List.zip_cons_cons, List.filter_cons, ih]
      simp [c]
theorem drop_zip {κ : Type} [DecidableEq κ] {k : κ} : ∀ {ks : List κ} {vs : List V} {j : Nat}, ks.length = vs.length → onceQ k ks = true → findQ k ks = some j → dropK (ks.zip vs) k = (ks.eraseIdx j).zip (vs.eraseIdx j)
  | [], _, _, _, _, h => by cases h
  | _ :: _, [], _, hl, _, _ => by simp at hl
  | a :: ks, w :: vs, j, hl, h1, h => by
    unfold findQ at h
    unfold onceQ at h1
    by_cases c : a = k
    · rw [if_pos c] at h h1
      cases h
      rw [Option.isNone_iff_eq_none] at h1
      have ih := drop_none (vs := vs) h1
      unfold dropK at ih ⊢
      rw [List.zip_cons_cons, List.filter_cons, ih]
      simp [c]
    · rw [if_neg c] at h h1
      cases hf : findQ k ks with
      | none => rw [hf] at h; cases h
      | some i =>
        rw [hf] at h
        cases h
        have ih := drop_zip (vs := vs) (by simpa using hl) h1 hf
        unfold dropK at ih ⊢
        rw [List.zip_cons_cons, List.filter_cons, ih]
        simp [c]
def mPopD (q : M Pth) (mk mz : M D) : M D := fun ρ => (q ρ).bind fun p ρ1 => match getR ρ1 p with
  | some (.dic _ _ _) => if p.2.isEmpty = true then (mk ρ1).bind fun k ρ2 => (mz ρ2).bind fun z ρ3 => (match keyD k, getR ρ3 p with
    | some kk, some (.dic true ks ds) => if onceQ kk ks = true then
        (match findQ kk ks with
          | some j => (match ds[j]? with
            | some d => .ok d (setR ρ3 p (.dic true (ks.eraseIdx j) (ds.eraseIdx j)))
            | none => .no)
          | none => .ok z ρ3) else .no
    | _, _ => .no) else .no
  | _ => .no
/-- place.pop(k, z), the place a name -/
theorem re_popD {m : M Pth} {mk mz : M D} {c1 c2 : Bool} (κ : Kx X E k) (ho : RP X cl Φ E o m) (he : RE X cl Φ E c1 e mk) (hf : RE X cl Φ E c2 f mz) (mm : M2 X o "pop" apos e f cpos := by exact ⟨rfl, rfl, rfl, rfl⟩) :
    RE X cl Φ E false (.Call (.Attribute o "pop" apos) [e, f] [] cpos) (mPopD m mk mz) := by
  refine ⟨(pe_dpop2 ho.pe.kf he.pe hf.pe.kf mm).weak fun σ H Q ⟨F, N, R, ρ, a, q⟩ => ⟨F, N, R, ρ, a, ?_⟩⟩
  unfold mPopD at q
  cases e1 : m ρ with
  | no => rw [e1] at q; exact q
  | ex k ρ' => rw [e1] at q; exact q
  | ok pp ρ1 =>
    rw [e1] at q
    simp only [O.bind] at q
    intro v0 v F1 N1 H1 l1 k1 j1 r1 s1 at1 kf1
    split at q
    · rename_i b0 ks0 ds0 g0
      split at q
      · rename_i hp0
        rw [List.isEmpty_iff] at hp0
        obtain ⟨M0, Mr0, jm0, om0, _⟩ := place (G := gx X cl) j1 r1 g0 rfl kf1 s1 at1
        obtain ⟨ad, rfl, isd⟩ := own_isDct j1.le ((j_le jm0).1.trans (j1.sub (by simp))) om0 rfl
        refine ⟨ad, rfl, isd, F1, N1, R, ρ1, ⟨j1, r1, a.2.2⟩, ?_⟩
        cases e2 : mk ρ1 with
        | no => rw [e2] at q; exact q
        | ex k ρ' => rw [e2] at q; exact PX.le q l1
        | ok kd ρ2 =>
          rw [e2] at q
          intro y F2 N2 T2 H2 l2 k2 j2 r2 o2
          simp only at q
          have jt : J [T2, R] (un T2 R) := (j2.re [2, 3, 0, 1]).join.1
          refine ⟨F2, N2, un T2 R, ρ2, ⟨j2.hide, r2, a.2.2⟩, ?_⟩
          cases e3 : mz ρ2 with
          | no => rw [e3] at q; exact q
          | ex k ρ' => rw [e3] at q; exact PX.more q (l1.trans l2) jt
          | ok zd ρ3 =>
            rw [e3] at q
            intro z F3 N3 T3 H3 l3 k3 j3 r3 o3 kf3
            simp only at q
            have at3 : AtP X.K H3 v0 pp.2 (.ref ad) := by rw [hp0] at at1 ⊢; exact at1
            split at q
            · rename_i kk ks ds hk g
              obtain ⟨rfl, rfl⟩ := own_key o2 hk
              have eR := (J.emp_iff.mp jt).eq1
              have j3 : J [F3, N3, T3, R] H3 := by rw [eR] at j3; exact j3
              split at q
              · rename_i hcc
                obtain ⟨M1, Mr, jm, om, kkp⟩ := place (G := gx X cl) j3.hide r3 g rfl kf3 s1 at3
                obtain ⟨ad', vs, C, e0, hl, jc, wc, ne⟩ := own_dicT om
                cases e0
                have ja : J [M1, Mr, F3, T3, R] H3 := J.nest (xs := [F3, T3, R]) jm (j3.re [1, 0, 2, 3])
                have jb : J [one ad (.dK (ks.zip vs)), C, Mr, F3, T3, R] H3 := J.nest (xs := [Mr, F3, T3, R]) jc ja
                have hlv : ks.length = vs.length := by rw [hl, ownL_len wc]
                refine ⟨ks.zip vs, kk, jb.at, rfl, fun x hx => ?_, fun hn => ?_⟩
                · rw [valV_find hlv] at hx
                  cases hfj : findQ kk ks with
                  | none => rw [hfj] at hx; cases hx
                  | some j =>
                    rw [hfj] at hx q
                    simp only at q
                    have hx : vs[j]? = some x := hx
                    split at q
                    · rename_i d hd
                      obtain ⟨w, Mj, Mr1, ew, jj, oj, oz⟩ := ownL_erase wc hd
                      rw [hx] at ew; cases ew
                      rw [drop_zip hlv hcc hfj]
                      have jd : J [Mj, Mr1, one ad (.dK (ks.zip vs)), Mr, F3, T3, R] H3 := J.nest (xs := [one ad (.dK (ks.zip vs)), Mr, F3, T3, R]) jj (jb.re [1, 0, 2, 3, 4, 5])
                      have jw := (jd.re [2, 0, 1, 3, 4, 5, 6]).write (o' := .dK ((ks.eraseIdx j).zip (vs.eraseIdx j)))
                      obtain ⟨jx, jy⟩ := (jw.re [0, 2, 1, 3, 4, 5, 6]).join
                      have od : Own (gx X cl) F3 (.dic true (ks.eraseIdx j) (ds.eraseIdx j)) (.ref ad) _ := ⟨ad, _, rfl, by rw [List.length_eraseIdx, List.length_eraseIdx, hl], .inr ⟨rfl, _, jx, oz⟩⟩
                      obtain ⟨jq, jr⟩ := (jy.re [0, 2, 1, 3, 4, 5]).join
                      have r5 := kkp F3 _ _ _ Le.refl od jq (.inr ne)
                      have jg := (jr.re [2, 0, 1, 3, 4]).re [0, 1, 3, 2, 4]
                      have jg2 := jg.give
                      exact q x _ _ Mj _ (((l1.trans l2).trans l3).trans jg2.2.1) (fun z => nomatch z) (jg2.1) (rel_le jg2.2.1 r5) (own_le jg2.2.1 oj)
                    · exact q.elim
                · rw [valV_find hlv] at hn
                  cases hfj : findQ kk ks with
                  | some j =>
                    rw [hfj] at hn
                    have := findQ_lt hfj
                    have hn : vs[j]? = none := hn
                    rw [List.getElem?_eq_none_iff] at hn
                    omega
                  | none =>
                    rw [hfj] at q
                    exact q z F3 N3 T3 H3 ((l1.trans l2).trans l3) (fun z => nomatch z) j3 r3 o3
              · exact q.elim
            · exact q.elim
      · exact q.elim
    · exact q.elim
/-! ### reversed -/
def mRev (m : M D) : M (List D × Bk) := fun ρ => (m ρ).bind fun d ρ1 => match d with
  | .lst _ ds => .ok ((frzL ds).reverse, none) ρ1
  | _ => .no
theorem feeds_rev {G : Gx} {F T : Hp} {a : Addr} {vs : List V} {ds : List D} {n : Nat} (h : ∀ H, Le F H → Le T H → SqL G.K H a vs) (hn : n = vs.length) (o : OwnL G F ds vs emp) : Feeds G F T (Itv G.K a n) ds.reverse := by
  intro F' H' l l1 l2
  have s := h H' (l.trans l1) l2
  have hl := ownL_len o
  subst hn
  refine ⟨show vs.length ≤ _ by rw [List.length_reverse]; omega, fun i d e => ?_⟩
  have hi : i < ds.length := by have := (List.getElem?_eq_some_iff.mp e).1; simpa using this
  rw [List.getElem?_reverse hi] at e
  obtain ⟨v, e1, ov⟩ := ownL_get o e
  rw [← hl] at e1
  refine ⟨⟨by omega, vs, v, s, e1⟩, fun x H2 N R y j => ?_⟩
  obtain ⟨rfl, y⟩ := y
  have := y vs s
  rw [e1] at this
  cases this
  exact ⟨F', emp, Le.refl, emp_in j, own_le l ov⟩
theorem ri_rev {tg : Expr} {m : M D} (h : RE X cl Φ E c e m) (hm : X.mg "reversed" = none) (hg : Gl X "reversed" := by rfl) (hs : starEach [e] X.env = (false, eval e X.env) :: starEach [] X.env := by rfl) : RI X cl Φ E tg (.Call (.Name "reversed" p) [e] [] pos) (mRev m) := by
  refine ⟨(RT.pi_revA hg hm h.pe hs).weak fun σ H Q ⟨F, N, R, ρ, a, q⟩ => ⟨F, N, R, ρ, a, ?_⟩⟩
  unfold mRev at q
  cases e1 : m ρ with
  | no => rw [e1] at q; exact q
  | ex k ρ' => rw [e1] at q; exact q
  | ok d ρ1 =>
    rw [e1] at q
    simp only [O.bind] at q
    intro v F1 N1 T1 H1 l1 k1 j1 r1 o1
    cases d <;> first | exact q.elim | skip
    have dd := dump1 j1
    obtain ⟨pa, vs, S, C, rfl, jc, w, g⟩ := own_lst o1
    exact ⟨pa, vs, rfl, .inl ⟨.of (g H1 j1.le (j1.sub (by simp))), q _ _ N1 emp H1 (l1.trans dd.2.1) dd.1 (rel_le dd.2.1 r1)
      (feeds_rev (vs := vs) (fun H' l _ => .of (g H' (dd.2.1.trans l) (dd.2.2.trans l))) rfl (ownL_frz w dd.2.1 ((j_le jc).2.trans dd.2.2))) trivial⟩⟩
/-! ### sorted(d), the keys whole numbers -/
def fSortD : List D → Option D := fun as => match as with
  | [.dic _ ks _] => (keysI ks).bind fun ns => if ns.length < 64 then some (.lst true ((sortI false ns).map D.int)) else none
  | _ => none
theorem fn_sortD {G : Gx} : FN G (fun xs H Q => ∃ (a : Addr) (kvs : List (Key × V)) (ks : List Int), xs = [.ref a] ∧ Rd H a (.dK kvs) ∧ kvs.map (·.1) = ks.map Sum.inl ∧ ks.length < 64 ∧
    ∀ (ys : List Int) (p : Addr), ys.Perm ks → ys.Pairwise (· ≤ ·) → H p = none → Q (.ref p) (upd H p (.lst (ys.map V.int)))) fSortD := by
  intro F N T R H xs ds z Q j o hz k
  unfold fSortD at hz
  split at hz
  · rename_i ob ks es
    cases hk : keysI ks with
    | none => rw [hk] at hz; cases hz
    | some ns =>
      rw [hk] at hz
      simp only [Option.bind] at hz
      split at hz
      · rename_i h64
        cases hz
        obtain ⟨v, r, M1, M2, rfl, jm, o1, rfl, rfl⟩ := o
        have e := (J.emp_iff.mp (jm.re [1, 0])).eq1
        subst e
        obtain ⟨a, vs, C, rfl, n, lC, w, rd⟩ := own_dic o1 j.le (j.sub (by simp))
        have dd := dump1 j
        refine ⟨a, _, ns, rfl, rd, ?_, h64, fun ys p hp ho hn => ?_⟩
        · rw [List.map_fst_zip (by rw [n, ownL_len w]; exact Nat.le_refl _), keysI_eq hk]
        · have hs : ys = sortI false ns := sortI_uniq (b := false) hp ho
          subst hs
          exact new_lst dd.1 (own_ints _) (fun v F' T' H' l => k v F' T' H' (dd.2.1.trans l)) p hn
      · cases hz
  · cases hz
theorem re_sortD {m : M (List D)} (κ : Kx X E k) (h : RA X cl Φ E c [e] m) (hm : X.mg "sorted" = none) (hg : Gl X "sorted" := by rfl) (he : starEach [e] X.env = (false, eval e X.env) :: starEach [] X.env := by rfl) (hpl : (backTo pos (starEach [] X.env)).any (·.1) = false := by rfl) :
    RE X cl Φ E c (.Call (.Name "sorted" p) [e] [] pos) (mFun fSortD m) := re_blt (call_sortedDI κ.calm) fn_sortD hm (by decide +kernel) h hg (by decide) (by decide) he hpl
/-! ### place[i] op= n -/
def rGetL : V → V → Hp → VK → Prop := fun o i H Q => ∃ (p : Addr) (xs : List V) (j : Int) (v : V), o = .ref p ∧ i = .int j ∧ 0 ≤ j ∧ H p = some (.lst xs) ∧ xs[j.toNat]? = some v ∧ Q v H
theorem get_listL {X : Cx} : PGet X rGetL := by
  rintro pins s σ H o i ov iv Q I ro ri ⟨p, xs, j, v, rfl, rfl, h0, hp, hv, q⟩
  cases ro
  obtain ⟨t, rfl⟩ := ri
  obtain ⟨its, r, pl, hz⟩ := I.list (show SqL X.K H p xs from .of hp)
  obtain ⟨w, ew, rw'⟩ := r.get hv
  have hl := r.length
  have hn := line63
  have hlt : j.toNat < xs.length := (List.getElem?_eq_some_iff.mp hv).1
  exact wpAny_getItem_list pl.isList h0 (by omega) (by simpa using ew) ⟨v, H, I, rw', q⟩
def mAugS (q : M Pth) (mi : M D) (g : Int → Int) : M Fl := fun ρ => match q ρ with
  | .ok p ρ1 => (match mi ρ1 with
    | .ok (.int i) ρ2 => (match getR ρ2 p with
      | some (.lst true ds) => if 0 ≤ i then (match ds[i.toNat]? with
        | some (.int x) => .ok .nx (setR ρ2 p (.lst true (ds.set i.toNat (.int (g x)))))
        | _ => .no) else .no
      | _ => .no)
    | _ => .no)
  | _ => .no
theorem rs_augS {m : M Pth} {mi : M D} {z : Int} {jz : Nat} (h : RP X cl Φ E o m) (hi : RE X cl Φ E true i mi)
    (ha : ∀ ov iv new, augStore i ov iv new = (do holding [new, ov, iv] (setItem ov iv new); release [new, ov, iv] []; pure .next) := by intros; rfl) :
    RS X cl Φ E (.AugAssign (.Subscript o i pos) .Add (.Constant (.int z) jz p) pos') (mAugS m mi fun x => x + z) := by
  refine ⟨(ps_augS h.pe hi.pe.kf get_listL pe_int ip_add set_list ha).weak fun D' σ H ⟨F, N, R, ρ, a, q⟩ => ⟨F, N, R, ρ, a, ?_⟩⟩
  unfold mAugS at q
  cases e1 : m ρ with
  | no => rw [e1] at q; exact q.elim
  | ex k ρ' => rw [e1] at q; exact q.elim
  | ok pp ρ1 =>
    rw [e1] at q
    simp only at q
    intro v0 w F1 N1 H1 l1 k1 j1 r1 s1 at1
    refine ⟨F1, N1, R, ρ1, ⟨j1, r1, a.2.2⟩, ?_⟩
    cases e2 : mi ρ1 with
    | no => rw [e2] at q; exact q.elim
    | ex k ρ' => rw [e2] at q; exact q.elim
    | ok di ρ2 =>
      rw [e2] at q
      intro u F2 N2 T2 H2 l2 k2 j2 r2 o2 kf
      cases di with
      | int ii =>
        simp only at q
        split at q
        · rename_i ds g
          split at q
          · rename_i h0
            split at q
            · rename_i x hd
              obtain ⟨rfl, rfl⟩ := o2
              have j3 := emp_out j2
              obtain ⟨M1, Mr, jm, om, kk⟩ := place (G := gx X cl) j3 r2 g rfl kf s1 (AtP.le (k2 rfl) at1)
              obtain ⟨al, vs, C, rfl, jc, wc, ne⟩ := own_true om
              obtain ⟨v1, Mj, Mr1, ev, jj, oj, kp⟩ := ownL_put wc hd
              obtain ⟨rfl, rfl⟩ := oj
              have j4 : J [M1, Mr, F2, R] H2 := J.nest (xs := [F2, R]) jm (j3.re [1, 0, 2])
              have j5 : J [one al (.lst vs), C, Mr, F2, R] H2 := J.nest (xs := [Mr, F2, R]) jc j4
              have hlt : ii.toNat < ds.length := (List.getElem?_eq_some_iff.mp hd).1
              have hix : ixN vs.length ii = some ii.toNat := by
                unfold ixN
                rw [ownL_len wc, if_pos h0, if_pos (by omega)]
              refine ⟨al, vs, ii, .int x, rfl, rfl, h0, j5.at, ev, x, z, rfl, rfl, al, vs, ii, ii.toNat, rfl, rfl, j5.at, hix, ?_⟩
              have jw := j5.write (o' := .lst (vs.set ii.toNat (.int (x + z))))
              obtain ⟨ja, jb⟩ := jw.join
              have od : Own (gx X cl) F2 (.lst true (ds.set ii.toNat (.int (x + z)))) (.ref al) _ := ⟨al, _, rfl, .inr ⟨rfl, _, ja, kp F2 (.int (x + z)) (.int (x + z)) emp C Le.refl ⟨rfl, rfl⟩ jj⟩⟩
              obtain ⟨jq, jr⟩ := jb.join
              have r3 := kk F2 _ _ _ Le.refl od jq (.inr ne)
              exact q F2 _ _ σ (l1.trans l2) ⟨jr.re [1, 0, 2], r3, a.2.2⟩
            · exact q.elim
          · exact q.elim
        · exact q.elim
      | _ => exact q.elim
end
end Z

end
section
set_option maxRecDepth 100000
/-! Z: dict comprehensions -/
namespace Z
open PySem PySem.Spec L2
open PyProof.Rows hiding St
def loopD (vs : List Nat) (g : D → M Unit) (t : M Bool) (mk m : M D) : List D → List Key → List D → Env → O (List Key × List D)
  | [], ks, acc, ρ => .ok (ks, acc) ρ
  | d :: ds, ks, acc, ρ => match g d ρ with
    | .ok _ ρ1 => (match t ρ1 with
      | .ok true ρ2 => (match mk ρ2 with
        | .ok y ρ3 => (match keyD y with
          | some kk => (match m ρ3 with
            | .ok z ρ4 => if (onceQ kk ks && decide (ks.length < sizeLine)) = true then loopD vs g t mk m ds (dicPut kk z ks acc).1 (dicPut kk z ks acc).2 (wipeR vs ρ4) else .no
            | _ => .no)
          | none => .no)
        | _ => .no)
      | .ok false ρ2 => loopD vs g t mk m ds ks acc (wipeR vs ρ2)
      | _ => .no)
    | _ => .no
/-- {mk: m for g in it if t}; vs: the block's own names -/
def mDc (vs : List Nat) (it : M (List D × Bk)) (g : D → M Unit) (t : M Bool) (mk m : M D) : M D := fun ρ => (it ρ).bind fun x ρ1 => match loopD vs g t mk m x.1 [] [] (wipeR vs ρ1) with
  | .ok acc ρ2 => if holeAt x.2 (restR vs ρ1 ρ2) = true then .ok (.dic true acc.1 acc.2) (putBk x.2 (restR vs ρ1 ρ2)) else .no
  | _ => .no
section
variable {G : Gx} {Φ : St → Prop} {E : St → XK} {c : Bool} {σ : St} {H : Hp}
theorem tE_dc {G : Gx} {vs : List Nat} {it : M (List D × Bk)} {g : D → M Unit} {t : M Bool} {mk m : M D} {c1 c2 c3 : Bool} {σ : St} {H : Hp} {Q : VK} (h : tE G Φ E false (mDc vs it g t mk m) σ H Q) :
    tDc (tI G Φ E it) (fun v σ H Q => ∃ σ0, tG G (Wp vs σ0) g v σ H Q) (fun σ H Q => ∃ σ0, tB G (Wp vs σ0) E00 c1 t σ H Q) (fun σ H Q => ∃ σ0, tE G (Wp vs σ0) E00 c2 mk σ H Q) (fun σ H Q => ∃ σ0, tE G (Wp vs σ0) E00 c3 m σ H Q) vs σ H Q := by
  obtain ⟨F, N, R, ρ, a, q⟩ := h
  refine ⟨F, N, R, ρ, a, ?_⟩
  unfold mDc at q
  cases e : it ρ with
  | no => rw [e] at q; exact q
  | ex k ρ' => rw [e] at q; exact q
  | ok x ρ1 =>
    obtain ⟨ds, bk⟩ := x
    rw [e] at q
    simp only [O.bind] at q
    intro Jt F1 N1 T H1 l1 j1 r1 fd bo Dp hD
    obtain ⟨P, Nw, jp, rw1, back⟩ := rel_wipe (vs := vs) r1
    have j2 : J [P, Nw, F1, T, R] H1 := J.nest (xs := [F1, T, R]) jp (j1.re [1, 0, 2, 3])
    have j3 := (j2.alloc (o := .dK []) hD).re [3, 2, 0, 1, 4, 5]
    let Fin : O (List Key × List D) → Prop := fun o => match o with
      | .ok acc ρ2 => ∀ F2 N2 C accv H2, Le F1 F2 → acc.1.length = acc.2.length → J [F2, N2, one Dp (.dK (acc.1.zip accv)), C, P, T, R] H2 → Rel G F2 ρ2 (wipe σ vs) N2 → OwnL G F2 acc.2 accv C → Q (.ref Dp) H2
      | _ => False
    have fin0 : Fin (loopD vs g t mk m ds [] [] (wipeR vs ρ1)) := by
      cases e2 : loopD vs g t mk m ds [] [] (wipeR vs ρ1) with
      | no => rw [e2] at q; exact q
      | ex k ρ' => rw [e2] at q; exact q
      | ok acc ρ2 =>
        rw [e2] at q
        intro F2 N2 C accv H2 l2 hln jj rr oo
        obtain ⟨ja, jb⟩ := (jj.re [4, 1, 0, 2, 3, 5, 6]).join
        obtain ⟨N3, Z, jc, r3⟩ := back F2 ρ2 N2 _ l2 rr ja
        have jd : J [N3, Z, F2, one Dp (.dK (acc.1.zip accv)), C, T, R] H2 := J.nest (xs := [F2, one Dp (.dK (acc.1.zip accv)), C, T, R]) jc jb
        have je := (jd.re [2, 0, 1, 3, 4, 5, 6]).give
        obtain ⟨jf, jg⟩ := (je.1.re [2, 3, 0, 1, 4, 5]).join
        simp only at q
        split at q
        · rename_i hh
          have bo2 : BackOk G Φ (un F2 Z) T σ ρ1 bk := by
            cases bk with
            | none => trivial
            | some p =>
              obtain ⟨i, d⟩ := p
              obtain ⟨v, e', o', s'⟩ := bo
              exact ⟨v, e', own_le (l2.trans je.2.1) o', s'⟩
          obtain ⟨jh, ji⟩ := (jg.re [0, 4, 1, 2, 3]).join
          obtain ⟨F3, N4, l3, a3⟩ := back_in (G := G) (Φ := Φ) (H := H2) (ji.re [1, 2, 3, 0]) (rel_le je.2.1 r3) a.2.2 bo2 hh
          exact q (.ref Dp) F3 N4 _ H2 (((l1.trans l2).trans je.2.1).trans l3) (fun z => nomatch z) (J.unhide (ys := []) jh a3.1) a3.2.1 ⟨Dp, accv, rfl, hln, .inr ⟨rfl, C, jf, ownL_le (je.2.1.trans l3) oo⟩⟩
        · exact q.elim
    have jini : J [F1, Nw, one Dp (.dK (([] : List Key).zip ([] : List V))), emp, P, T, R] (upd H1 Dp (.dK [])) := (J.emp_iff.mpr j3).re [3, 2, 1, 0, 4, 5, 6] |>.re [0, 1, 2, 3, 4, 5, 6] |> fun z => by
      have z2 := (J.emp_iff.mpr j3)
      exact z2.re [1, 2, 3, 0, 4, 5, 6]
    refine ⟨fun i mm H' => i + mm = ds.length ∧ ∃ F' N' ρ' accv ks acc C, Le F1 F' ∧ ks.length = acc.length ∧ J [F', N', one Dp (.dK (ks.zip accv)), C, P, T, R] H' ∧ Rel G F' ρ' (wipe σ vs) N' ∧ OwnL G F' acc accv C ∧ Fin (loopD vs g t mk m (ds.drop i) ks acc ρ'),
      ⟨ds.length, by omega, F1, Nw, _, [], [], [], emp, Le.refl, rfl, jini, rw1, ⟨rfl, rfl⟩, fin0⟩, ?_⟩
    rintro i mm H' ⟨hm, F', N', ρ', accv, ks, acc, C, l', hln, j', r', o', q'⟩
    obtain ⟨f1, f2⟩ := fd F' H' l' j'.le (j'.sub (by simp))
    by_cases hi : i < ds.length
    · have e1 : ds[i]? = some ds[i] := List.getElem?_eq_getElem hi
      rw [List.drop_eq_getElem_cons hi] at q'
      obtain ⟨g1, g2⟩ := f2 i _ e1
      refine .inr ⟨g1, _, fun H2 w => ⟨mm - 1, by omega, w⟩, fun x H2 y => ?_⟩
      obtain ⟨B, jb1, jb2⟩ := J.pack (ys := [one Dp (.dK (ks.zip accv)), C, P, T, R]) (xs := [F', N']) (j'.re [2, 3, 4, 5, 6, 0, 1])
      obtain ⟨F2, T', l2, jj2, o2⟩ := g2 x H2 N' B y (jb2.re [1, 2, 0])
      refine ⟨σ, F2, N', T', B, ρ', _, jj2, rel_le l2 r', wipe_idem vs σ, o2, ?_⟩
      unfold loopD at q'
      cases eg : g ds[i] ρ' with
      | no => rw [eg] at q'; exact q'.elim
      | ex k ρ' => rw [eg] at q'; exact q'.elim
      | ok u ρ1' =>
        rw [eg] at q'
        intro F3 N3 H3 σ3 l3 a3
        have ew : wipe σ3 vs = wipe σ vs := a3.2.2
        refine ⟨ew, σ, F3, N3, B, ρ1', a3, ?_⟩
        simp only at q'
        cases et : t ρ1' with
        | no => rw [et] at q'; exact q'.elim
        | ex k ρ' => rw [et] at q'; exact q'.elim
        | ok b ρ2 =>
          rw [et] at q'
          intro F4 N4 H4 l4 k4 j4 r4
          cases b with
          | false =>
            simp only at q'
            refine ite_ff ?_
            obtain ⟨P5, Nw5, jw, rw5, _⟩ := rel_wipe (vs := vs) r4
            rw [ew] at rw5
            have ja := J.nest (xs := [F4, N4]) jb1 (j4.re [2, 0, 1])
            have jc := J.nest (xs := [one Dp (.dK (ks.zip accv)), C, P, T, R, F4]) jw (ja.re [6, 0, 1, 2, 3, 4, 5])
            have jd := (jc.re [7, 1, 0, 2, 3, 4, 5, 6]).give
            exact ⟨by omega, _, Nw5, _, accv, ks, acc, C, (((l'.trans l2).trans l3).trans l4).trans jd.2.1, hln, jd.1, rel_le jd.2.1 rw5, ownL_le (((l2.trans l3).trans l4).trans jd.2.1) o', q'⟩
          | true =>
            simp only at q'
            refine ite_tt ⟨σ, F4, N4, B, ρ2, ⟨j4, r4, a3.2.2⟩, ?_⟩
            cases ek : mk ρ2 with
            | no => rw [ek] at q'; exact q'.elim
            | ex k ρ' => rw [ek] at q'; exact q'.elim
            | ok y ρ3 =>
              rw [ek] at q'
              intro vk F5 N5 T5 H5 l5 k5 j5 r5 o5
              simp only at q'
              split at q'
              · rename_i kk hkk
                obtain ⟨rfl, rfl⟩ := own_key o5 hkk
                refine ⟨σ, F5, N5, B, ρ3, ⟨emp_out j5, r5, a3.2.2⟩, ?_⟩
                cases em : m ρ3 with
                | no => rw [em] at q'; exact q'.elim
                | ex k ρ' => rw [em] at q'; exact q'.elim
                | ok z ρ4 =>
                  rw [em] at q'
                  intro v F6 N6 T6 H6 l6 k6 j6 r6 o6
                  simp only at q'
                  split at q'
                  · rename_i hcc
                    rw [Bool.and_eq_true, decide_eq_true_eq] at hcc
                    obtain ⟨P7, Nw7, jw, rw7, _⟩ := rel_wipe (vs := vs) r6
                    rw [ew] at rw7
                    have ja := J.nest (xs := [F6, N6, T6]) jb1 (j6.re [3, 0, 1, 2])
                    have lz := ((l2.trans l3).trans l4).trans (l5.trans l6)
                    obtain ⟨jct, jrest⟩ := (ja.re [1, 7, 0, 2, 3, 4, 5, 6]).join
                    obtain ⟨vs', C', Zz, hl', ep, jz, oz⟩ := dicPut_own hln (ownL_le lz o') o6 jct hcc.1
                    have jn := J.nest (xs := [one Dp (.dK (ks.zip accv)), P, T, R, F6, N6]) jz jrest
                    have jw1 := (jn.re [2, 0, 1, 3, 4, 5, 6, 7]).write (o' := .dK (putK (ks.zip accv) kk v))
                    have jc := J.nest (xs := [one Dp (.dK (putK (ks.zip accv) kk v)), C', Zz, P, T, R, F6]) jw (jw1.re [7, 0, 1, 2, 3, 4, 5, 6])
                    have jd := (jc.re [8, 1, 0, 2, 3, 4, 5, 6, 7]).give
                    have jd2 := (jd.1.re [0, 1, 4, 2, 3, 5, 6, 7]).give
                    have ly := jd.2.1.trans jd2.2.1
                    refine ⟨ks.zip accv, kk, rfl, ja.at, by rw [List.length_zip]; omega, by omega, _, Nw7, _, vs', _, _, C', l'.trans (lz.trans ly), hl', ?_, rel_le ly rw7, oz _ ly, q'⟩
                    rw [← ep]
                    exact jd2.1
                  · exact q'.elim
              · exact q'.elim
    · have ei : i = ds.length := by omega
      subst ei
      rw [List.drop_length] at q'
      exact .inl ⟨f1, q' F' N' C accv H' l' hln j' r' o'⟩
end
section
variable {X : Cx} {cl : Nat → Addr} {Φ : St → Prop} {E : St → XK} {c : Bool} {k : Nat} {pos p : Pos} {e : Expr} {es : List Expr} {tg iter kx vx : Expr} {ifs : List Expr}
theorem re_dc {scope : Scope} {own : List (Str × Nat)} {it : M (List D × Bk)} {g : D → M Unit} {t : M Bool} {mk m : M D} {c1 c2 c3 : Bool} (κ : Kx X E k) (hi : RI X cl Φ E tg iter it) (ok : BlkOk X.N X.env.scope scope own)
    (hg : ∀ (s : Shared) (H : Hp) (C : Addr) (cs : List (Str × Addr)) (fp : List Addr) (σ0 : St), Kx (bX X scope s H C cs fp) E00 k → RG (bX X scope s H C cs fp) cl (Wp (own.map (·.2)) σ0) tg g)
    (ht : ∀ (s : Shared) (H : Hp) (C : Addr) (cs : List (Str × Addr)) (fp : List Addr) (σ0 : St), Kx (bX X scope s H C cs fp) E00 k → RT (bX X scope s H C cs fp) cl (Wp (own.map (·.2)) σ0) E00 c1 ifs t)
    (hk : ∀ (s : Shared) (H : Hp) (C : Addr) (cs : List (Str × Addr)) (fp : List Addr) (σ0 : St), Kx (bX X scope s H C cs fp) E00 k → RE (bX X scope s H C cs fp) cl (Wp (own.map (·.2)) σ0) E00 c2 kx mk)
    (he : ∀ (s : Shared) (H : Hp) (C : Addr) (cs : List (Str × Addr)) (fp : List Addr) (σ0 : St), Kx (bX X scope s H C cs fp) E00 k → RE (bX X scope s H C cs fp) cl (Wp (own.map (·.2)) σ0) E00 c3 vx m)
    (hs : ∀ x, foldedSetIterable iter X.env x = pure x := by intro _; rfl) : RE X cl Φ E false (.DictComp kx vx [⟨tg, iter, ifs, 0⟩] scope pos) (mDc (own.map (·.2)) it g t mk m) := by
  have hg' : ∀ (s : Shared) (H : Hp) (C : Addr) (cs : List (Str × Addr)) (fp : List Addr), PG (bX X scope s H C cs fp) tg (fun v σ H Q => ∃ σ0, tG (gx X cl) (Wp (own.map (·.2)) σ0) g v σ H Q) := fun s H C cs fp =>
    ⟨fun pins s' σ H' v u Q I r ⟨σ0, q⟩ => (hg s H C cs fp σ0 κ.blk).pg.run pins s' σ H' v u Q I r q⟩
  have ht' : ∀ (s : Shared) (H : Hp) (C : Addr) (cs : List (Str × Addr)) (fp : List Addr), PTs (bX X scope s H C cs fp) ifs (fun σ H Q => ∃ σ0, tB (gx X cl) (Wp (own.map (·.2)) σ0) E00 c1 t σ H Q) := fun s H C cs fp =>
    ⟨fun pins s' σ H' Q I ⟨σ0, q⟩ => (ht s H C cs fp σ0 κ.blk).pts.run pins s' σ H' Q I q⟩
  have hk' : ∀ (s : Shared) (H : Hp) (C : Addr) (cs : List (Str × Addr)) (fp : List Addr), PE (bX X scope s H C cs fp) kx (fun σ H Q => ∃ σ0, tE (gx X cl) (Wp (own.map (·.2)) σ0) E00 c2 mk σ H Q) := fun s H C cs fp =>
    ⟨fun pins s' σ H' Q I ⟨σ0, q⟩ => (hk s H C cs fp σ0 κ.blk).pe.run pins s' σ H' Q I q⟩
  have he' : ∀ (s : Shared) (H : Hp) (C : Addr) (cs : List (Str × Addr)) (fp : List Addr), PE (bX X scope s H C cs fp) vx (fun σ H Q => ∃ σ0, tE (gx X cl) (Wp (own.map (·.2)) σ0) E00 c3 m σ H Q) := fun s H C cs fp =>
    ⟨fun pins s' σ H' Q I ⟨σ0, q⟩ => (he s H C cs fp σ0 κ.blk).pe.run pins s' σ H' Q I q⟩
  exact ⟨(pe_dc κ.calm κ.nd hi.pi ok hg' ht' hk' he' hs).weak fun σ H Q h => tE_dc h⟩
theorem sw_trueD {gs : List Comprehension} {scope : Scope} {pos py : Pos} {y : Str} {l : Nat} {env : PySem.Env} (hk : env.scope.kind = .function) (hy : env.scope.names.lookup y = some .local) (hl : (py.line == pos.line) = true)
    (ha : (scope.names.any fun (n, k) => n == y && (k == .local || k == .cell)) = false) : swapsWith (.DictComp kx vx gs scope pos) (some (.Name y py)) l env = pure true := by
  have ky : env.kindOf y = some .local := hy
  have hb : env.blockKind = .function := by unfold Env.blockKind; rw [hk]; rfl
  unfold swapsWith
  simp only [hb, ky, ha, Expr.pos, hl]
  rfl
theorem ps_setDc {i : Nat} {y : Str} {py : Pos} {scope : Scope} {own : List (Str × Nat)} {pos spos : Pos} {wi : TI} {g : TG} {tt : TT} {tk tv : TE} (hc : X.calm = true) (hN : X.N.Nodup) (hy : X.N[i]? = some y) (hyl : X.env.scope.names.lookup y = some .local)
    (hsw : swapsWith (.DictComp kx vx [⟨tg, iter, ifs, 0⟩] scope pos) (some (.Name y py)) spos.line X.env = pure true) (hi : PI X tg iter wi) (ok : BlkOk X.N X.env.scope scope own)
    (hg : ∀ (s : Shared) (H : Hp) (C : Addr) (cs : List (Str × Addr)) (fp : List Addr), PG (bX X scope s H C cs fp) tg g) (ht : ∀ (s : Shared) (H : Hp) (C : Addr) (cs : List (Str × Addr)) (fp : List Addr), PTs (bX X scope s H C cs fp) ifs tt)
    (hk : ∀ (s : Shared) (H : Hp) (C : Addr) (cs : List (Str × Addr)) (fp : List Addr), PE (bX X scope s H C cs fp) kx tk)
    (he : ∀ (s : Shared) (H : Hp) (C : Addr) (cs : List (Str × Addr)) (fp : List Addr), PE (bX X scope s H C cs fp) vx tv) (hs : ∀ x, foldedSetIterable iter X.env x = pure x := by intro _; rfl) :
    PS X (.Assign [.Name y py] (.DictComp kx vx [⟨tg, iter, ifs, 0⟩] scope pos) spos) (tAsg (tDc wi g tt tk tv (own.map (·.2))) (gName i)) := by
  refine ⟨fun pins s σ H D I h => ?_⟩
  rw [exec_Assign_Name_used _ _ _ _ hsw]
  refine wpAny_bind (wpAny_standAt (wpAny_bind ?_))
  show wpAny _ X.A (do let _ ← comprehension (.DictComp kx vx [⟨tg, iter, ifs, 0⟩] scope pos) scope X.env (firstIterPos [⟨tg, iter, ifs, 0⟩] pos) newDict false (eval iter X.env) (some (assign (.Name y py) X.env))) _ _ s
  have hq0 : tDc wi g tt tk tv (own.map (·.2)) σ H (fun x H1 => gName i x σ H1 D.nx) := h
  refine wpAny_bind (thn (dc_core (Qf := fun _ s' => SP X pins D .next s') hc hN I hi ok hg ht hk he hs hq0 fun L C s' m H' I' q hn f => ?_) fun _ s' hq => wpAny_pure (wpAny_pure hq))
  show wpAny _ _ (assign (.Name y py) X.env (.ref L)) _ _ _
  refine wpAny_assign_Name (store_ok2 (v := V.ref L) I' hN hy (.inl hyl) rfl (fun s2 I2 ⟨a, sb, ha⟩ => ?_) (.inr hyl))
  obtain ⟨f0, f1, f2, f3, f4, f5⟩ := f
  have haC : C ≠ a := ha.elim (fun z => by rw [z]; exact f1) (fun z e => f4 y a z e.symm)
  exact ⟨m, hn.sameBut sb haC, fun h3 sb3 => ⟨_, H', I2.turned (t' := s2.toks) (fun b o hb e => (sb3.2 b hb).trans e) f0 f1 f3 f4 f5, q⟩⟩
theorem rs_setDc {i : Nat} {y : Str} {py spos : Pos} {scope : Scope} {own : List (Str × Nat)} {it : M (List D × Bk)} {g : D → M Unit} {t : M Bool} {mk m : M D} {c1 c2 c3 : Bool} (hy : X.N[i]? = some y) (hyl : X.env.scope.names.lookup y = some .local) (hΦ : ∀ σ v, Φ σ → Φ (σ.set i (some v)))
    (hsw : swapsWith (.DictComp kx vx [⟨tg, iter, ifs, 0⟩] scope pos) (some (.Name y py)) spos.line X.env = pure true) (κ : Kx X E k) (hi : RI X cl Φ E tg iter it) (ok : BlkOk X.N X.env.scope scope own)
    (hg : ∀ (s : Shared) (H : Hp) (C : Addr) (cs : List (Str × Addr)) (fp : List Addr) (σ0 : St), Kx (bX X scope s H C cs fp) E00 k → RG (bX X scope s H C cs fp) cl (Wp (own.map (·.2)) σ0) tg g)
    (ht : ∀ (s : Shared) (H : Hp) (C : Addr) (cs : List (Str × Addr)) (fp : List Addr) (σ0 : St), Kx (bX X scope s H C cs fp) E00 k → RT (bX X scope s H C cs fp) cl (Wp (own.map (·.2)) σ0) E00 c1 ifs t)
    (hk : ∀ (s : Shared) (H : Hp) (C : Addr) (cs : List (Str × Addr)) (fp : List Addr) (σ0 : St), Kx (bX X scope s H C cs fp) E00 k → RE (bX X scope s H C cs fp) cl (Wp (own.map (·.2)) σ0) E00 c2 kx mk)
    (he : ∀ (s : Shared) (H : Hp) (C : Addr) (cs : List (Str × Addr)) (fp : List Addr) (σ0 : St), Kx (bX X scope s H C cs fp) E00 k → RE (bX X scope s H C cs fp) cl (Wp (own.map (·.2)) σ0) E00 c3 vx m)
    (hs : ∀ x, foldedSetIterable iter X.env x = pure x := by intro _; rfl) : RS X cl Φ E (.Assign [.Name y py] (.DictComp kx vx [⟨tg, iter, ifs, 0⟩] scope pos) spos) (mAsg (dName i) (mDc (own.map (·.2)) it g t mk m)) := by
  have hg' : ∀ (s : Shared) (H : Hp) (C : Addr) (cs : List (Str × Addr)) (fp : List Addr), PG (bX X scope s H C cs fp) tg (fun v σ H Q => ∃ σ0, tG (gx X cl) (Wp (own.map (·.2)) σ0) g v σ H Q) := fun s H C cs fp =>
    ⟨fun pins s' σ H' v u Q I r ⟨σ0, q⟩ => (hg s H C cs fp σ0 κ.blk).pg.run pins s' σ H' v u Q I r q⟩
  have ht' : ∀ (s : Shared) (H : Hp) (C : Addr) (cs : List (Str × Addr)) (fp : List Addr), PTs (bX X scope s H C cs fp) ifs (fun σ H Q => ∃ σ0, tB (gx X cl) (Wp (own.map (·.2)) σ0) E00 c1 t σ H Q) := fun s H C cs fp =>
    ⟨fun pins s' σ H' Q I ⟨σ0, q⟩ => (ht s H C cs fp σ0 κ.blk).pts.run pins s' σ H' Q I q⟩
  have hk' : ∀ (s : Shared) (H : Hp) (C : Addr) (cs : List (Str × Addr)) (fp : List Addr), PE (bX X scope s H C cs fp) kx (fun σ H Q => ∃ σ0, tE (gx X cl) (Wp (own.map (·.2)) σ0) E00 c2 mk σ H Q) := fun s H C cs fp =>
    ⟨fun pins s' σ H' Q I ⟨σ0, q⟩ => (hk s H C cs fp σ0 κ.blk).pe.run pins s' σ H' Q I q⟩
  have he' : ∀ (s : Shared) (H : Hp) (C : Addr) (cs : List (Str × Addr)) (fp : List Addr), PE (bX X scope s H C cs fp) vx (fun σ H Q => ∃ σ0, tE (gx X cl) (Wp (own.map (·.2)) σ0) E00 c3 m σ H Q) := fun s H C cs fp =>
    ⟨fun pins s' σ H' Q I ⟨σ0, q⟩ => (he s H C cs fp σ0 κ.blk).pe.run pins s' σ H' Q I q⟩
  exact ⟨(ps_setDc κ.calm κ.nd hy hyl hsw hi.pi ok hg' ht' hk' he' hs).weak fun D σ H q => tE_dc (tE_mono (tS_asg (c := false) q) fun v H' z => tG_name hΦ z)⟩
end
end Z

end
section
set_option maxRecDepth 100000
/-! Z: tables read within places -/
namespace Z
open PySem PySem.Spec L2
open PyProof.Rows hiding St
section
variable {X : Cx} {cl : Nat → Addr} {Φ : St → Prop} {E : St → XK} {c : Bool} {k : Nat} {pos p pos2 : Pos} {e e2 : Expr}
theorem re_tabC {x : Str} {a : Addr} {t : List (Str × List Int)} {m m2 : M D} (hm : X.mg x = some (.ref a)) (hT : KTab X.K X.w a t) (h : RE X cl Φ E c e m) (h2 : RE X cl Φ E c e2 m2) (hg : Gl X x := by rfl)
    (hd : (x == ("__debug__" : Str)) = false := by decide) (hs : PlainIx e := by first | exact fun _ _ => rfl) (hs2 : PlainIx e2 := by first | exact fun _ _ => rfl) :
    RE X cl Φ E c (.Subscript (.Subscript (.Name x p) e pos) e2 pos2) (mTab t m m2) := by
  refine ⟨(pe_ix ix_tup (pe_ix ix_kdict (pe_glob (v := .ref a) hg hm rfl hd) h.pe hs) h2.pe hs2).weak fun σ H Q q => ?_⟩
  obtain ⟨F, N, R, ρ, y, q⟩ := q
  show tE (gx X cl) Φ E c m σ H _
  refine ⟨F, N, R, ρ, y, ?_⟩
  unfold mTab at q
  cases e1 : m ρ with
  | no => rw [e1] at q; exact q
  | ex k ρ' => rw [e1] at q; exact q
  | ok d ρ1 =>
    rw [e1] at q
    simp only [O.bind] at q
    intro v F1 N1 T1 H1 l1 k1 j1 r1 o1
    split at q
    · rename_i l hl
      cases d with
      | str s =>
        obtain ⟨rfl, rfl⟩ := o1
        obtain ⟨p0, kd, sq⟩ := hT s l hl
        refine ⟨a, s, .ref p0, rfl, rfl, kd, ?_⟩
        refine ⟨F1, N1, R, ρ1, ⟨emp_out j1, r1, y.2.2⟩, ?_⟩
        cases e3 : m2 ρ1 with
        | no => rw [e3] at q; exact q
        | ex k ρ' => rw [e3] at q; exact PX.le q l1
        | ok d2 ρ2 =>
          rw [e3] at q
          simp only at q
          intro v2 F2 N2 T2 H2 l2 k2 j2 r2 o2
          cases e4 : tabAt l d2 with
          | none => rw [e4] at q; exact q.elim
          | some z =>
            rw [e4] at q
            unfold tabAt at e4
            split at e4
            · rename_i i
              obtain ⟨rfl, rfl⟩ := o2
              cases e5 : atI l i with
              | none => rw [e5] at e4; cases e4
              | some n =>
                rw [e5] at e4
                cases e4
                exact ⟨p0, l.map V.int, i, .int n, rfl, rfl, sq H2, by rw [atI_map, e5]; rfl, q (.int n) F2 N2 emp H2 (l1.trans l2) (fun z => (k1 z).trans (k2 z)) j2 r2 ⟨rfl, rfl⟩⟩
            · cases e4
      | _ => cases hl
    · exact q.elim
end
end Z

end
section
set_option maxRecDepth 100000
/-! ZX: texts: enumerate, startswith, find -/
namespace Z
open PySem PySem.Spec L2
open PyProof.Rows hiding St
/-- the signs of a text, each with its number in a new pair -/
def IteS (x : Str) : It :=
  ⟨fun n _ => n < x.cps.size, fun n H v H' => ∃ T c, v = .ref T ∧ H T = none ∧ H' = upd H T (.tup [.int (n : Nat), .str ⟨#[c]⟩]) ∧ x.cps[n]? = some c, fun n _ => n = x.cps.size⟩
theorem turn_enumS {P : Program} {w : World} {K : PySem.W.Frag} {elts : List Expr} {kk : Nat} {tpos : Pos} (x : Str) (t : Tok) (e it : Addr) :
    Turn P w K (.Tuple elts kk tpos) (IteS x) [e, it] e (fun i h => (∃ old, IsEnum h e it ((i : Nat) : Int) old) ∧ h.IsStrIter it (strIterType x) x t i ∧ e ≠ it) where
  mem := by simp
  obj := fun i h st b hb => by
    obtain ⟨⟨old, he⟩, ⟨o, ho, hc, hd⟩, _⟩ := st
    rcases (show b = e ∨ b = it by simpa using hb) with z | z
    · rw [z]; exact ⟨_, he, fun v q => nomatch q⟩
    · rw [z]; exact ⟨o, ho, fun v q => by rw [hd] at q; cases q⟩
  keep := fun i h h' ⟨⟨old, he⟩, ⟨o, ho, r⟩, hne⟩ k => ⟨⟨old, k e (by simp) _ he⟩, ⟨o, k it (by simp) o ho, r⟩, hne⟩
  item := by
    intro X hP hw hK hc i pins s σ H E I hf st hg
    subst hP hw hK
    obtain ⟨⟨old, he⟩, hit, hne⟩ := st
    have le : e < s.heap.objs.size := Heap.lt_size he
    have li : it < s.heap.objs.size := by obtain ⟨_, q, _⟩ := hit; exact Heap.lt_size q
    refine wpAny_pyNext_enum_itemD (Draws.text (A := X.A.in1) (I.ok.hd hc) it x t) he hit hg hne (by simp [hne]) fun u2 h' tk hP ho st' hT hsz hk => ?_
    obtain ⟨c, u, hcx, rfl⟩ := hP
    refine ⟨_, rfl, wpAny_letOwnedTupleGo_enum (s := { s with heap := h', toks := tk + 1 }) ho fun h2 he' sb => ?_⟩
    have hT2 : h2.get? s.heap.objs.size = some { cls := .type "tuple", data := .seq #[.int i tk, .str ⟨#[c]⟩ u] } := (sb.2 _ (Nat.ne_of_gt le)).trans hT
    have new : ObjOk X.prog X.w (upd H s.heap.objs.size (.tup [.int (i : Nat), .str ⟨#[c]⟩])) h2 s.heap.objs.size (.tup [.int (i : Nat), .str ⟨#[c]⟩]) :=
      ⟨by show 2 ≤ sizeLine; decide, [.int i tk, .str ⟨#[c]⟩ u], .cons ⟨_, rfl⟩ (.cons ⟨_, rfl⟩ .nil), ⟨_, hT2, rfl, _, rfl⟩⟩
    have I1 : Inv X pins σ (upd H s.heap.objs.size (.tup [.int (i : Nat), .str ⟨#[c]⟩])) { s with heap := h2, toks := tk + 1 } :=
      I.turnedNew (ch := [e, it]) (fun b ob hb q => (sb.2 b (fun z => hb (by simp [z]))).trans (hk b ob (fun z => hb (by simp [z])) (fun z => hb (by simp [z])) q)) hf (Nat.le_refl _) new
    refine ⟨.ref s.heap.objs.size, _, I1, rfl, ⟨_, c, rfl, I.hok.fresh (Nat.le_refl _), rfl, hcx⟩, ⟨⟨.str ⟨#[c]⟩ u, ?_⟩, ?_, hne⟩, fun b hb => ?_⟩
    · rw [show ((i + 1 : Nat) : Int) = (i : Int) + 1 by omega]; exact he'
    · obtain ⟨o, ho2, r⟩ := st'
      exact ⟨o, (sb.2 it (Ne.symm hne)).trans ho2, r⟩
    · have lb : b < s.heap.objs.size := by
        rcases (show b = e ∨ b = it by simpa using hb) with z | z
        · rw [z]; exact le
        · rw [z]; exact li
      rw [upd_ne (Nat.ne_of_lt lb)]
      exact (hf b hb).1
  done := by
    intro X hP hw hK hc i pins s σ H E I hf st hg
    subst hP hw hK
    obtain ⟨⟨old, he⟩, hit, hne⟩ := st
    have hg : i = x.cps.size := hg
    subst hg
    obtain ⟨f0, f1, f2, f3, f4, f5⟩ := hf it (by simp)
    exact wpAny_pyNext_enum_endD (Draws.text (A := X.A.in1) (I.ok.hd hc) it x t) he hit fun h' eb => ⟨rfl, I.turned (t' := s.toks) (fun b ob hb q => eb b ob hb q) f0 f1 f3 f4 f5⟩
  self := fun A i s Q E st h => let ⟨⟨_, he⟩, _⟩ := st; wpAny_pyIter_enum he h
def iEnumS (te : TE) : TI := fun σ H R => te σ H fun v H1 => ∃ x, v = .str x ∧ R (IteS x) H1
theorem pi_enumS {X : Cx} {e : Expr} {ta : TA} {p pos tpos : Pos} {elts : List Expr} {kk : Nat} (hg : Gl X "enumerate") (hm : X.mg "enumerate" = none) (ha : PA X [e] ta) (hs : starEach [e] X.env = [(false, eval e X.env)] := by rfl) :
    PI X (.Tuple elts kk tpos) (.Call (.Name "enumerate" p) [e] [] pos) (fun σ H R => ta σ H fun vs H1 => ∃ x, vs = [.str x] ∧ R (IteS x) H1) := by
  refine ⟨fun pins s σ H R I h => ?_⟩
  refine Call_ (ld_blt I hg hm boot_enumerate (PyProof.Rows.callWith_type1 (thn (ha.run pos pins s σ H _ I h) fun us s1 ⟨vs, H1, I1, r1, x, ex, q⟩ => ?_) hs rfl))
  subst ex
  cases r1 with
  | cons r rr =>
    cases rr
    obtain ⟨t, rfl⟩ := r
    refine call_enumerate_str fun h' he hit hsz hk => wpAny_pyIter_enum he ?_
    have I2 : Inv X pins σ H1 { s1 with heap := h' } := I1.kept (t' := s1.toks) hk
    refine ⟨s1.heap.objs.size + 1, [s1.heap.objs.size + 1, s1.heap.objs.size], _, _, H1, rfl, I2, turn_enumS x t (s1.heap.objs.size + 1) s1.heap.objs.size, ⟨⟨.none, he⟩, hit, Nat.succ_ne_self _⟩, fun b hb => ?_, q⟩
    have hle : s1.heap.objs.size ≤ b := by
      rcases (show b = s1.heap.objs.size + 1 ∨ b = s1.heap.objs.size by simpa using hb) with z | z
      · rw [z]; exact Nat.le_add_right _ _
      · rw [z]; exact Nat.le_refl _
    exact I1.fpOk hle (I1.hok.fresh hle)
def signsD (x : Str) : List D := x.cps.toList.map fun c => .str ⟨#[c]⟩
def mEnumT (m : M (List D)) : M (List D × Bk) := fun ρ => (m ρ).bind fun ds ρ1 => match ds with
  | [.str x] => .ok (enumD 0 (signsD x), none) ρ1
  | _ => .no
section
variable {G : Gx} {Φ : St → Prop} {E : St → XK} {c : Bool} {σ : St} {H : Hp}
theorem feeds_enumS {F : Hp} (x : Str) : Feeds G F emp (IteS x) (enumD 0 (signsD x)) := by
  intro F' H' l l1 l2
  have hl : (signsD x).length = x.cps.size := by unfold signsD; simp
  refine ⟨by show (enumD 0 (signsD x)).length = _; rw [enumD_len, hl], fun i d e => ?_⟩
  rw [enumD_get, Nat.zero_add] at e
  cases hh : (signsD x)[i]? with
  | none => rw [hh] at e; cases e
  | some d0 =>
    rw [hh] at e
    cases e
    have hi : i < x.cps.size := by
      have := (List.getElem?_eq_some_iff.mp hh).1
      omega
    have hc0 : ∃ c, x.cps[i]? = some c ∧ d0 = .str ⟨#[c]⟩ := by
      unfold signsD at hh
      rw [List.getElem?_map] at hh
      cases hq : x.cps.toList[i]? with
      | none => rw [hq] at hh; cases hh
      | some c => rw [hq] at hh; cases hh; exact ⟨c, by simpa using hq, rfl⟩
    obtain ⟨c0, hc0, rfl⟩ := hc0
    refine ⟨hi, fun v H2 N R y j => ?_⟩
    obtain ⟨T1, c1, rfl, hT, rfl, y⟩ := y
    rw [hc0] at y
    cases y
    have j1 := j.alloc (o := .tup [.int ((i : Nat) : Int), .str ⟨#[c0]⟩]) hT
    exact ⟨F', _, Le.refl, j1.re [1, 2, 0, 3], own_pair ⟨rfl, rfl⟩ ⟨rfl, rfl⟩⟩
theorem tI_enumT {m : M (List D)} {Q : It → Hp → Prop} (h : tI G Φ E (mEnumT m) σ H Q) : tA G Φ E c m σ H fun vs H1 => ∃ x, vs = [.str x] ∧ Q (IteS x) H1 :=
  tI_ofA h fun ds vs F N T R ρ H1 j r o q => by
    split at q
    · rename_i x
      obtain ⟨v, w, M1, M2, rfl, jm, o1, rfl, rfl⟩ := o
      obtain ⟨rfl, rfl⟩ := o1
      have e := (J.emp_iff.mp (jm.re [1, 0])).eq1
      subst e
      have dd := dump1 j
      exact ⟨x, rfl, q _ _ N emp H1 dd.2.1 dd.1 (rel_le dd.2.1 r) (feeds_enumS x) trivial⟩
    · exact q.elim
end
section
variable {X : Cx} {cl : Nat → Addr} {Φ : St → Prop} {E : St → XK} {c : Bool} {k : Nat} {pos p apos tpos p2 : Pos} {e o : Expr}
theorem ri_enumT {elts : List Expr} {kk : Nat} {m : M (List D)} (h : RA X cl Φ E c [e] m) (hm : X.mg "enumerate" = none) (hg : Gl X "enumerate" := by rfl) (hs : starEach [e] X.env = [(false, eval e X.env)] := by rfl) :
    RI X cl Φ E (.Tuple elts kk tpos) (.Call (.Name "enumerate" p) [e] [] pos) (mEnumT m) := ⟨(pi_enumS hg hm h.pa hs).weak fun _ _ _ q => tI_enumT q⟩
end
/-! ### text methods with one text -/
def mTxt (f : Str → Str → D) (mo me : M D) : M D := fun ρ => (mo ρ).bind fun d ρ1 => match d with
  | .str a => (me ρ1).bind fun e ρ2 => match e with
    | .str b => .ok (f a b) ρ2
    | _ => .no
  | _ => .no
def fStarts (a b : Str) : D := .bl (Txt.startswith a b)
def fFindT (a b : Str) : D := .int (Txt.find a b)
section
variable {X : Cx} {cl : Nat → Addr} {Φ : St → Prop} {E : St → XK} {c1 c2 : Bool} {pos apos : Pos} {o e : Expr} {mo me : M D}
theorem tE_txt {r : V → List V → Hp → VK → Prop} {f : Str → Str → D} {G : Gx} {σ : St} {H : Hp} {Q : VK} (hf : ∀ (a b : Str) (H : Hp) (Q : VK), (∀ v, (∀ F, Own G F (f a b) v emp) → Q v H) → r (.str a) [.str b] H Q) (h : tE G Φ E (c1 && c2) (mTxt f mo me) σ H Q) :
    tM1 r (tE G Φ E c1 mo) (tE G Φ E c2 me) σ H Q := by
  obtain ⟨F, N, R, ρ, a, q⟩ := h
  refine ⟨F, N, R, ρ, a, ?_⟩
  unfold mTxt at q
  cases e : mo ρ with
  | no => rw [e] at q; exact q
  | ex k ρ' => rw [e] at q; exact q
  | ok d ρ1 =>
    rw [e] at q
    intro v F1 N1 T1 H1 l1 k1 j1 r1 o1
    simp only [O.bind] at q
    split at q
    · rename_i x
      have jt : J [T1, R] (un T1 R) := (j1.re [2, 3, 0, 1]).join.1
      refine ⟨⟨x, o1.1⟩, F1, N1, un T1 R, ρ1, ⟨j1.hide, r1, a.2.2⟩, ?_⟩
      cases e1 : me ρ1 with
      | no => rw [e1] at q; exact q
      | ex k ρ' => rw [e1] at q; exact PX.more q l1 jt
      | ok d2 ρ2 =>
        rw [e1] at q
        intro w F2 N2 T2 H2 l2 k2 j2 r2 o2
        simp only at q
        split at q
        · rename_i y
          have j3 : J [F2, N2, T1, T2, R] H2 := (J.unhide (ys := [T2]) jt (j2.re [0, 1, 3, 2])).re [0, 1, 2, 4, 3]
          obtain ⟨rfl, rfl⟩ := o1
          obtain ⟨rfl, rfl⟩ := o2
          exact hf x y H2 Q fun v2 o3 => q v2 F2 N2 emp H2 (l1.trans l2) (cAnd k1 k2) (J.emp_iff.mp (j3.re [2, 0, 1, 3, 4])) r2 (o3 F2)
        · exact q.elim
    · exact q.elim
theorem re_starts (ho : RE X cl Φ E c1 o mo) (he : RE X cl Φ E c2 e me) (hs : starEach [e] X.env = [(false, eval e X.env)] := by rfl) (hbase : attributeBase o "startswith" X.env (eval o X.env) = eval o X.env := by rfl) (hline : (apos.endLine == pos.line) = true := by rfl) :
    RE X cl Φ E (c1 && c2) (.Call (.Attribute o "startswith" apos) [e] [] pos) (mTxt fStarts mo me) :=
  ⟨(pe_m1 F.slot_str_startswith F.type_str_startswith mt_startswith ho.pe he.pe hs hbase hline).weak fun _ _ _ h => tE_txt (f := fStarts) (fun a b _ _ k => ⟨a, b, rfl, rfl, k _ fun _ => ⟨rfl, rfl⟩⟩) h⟩
theorem re_findT (ho : RE X cl Φ E c1 o mo) (he : RE X cl Φ E c2 e me) (hs : starEach [e] X.env = [(false, eval e X.env)] := by rfl) (hbase : attributeBase o "find" X.env (eval o X.env) = eval o X.env := by rfl) (hline : (apos.endLine == pos.line) = true := by rfl) :
    RE X cl Φ E (c1 && c2) (.Call (.Attribute o "find" apos) [e] [] pos) (mTxt fFindT mo me) :=
  ⟨(pe_m1 F.slot_str_find F.type_str_find mt_find ho.pe he.pe hs hbase hline).weak fun _ _ _ h => tE_txt (f := fFindT) (fun a b _ _ k => ⟨a, b, rfl, rfl, k _ fun _ => ⟨rfl, rfl⟩⟩) h⟩
end
end Z

end
section
set_option maxRecDepth 100000
/-! ZY: dicts whose keys are nested tuples of whole numbers, each worth True -/
namespace Z
open PySem PySem.Spec L2
open PyProof.Rows hiding St
mutual
/-- the value is the key -/
def NKV (H : Hp) : NestedKey → V → Prop
  | .num i, v => v = .int i
  | .tup ks, v => ∃ b vs, v = .ref b ∧ H b = some (.tup vs) ∧ NKVL H ks vs
  | .none, _ => False
  | .text _, _ => False
def NKVL (H : Hp) : List NestedKey → List V → Prop
  | [], vs => vs = []
  | k :: ks, vs => ∃ v r, vs = v :: r ∧ NKV H k v ∧ NKVL H ks r
end
mutual
theorem own_nk {G : Gx} {F H : Hp} (lF : Le F H) : ∀ {d : D} {v : V} {T : Hp} {k : NestedKey}, Own G F d v T → Le T H → nk d = some k → NKV H k v
  | .int i, v, T, k, o, _, h => by cases h; exact o.1
  | .tup ds, v, T, k, o, lT, h => by
    obtain ⟨a, vs, S, C, rfl, j, w, g⟩ := own_tupH o
    rw [nk] at h
    cases e : nkL ds with
    | none => rw [e] at h; cases h
    | some ks => rw [e] at h; cases h; exact ⟨a, vs, rfl, g H lF lT, ownL_nk lF w ((j_le j).2.trans lT) e⟩
  | .non, _, _, _, _, _, h => by cases h
  | .bl _, _, _, _, _, _, h => by cases h
  | .str _, _, _, _, _, _, h => by cases h
  | .lst _ _, _, _, _, _, _, h => by cases h
  | .out _, _, _, _, _, _, h => by cases h
  | .hole, _, _, _, _, _, h => by cases h
  | .dic _ _ _, _, _, _, _, _, h => by cases h
  | .dit _ _ _, _, _, _, _, _, h => by cases h
  | .dnk _ _, _, _, _, _, _, h => by cases h
  | .ins _ _ _ _, _, _, _, _, _, h => by cases h
theorem ownL_nk {G : Gx} {F H : Hp} (lF : Le F H) : ∀ {ds : List D} {vs : List V} {T : Hp} {ks : List NestedKey}, OwnL G F ds vs T → Le T H → nkL ds = some ks → NKVL H ks vs
  | [], vs, T, ks, o, _, h => by cases h; exact o.1
  | d :: ds, vs, T, ks, o, lT, h => by
    obtain ⟨v, r, M1, M2, rfl, j, o1, o2⟩ := o
    rw [nkL] at h
    cases e1 : nk d with
    | none => rw [e1] at h; cases h
    | some k =>
      rw [e1] at h
      cases e2 : nkL ds with
      | none => rw [e2] at h; cases h
      | some ks' => rw [e2] at h; cases h; exact ⟨v, r, rfl, own_nk lF o1 ((j.sub (by simp)).trans lT) e1, ownL_nk lF o2 ((j.sub (by simp)).trans lT) e2⟩
end
mutual
/-- the hash of whole numbers is the same in all worlds -/
theorem nk_hash (w w' : World) : ∀ {d : D} {k : NestedKey}, nk d = some k → k.hash w = k.hash w'
  | .int i, k, h => by cases h; rfl
  | .tup ds, k, h => by
    rw [nk] at h
    cases e : nkL ds with
    | none => rw [e] at h; cases h
    | some ks => rw [e] at h; cases h; simp only [NestedKey.hash]; rw [nkL_hash w w' e]
  | .non, _, h => by cases h
  | .bl _, _, h => by cases h
  | .str _, _, h => by cases h
  | .lst _ _, _, h => by cases h
  | .out _, _, h => by cases h
  | .hole, _, h => by cases h
  | .dic _ _ _, _, h => by cases h
  | .dit _ _ _, _, h => by cases h
  | .dnk _ _, _, h => by cases h
  | .ins _ _ _ _, _, h => by cases h
theorem nkL_hash (w w' : World) : ∀ {ds : List D} {ks : List NestedKey}, nkL ds = some ks → NestedKey.hashes w ks = NestedKey.hashes w' ks
  | [], ks, h => by cases h; rfl
  | d :: ds, ks, h => by
    rw [nkL] at h
    cases e1 : nk d with
    | none => rw [e1] at h; cases h
    | some k =>
      rw [e1] at h
      cases e2 : nkL ds with
      | none => rw [e2] at h; cases h
      | some ks' => rw [e2] at h; cases h; simp only [NestedKey.hashes]; rw [nk_hash w w' e1, nkL_hash w w' e2]
end
theorem nkL_get {ds : List D} {ks : List NestedKey} (h : nkL ds = some ks) : ∀ k ∈ ks, ∃ d ∈ ds, nk d = some k := by
  induction ds generalizing ks with
  | nil => cases h; intro k hk; cases hk
  | cons d ds ih =>
    rw [nkL] at h
    cases e1 : nk d with
    | none => rw [e1] at h; cases h
    | some k0 =>
      rw [e1] at h
      cases e2 : nkL ds with
      | none => rw [e2] at h; cases h
      | some ks' =>
        rw [e2] at h
        cases h
        intro k hk
        rcases List.mem_cons.mp hk with rfl | hk
        · exact ⟨d, by simp, e1⟩
        · obtain ⟨x, hx, e⟩ := ih e2 k hk
          exact ⟨x, by simp [hx], e⟩
theorem nkL_app {ds : List D} {ks : List NestedKey} {d : D} {k : NestedKey} (h : nkL ds = some ks) (hd : nk d = some k) : nkL (ds ++ [d]) = some (ks ++ [k]) := by
  induction ds generalizing ks with
  | nil => cases h; show (nk d).bind _ = _; rw [hd]; rfl
  | cons e ds ih =>
    rw [nkL] at h
    cases e1 : nk e with
    | none => rw [e1] at h; cases h
    | some k0 =>
      rw [e1] at h
      cases e2 : nkL ds with
      | none => rw [e2] at h; cases h
      | some ks' =>
        rw [e2] at h
        cases h
        rw [List.cons_append, nkL, e1]
        simp only [Option.bind_some]
        rw [ih e2]; rfl
theorem nkL_len {ds : List D} {ks : List NestedKey} (h : nkL ds = some ks) : ks.length = ds.length := by
  induction ds generalizing ks with
  | nil => cases h; rfl
  | cons e ds ih =>
    rw [nkL] at h
    cases e1 : nk e with
    | none => rw [e1] at h; cases h
    | some k0 =>
      rw [e1] at h
      cases e2 : nkL ds with
      | none => rw [e2] at h; cases h
      | some ks' => rw [e2] at h; cases h; simp [ih e2]
section
variable {X : Cx} {pins : List (Addr × Obj)} {σ : St} {H : Hp} {s : Shared}
mutual
theorem nkv_is (I : Inv X pins σ H s) : ∀ {k : NestedKey} {v : V} {u : Value}, NKV H k v → RelV v u → NestedIs s.heap k u
  | .num i, v, u, h, r => by
    have h : v = .int i := h
    subst h
    obtain ⟨t, rfl⟩ := r
    exact .int i t
  | .tup ks, v, u, h, r => by
    obtain ⟨b, vs, rfl, e, w⟩ := h
    obtain rfl : u = Value.ref b := r
    obtain ⟨z, its, rv, o, ho, hc, n, hd⟩ := I.hok b _ e
    exact .tup ho hc hd (by simpa using nkvL_is I w rv)
  | .none, _, _, h, _ => h.elim
  | .text _, _, _, h, _ => h.elim
theorem nkvL_is (I : Inv X pins σ H s) : ∀ {ks : List NestedKey} {vs : List V} {us : List Value}, NKVL H ks vs → Vals vs us → NestedAll s.heap ks us
  | [], vs, us, h, r => by
    have h : vs = [] := h
    subst h
    cases r
    exact .nil
  | k :: ks, vs, us, h, r => by
    obtain ⟨v, t, rfl, h1, h2⟩ := h
    cases r with
    | cons r1 r2 => exact .cons (nkv_is I h1 r1) (nkvL_is I h2 r2)
end
end
theorem nkvL_pair {H : Hp} : ∀ {ks : List NestedKey} {ps : List Addr}, NKVL H ks (ps.map V.ref) → ∀ x ∈ ks.zip ps, NKV H x.1 (.ref x.2)
  | [], _, _, x, hx => by simp at hx
  | k :: ks, [], h, x, hx => by simp at hx
  | k :: ks, p :: ps, h, x, hx => by
    obtain ⟨v, r, e, h1, h2⟩ := h
    cases e
    rw [List.zip_cons_cons] at hx
    rcases List.mem_cons.mp hx with rfl | hx
    · exact h1
    · exact nkvL_pair h2 x hx
theorem ndp_keep {ds : List D} {vs : List V} {a : Addr} (h1 h2 : Heap) (p : NDP ds vs a h1) (k : ∀ o, h1.get? a = some o → h2.get? a = some o) : NDP ds vs a h2 := by
  obtain ⟨ks, ps, o, es, ep, q0, q1, q2, q3, q⟩ := p
  exact ⟨ks, ps, o, es, ep, q0, q1, q2, k o q3, q⟩
theorem ndx_new {P : Program} {w : World} {H : Hp} {h : Heap} {ds : List D} {vs : List V} {a : Addr} (p : NDP ds vs a h) : ObjOk P w H h a (NDx ds vs a) := by
  have ⟨_, _, o, _, _, _, _, _, ho, _⟩ := p
  exact ⟨p, ⟨o, ho⟩, fun h1 h2 p k => ndp_keep h1 h2 p k⟩
theorem ndx_get {X : Cx} {pins : List (Addr × Obj)} {σ : St} {H : Hp} {s : Shared} {ds : List D} {vs : List V} {a : Addr} (I : Inv X pins σ H s) (ha : Rd H a (NDx ds vs a)) : NDP ds vs a s.heap := (ha.ok I.hok).1
def XS (ks : List NestedKey) (ps : List Addr) : List (NestedKey × Addr × Value) := (ks.zip ps).map fun x => (x.1, x.2, Value.bool true)
theorem xs_fst {ks : List NestedKey} {ps : List Addr} (h : ks.length = ps.length) : (XS ks ps).map (·.1) = ks := by
  unfold XS
  rw [List.map_map]
  exact List.map_fst_zip (by omega)
/-- o[i] = True -/
def rNSet : TSet := fun o i v H Q => ∃ (a b : Addr) (ds : List D) (vs : List V) (d : D) (k : NestedKey) (ks : List NestedKey), o = .ref a ∧ i = .ref b ∧ v = .bl true ∧ H a = some (NDx ds vs a) ∧ nk d = some k ∧ NKV H k (.ref b) ∧ nkL ds = some ks ∧ NKVL H ks vs ∧
  (∀ x ∈ ks, x.depth ≤ 8) ∧ k.depth ≤ 8 ∧ ds.length < sizeLine ∧ Q (upd H a (if k ∈ ks then NDx ds vs a else NDx (ds ++ [d]) (vs ++ [.ref b]) a))
theorem pset_n {X : Cx} (hu : X.A.units + 20 < cLine) : PSet X rNSet := by
  intro pins s σ H o i v ov iv u Q I ro ri rv h
  obtain ⟨a, b, ds, vs, d, k, ks, rfl, rfl, rfl, ha, hk, hkv, hks, hkl, hd8, hk8, hz, q⟩ := h
  obtain rfl : ov = Value.ref a := ro
  obtain rfl : iv = Value.ref b := ri
  obtain rfl : u = Value.bool true := rv
  have P := ndx_get I (.inl ha)
  obtain ⟨ks', ps, ob, es, ep, lo, e1, e2, ho, hx, hdat, hes, hnd, hl⟩ := P
  rw [hks] at e1
  cases e1
  subst e2
  have hxl : (XS ks ps).length = ds.length := by
    unfold XS
    rw [List.length_map, List.length_zip, ← hl, nkL_len hks]; omega
  have hm : s.heap.DictOfH (nestedKind X.prog X.w) a (XS ks ps) := by
    refine ⟨ob, es, ep, ho, hx, hdat, ?_, fun x hx' => ?_, by rw [xs_fst hl]; exact hnd⟩
    · rw [hes X.w]; unfold XS; rw [List.map_map]; rfl
    · unfold XS at hx'
      obtain ⟨y, hy, rfl⟩ := List.mem_map.mp hx'
      exact ⟨nkv_is I (nkvL_pair hkl y hy) rfl, hd8 _ (List.of_mem_zip hy).1⟩
  have hr1 : X.A.in1.units ≤ X.A.units + 1 := by first | exact Nat.le_refl _ | (simp; done) | (simp; omega)
  have hroom : (nestedKind X.prog X.w).room X.A.in1 := by
    show X.A.in1.units + 8 < cLine
    omega
  refine wpAny_setItem_heap (knd := nestedKind X.prog X.w) (k := k) hroom ⟨nkv_is I hkv rfl, hk8⟩ hm (fun h' hm' sb => ?_) (by rw [hxl]; omega)
  obtain ⟨ob', es', ep', ho', hx', hdat', hes', his', hnd'⟩ := hm'
  have hw : ∀ w : World, ∀ x ∈ ks ++ [k], NestedKey.hash w x = NestedKey.hash X.w x := fun w x hx => by
    rcases List.mem_append.mp hx with hx | hx
    · obtain ⟨y, _, e⟩ := nkL_get hks x hx
      exact nk_hash w X.w e
    · rw [List.mem_singleton.mp hx]; exact nk_hash w X.w hk
  refine ⟨_, I.write (e := a) (t' := s.toks + (nestedKind X.prog X.w).draws k) (by rw [ha]; trivial) (.inl rfl) (fun c u hc hu => (sb.2 c hc).trans hu) ⟨ob', ho'⟩ ?_, q⟩
  by_cases hin : k ∈ ks
  · rw [if_pos hin]
    refine ndx_new ⟨ks, ps, ob', es', ep', lo, hks, rfl, ho', hx', hdat', fun w => ?_, hnd, hl⟩
    have hst : storedH (XS ks ps) k b (Value.bool true) = XS ks ps := by
      obtain ⟨j, hj⟩ := List.getElem?_of_mem hin
      have hjl : j < ps.length := by rw [← hl]; exact (List.getElem?_eq_some_iff.mp hj).1
      have hx2 : (XS ks ps)[j]? = some (k, ps[j], Value.bool true) := by
        unfold XS
        have hz : (ks.zip ps)[j]? = some (k, ps[j]) := by
          rw [List.getElem?_zip_eq_some]
          exact ⟨hj, List.getElem?_eq_getElem hjl⟩
        rw [List.getElem?_map, hz]; rfl
      rw [storedH_old (atKey_of_get (by rw [xs_fst hl]; exact hnd) hx2)]
      unfold XS
      rw [List.map_map]
      refine List.map_congr_left fun x _ => ?_
      show putAt k (Value.bool true) (x.1, x.2, Value.bool true) = _
      unfold putAt
      split <;> rfl
    rw [hes', hst]
    unfold XS
    rw [List.map_map]
    refine List.map_congr_left fun x hx3 => ?_
    show DictEntry.mk (x.1.hash X.w) (.ref x.2) (.bool true) = _
    rw [hw w x.1 (List.mem_append_left _ (List.of_mem_zip hx3).1)]
  · rw [if_neg hin]
    have hnone : atKey (XS ks ps) k = none := atKey_none_of_get fun j p e => hin (by
      have : k ∈ (XS ks ps).map (·.1) := List.mem_map.mpr ⟨_, List.mem_of_getElem? e, rfl⟩
      rw [xs_fst hl] at this
      exact this)
    rw [storedH_new hnone] at hes'
    have hz2 : XS ks ps ++ [(k, b, Value.bool true)] = XS (ks ++ [k]) (ps ++ [b]) := by
      unfold XS
      rw [List.zip_append hl, List.map_append]; rfl
    rw [hz2] at hes'
    refine ndx_new ⟨ks ++ [k], ps ++ [b], ob', es', ep', lo, nkL_app hks hk, by rw [List.map_append]; rfl, ho', hx', hdat', fun w => ?_, ?_, by simp [hl]⟩
    · rw [hes']
      unfold XS
      rw [List.map_map]
      refine List.map_congr_left fun x hx3 => ?_
      show DictEntry.mk (x.1.hash X.w) (.ref x.2) (.bool true) = _
      rw [hw w x.1 (List.of_mem_zip hx3).1]
    · rw [List.nodup_append]
      exact ⟨hnd, by simp, fun x hx y hy => by rw [List.mem_singleton.mp hy]; intro e; exact hin (e ▸ hx)⟩
end Z
namespace Z
open PySem PySem.Spec L2
open PyProof.Rows hiding St
def isTupK : NestedKey → Bool
  | .tup _ => true
  | _ => false
/-- x[k] = True, x a name -/
def dSetN (j : Nat) (mi : M D) : D → M Unit := fun d ρ => match d with
  | .bl true => (match ρ[j]? with
    | some (.dnk true _) => (match mi ρ with
      | .ok e ρ1 => (match ρ1[j]? with
        | some (.dnk true ds) => (match nk e with
          | some k => (match nkL ds with
            | some ks => if ((ks.all fun x => decide (x.depth ≤ 8)) && (decide (k.depth ≤ 8) && (decide (ds.length < sizeLine) && isTupK k))) = true then .ok () (ρ1.set j (.dnk true (if k ∈ ks then ds else ds ++ [frz e]))) else .no
            | none => .no)
          | none => .no)
        | _ => .no)
      | _ => .no)
    | _ => .no)
  | _ => .no
mutual
theorem nk_frz : ∀ {d : D} {k : NestedKey}, nk d = some k → frz d = d
  | .int i, k, _ => rfl
  | .tup ds, k, h => by
    rw [nk] at h
    cases e : nkL ds with
    | none => rw [e] at h; cases h
    | some ks => rw [frz, nkL_frz e]
  | .non, _, _ => rfl
  | .bl _, _, _ => rfl
  | .str _, _, _ => rfl
  | .lst _ _, _, h => by cases h
  | .out _, _, h => by cases h
  | .hole, _, h => by cases h
  | .dic _ _ _, _, h => by cases h
  | .dit _ _ _, _, h => by cases h
  | .dnk _ _, _, h => by cases h
  | .ins _ _ _ _, _, h => by cases h
theorem nkL_frz : ∀ {ds : List D} {ks : List NestedKey}, nkL ds = some ks → frzL ds = ds
  | [], _, _ => rfl
  | d :: ds, ks, h => by
    rw [nkL] at h
    cases e1 : nk d with
    | none => rw [e1] at h; cases h
    | some k =>
      rw [e1] at h
      cases e2 : nkL ds with
      | none => rw [e2] at h; cases h
      | some ks' => rw [frzL, nk_frz e1, nkL_frz e2]
end
theorem own_dnkT {G : Gx} {F : Hp} {ds : List D} {v : V} {M : Hp} (o : Own G F (.dnk true ds) v M) : ∃ a vs, v = .ref a ∧ OwnL G F ds vs emp ∧ M = one a (NDx ds vs a) := by
  obtain ⟨a, vs, rfl, w, o⟩ := o
  rcases o with ⟨z, _⟩ | ⟨_, e⟩
  · cases z
  · exact ⟨a, vs, rfl, w, e⟩
section
variable {X : Cx} {cl : Nat → Addr} {Φ : St → Prop} {E : St → XK} {c : Bool} {k : Nat} {pos p apos p2 : Pos} {e o i : Expr} {es : List Expr} {x : Str}
theorem rg_setN {j : Nat} {mi : M D} (κ : Kx X E k) (hp : PE X (.Name x p2) (tVar j)) (hi : RE X cl Φ E c i mi)
    (ha : ∀ v, assign (.Subscript (.Name x p2) i pos) X.env v = (do
      let ov ← holding [v] (eval (.Name x p2) X.env)
      let iv ← holding [v, ov] (eval i X.env)
      standAt pos
      holding [v, ov, iv] (setItem ov iv v)
      release [v, ov, iv] []) := by intro _; rfl) : RG X cl Φ (.Subscript (.Name x p2) i pos) (dSetN j mi) := by
  have hu : X.A.units + 20 < cLine := by have := κ.room.un; omega
  refine ⟨(pg_sub hp hi.pe.kf (pset_n hu) ha).weak fun v σ H Q ⟨F, N, T, R, ρ, d, j0, r, f, ow, q⟩ => ?_⟩
  unfold dSetN at q
  split at q
  · obtain ⟨rfl, rfl⟩ := ow
    split at q
    · rename_i ds0 e0
      obtain ⟨ov0, M10, Mr0, e10, jj0, w0, kk0⟩ := rel_at r e0
      obtain ⟨va, rfl, w10⟩ := ownO_of w0 (by simp)
      have j1 : J [F, N, R] H := J.emp_iff.mp (j0.re [2, 0, 1, 3])
      refine ⟨va, e10, F, N, R, ρ, ⟨j1, r, f⟩, ?_⟩
      cases e2 : mi ρ with
      | no => rw [e2] at q; exact q.elim
      | ex k ρ' => rw [e2] at q; exact q.elim
      | ok di ρ2 =>
        rw [e2] at q
        intro u F2 N2 T2 H2 l2 k2 j2 r2 o2 kf
        simp only at q
        split at q
        · rename_i ds e3
          split at q
          · rename_i kk hk
            split at q
            · rename_i ks hks
              split at q
              · rename_i hcc
                simp only [Bool.and_eq_true, decide_eq_true_eq, List.all_eq_true] at hcc
                obtain ⟨ov, M1, Mr, e1, jj, w, kp⟩ := rel_at r2 e3
                obtain ⟨vb, rfl, w1⟩ := ownO_of w (by simp)
                have hvv : va = vb := by rw [e10] at e1; cases e1; rfl
                subst hvv
                obtain ⟨a, vs, rfl, wl, rfl⟩ := own_dnkT w1
                have j3 : J [one a (NDx ds vs a), Mr, F2, T2, R] H2 := J.nest (xs := [F2, T2, R]) jj (j2.re [1, 0, 2, 3])
                have hF2 : Le F2 H2 := j2.le
                have hT2 : Le T2 H2 := j2.sub (by simp)
                have hkv := own_nk hF2 o2 hT2 hk
                have hkl := ownL_nk hF2 wl (fun _ _ e => nomatch e) hks
                obtain ⟨b, rfl⟩ : ∃ b, u = .ref b := by
                  cases kk with
                  | tup kks => obtain ⟨b, _, e, _⟩ := hkv; exact ⟨b, e⟩
                  | none => exact hkv.elim
                  | text _ => exact hkv.elim
                  | num _ => cases hcc.2.2.2
                refine ⟨a, b, ds, vs, di, kk, ks, rfl, rfl, rfl, j3.at, hk, hkv, hks, hkl, hcc.1, hcc.2.1, hcc.2.2.1, ?_⟩
                have j4 := (j3.re [2, 0, 3, 1, 4]).give
                have own2 : ∃ ds' vs', (if kk ∈ ks then ds else ds ++ [frz di]) = ds' ∧ (if kk ∈ ks then NDx ds vs a else NDx (ds ++ [di]) (vs ++ [.ref b]) a) = NDx ds' vs' a ∧ OwnL (gx X cl) (un F2 T2) ds' vs' emp := by
                  by_cases hin : kk ∈ ks
                  · exact ⟨ds, vs, if_pos hin, if_pos hin, ownL_le j4.2.1 wl⟩
                  · refine ⟨ds ++ [di], vs ++ [.ref b], by rw [if_neg hin, nk_frz hk], if_neg hin, ?_⟩
                    have od := own_frz o2 j4.2.1 j4.2.2
                    rw [nk_frz hk] at od
                    exact ownL_app (ownL_le j4.2.1 wl) ⟨.ref b, [], emp, emp, rfl, J.emps, od, ⟨rfl, rfl⟩⟩ J.emps
                obtain ⟨ds', vs', ed, en, ow'⟩ := own2
                rw [en]
                rw [ed] at q
                have j5 := (j4.1.re [1, 0, 2, 3]).write (o' := NDx ds' vs' a)
                obtain ⟨je, jf⟩ := (j5.re [0, 2, 1, 3]).join
                have r3 := kp _ (.dnk true ds') (some (.ref a)) _ _ j4.2.1 (.inr ⟨.ref a, rfl, a, vs', rfl, ow', .inr ⟨rfl, rfl⟩⟩) je
                rw [set_self e1] at r3
                exact q _ _ _ σ (l2.trans j4.2.1) ⟨jf.re [1, 0, 2], r3, f⟩
              · exact q.elim
            · exact q.elim
          · exact q.elim
        · exact q.elim
    · exact q.elim
  · exact q.elim
end
end Z

end
section
set_option maxRecDepth 100000
/-! ZYb: {} and sorted(d) for such dicts -/
namespace Z
open PySem PySem.Spec L2
open PyProof.Rows hiding St
section
variable {X : Cx} {pos : Pos}
def tDNewN : TE := fun _ H Q => ∀ p, H p = none → Q (.ref p) (upd H p (NDx [] [] p))
theorem ndp_empty (h : Heap) (hb : sysModules < h.objs.size) : NDP [] [] h.objs.size (h.push { cls := .type "dict", data := .dict #[] }) :=
  ⟨[], [], _, #[], 0, beq_eq_false_iff_ne.mpr (Ne.symm (Nat.ne_of_lt hb)), rfl, rfl, Heap.get?_push_size _ rfl, ⟨rfl, rfl, rfl⟩, rfl, fun _ => rfl, List.nodup_nil, rfl⟩
theorem pe_dnewN : PE X (.Dict [] [] pos) tDNewN := ⟨fun pins s σ H Q I h =>
  wpAny_Dict_empty ⟨.ref s.heap.objs.size, _, I.laid (a := s.heap.objs.size) (o := NDx [] [] s.heap.objs.size) (t' := s.toks) (fun _ _ q => Heap.get?_push_of_some _ q) (Nat.le_refl _) (ndx_new (ndp_empty s.heap I.big)), rfl, h _ (I.hok.fresh (Nat.le_refl _))⟩⟩
variable {cl : Nat → Addr} {Φ : St → Prop} {E : St → XK} {c : Bool}
theorem re_emptyN : RE X cl Φ E c (.Dict [] [] pos) (mK (.dnk true [])) := by
  refine ⟨pe_dnewN.weak fun σ H Q ⟨F, N, R, ρ, a, q⟩ p hp => ?_⟩
  have j := (a.1.alloc (o := NDx [] [] p) hp).re [1, 2, 0, 3]
  exact q (.ref p) F N _ _ Le.refl (fun _ b o e => by rw [upd_ne (fun z => by rw [z, hp] at e; cases e)]; exact e) j a.2.1 ⟨p, [], rfl, ⟨rfl, rfl⟩, .inr ⟨rfl, rfl⟩⟩
end
section
variable {X : Cx} {pins : List (Addr × Obj)} {σ : St} {H : Hp} {s : Shared}
mutual
theorem nkv_reads (I : Inv X pins σ H s) : ∀ {k : NestedKey} {v : V} {u : Value}, NKV H k v → RelV v u → Reads s.heap u k.data []
  | .num i, v, u, h, r => by
    have h : v = .int i := h
    subst h
    obtain ⟨t, rfl⟩ := r
    exact .int i t
  | .tup ks, v, u, h, r => by
    obtain ⟨b, vs, rfl, e, w⟩ := h
    obtain rfl : u = Value.ref b := r
    obtain ⟨z, its, rv, o, ho, hc, n, hd⟩ := I.hok b _ e
    exact .tuple ho hc hd (by simpa using nkvL_reads I w rv)
  | .none, _, _, h, _ => h.elim
  | .text _, _, _, h, _ => h.elim
theorem nkvL_reads (I : Inv X pins σ H s) : ∀ {ks : List NestedKey} {vs : List V} {us : List Value}, NKVL H ks vs → Vals vs us → ReadsAll s.heap us (NestedKey.datas ks) []
  | [], vs, us, h, r => by
    have h : vs = [] := h
    subst h
    cases r
    exact .nil
  | k :: ks, vs, us, h, r => by
    obtain ⟨v, t, rfl, h1, h2⟩ := h
    cases r with
    | cons r1 r2 => exact .cons (nkv_reads I h1 r1) (nkvL_reads I h2 r2)
end
end
def leN {β : Type} : NestedKey × β → NestedKey × β → Bool := PySem.W.dataLe false fun x => x.1.data
/-- what sorting wants of the keys -/
def okN (ks : List NestedKey) : Bool := (ks.all fun x => ks.all fun y => PySem.W.alike x.data y.data) && (ks.all fun x => match x with
  | .tup (_ :: _) => true
  | _ => false) && (ks.all fun x => decide (x.data.depth ≤ 32))
theorem okN_ok {ks : List NestedKey} (h : okN ks = true) : PySem.W.AllAlike (ks.map NestedKey.data) ∧ PySem.W.Sortable (ks.map NestedKey.data) ∧ ∀ k ∈ ks, k.data.depth ≤ 32 := by
  unfold okN at h
  simp only [Bool.and_eq_true, List.all_eq_true, decide_eq_true_eq] at h
  obtain ⟨⟨h1, h2⟩, h3⟩ := h
  refine ⟨fun d hd d' hd' => ?_, .inl fun d hd => ?_, h3⟩
  · obtain ⟨x, hx, rfl⟩ := List.mem_map.mp hd
    obtain ⟨y, hy, rfl⟩ := List.mem_map.mp hd'
    exact h1 x hx y hy
  · obtain ⟨x, hx, rfl⟩ := List.mem_map.mp hd
    have := h2 x hx
    cases x with
    | tup ks =>
      cases ks with
      | nil => cases this
      | cons k ks => exact ⟨_, _, rfl⟩
    | none => cases this
    | num _ => cases this
    | text _ => cases this
def rSortN : List V → Hp → VK → Prop := fun xs H Q => ∃ (a : Addr) (ds : List D) (vs : List V) (ks : List NestedKey), xs = [.ref a] ∧ Rd H a (NDx ds vs a) ∧ nkL ds = some ks ∧ NKVL H ks vs ∧ okN ks = true ∧ ds.length ≤ sizeLine ∧
  ∀ p, H p = none → Q (.ref p) (upd H p (.lst (((ks.zip vs).mergeSort leN).map (·.2))))
theorem each_zip {X : Cx} {pins : List (Addr × Obj)} {σ : St} {H : Hp} {s : Shared} (I : Inv X pins σ H s) : ∀ {ks : List NestedKey} {vs : List V} {us : List Value}, NKVL H ks vs → Vals vs us →
    PySem.W.EachIs (fun (u : Value) (b : NestedKey × V) => RelV b.2 u) us (ks.zip vs) ∧ PySem.W.EachIs (fun (u : Value) (b : NestedKey × V) => Reads s.heap u b.1.data []) us (ks.zip vs)
  | [], vs, us, h, r => by
    have h : vs = [] := h
    subst h
    cases r
    exact ⟨.nil, .nil⟩
  | k :: ks, vs, us, h, r => by
    obtain ⟨v, t, rfl, h1, h2⟩ := h
    cases r with
    | cons r1 r2 =>
      obtain ⟨e1, e2⟩ := each_zip I h2 r2
      exact ⟨.cons r1 e1, .cons (nkv_reads I h1 r1) e2⟩
theorem each_vals : ∀ {us : List Value} {bs : List (NestedKey × V)}, PySem.W.EachIs (fun (u : Value) (b : NestedKey × V) => RelV b.2 u) us bs → Vals (bs.map (·.2)) us
  | _, _, .nil => .nil
  | _, _, .cons h t => .cons h (each_vals t)
theorem nkvL_len {H : Hp} : ∀ {ks : List NestedKey} {vs : List V}, NKVL H ks vs → ks.length = vs.length
  | [], vs, h => by
    have h : vs = [] := h
    subst h; rfl
  | k :: ks, vs, h => by
    obtain ⟨v, t, rfl, h1, h2⟩ := h
    simp [nkvL_len h2]
theorem call_sortedN {X : Cx} (hcalm : X.calm = true) (hu : X.A.units + 100 < cLine) : CallR X (.builtin "sorted") rSortN := by
  intro pins s σ H xs us Q I r q
  obtain ⟨a, ds, vs, ks, ex, hd, hks, hkl, hok, hlen, q⟩ := q
  subst ex
  obtain ⟨u, eu, rx⟩ := vals1 r
  subst eu
  cases rx
  obtain ⟨hal, hsk, hdep⟩ := okN_ok hok
  obtain ⟨ks', ps, o, es, ep, lo, e1, e2, ho, hx, hdat, hes, hnd, hl⟩ := ndx_get I hd
  rw [hks] at e1
  cases e1
  subst e2
  have hes := hes X.w
  have hsz : es.size = ds.length := by
    rw [← Array.length_toList, hes, List.length_map, List.length_zip, ← hl, Nat.min_self, nkL_len hks]
  refine Calls.call_function_entry PyProof.Rows.kind_sorted PyProof.Rows.plain_sorted PyProof.Rows.entry_sorted (PyProof.Rows.args_sorted1 _) ?_
  unfold Builtin.«sorted»
  refine wpAny_bind (m := checkCount "sorted" 1 1 _) (wpAny_pure ?_)
  refine wpAny_bind (PySem.W.kdu_collect (A := X.A.in1) (kdl_raw (prog := X.prog) (w := X.w) lo hx hdat) (I.ok.hd hcalm) ho (by rw [hsz]; exact hlen) fun h' tk acc hk hacc => ?_)
  have hpl : ps.length = ds.length := by rw [← hl, nkL_len hks]
  have hal' : acc.toList.length = ps.length := by rw [Array.length_toList, hacc.1, hsz, hpl]
  have hv : acc.toList = ps.map Value.ref := by
    refine List.ext_getElem (by rw [hal', List.length_map]) fun j h1 h2 => ?_
    obtain ⟨en, f1, f2⟩ := hacc.2 j acc.toList[j] (by rw [← Array.getElem?_toList]; exact List.getElem?_eq_getElem h1)
    rw [f2, List.getElem_map]
    have f3 : es.toList[j]? = some en := by rw [Array.getElem?_toList]; exact f1
    rw [hes, List.getElem?_map] at f3
    have hjp : j < ps.length := by rw [List.length_map] at h2; exact h2
    have f4 : (ks.zip ps)[j]? = some (ks[j]'(by rw [hl]; exact hjp), ps[j]) := by
      rw [List.getElem?_zip_eq_some]
      exact ⟨List.getElem?_eq_getElem (by rw [hl]; exact hjp), List.getElem?_eq_getElem hjp⟩
    rw [f4] at f3
    cases f3
    rfl
  have I1 : Inv X pins σ H { s with heap := h', toks := tk } := I.kept hk
  have hvals : Vals (ps.map V.ref) acc.toList := by rw [hv]; exact vals_refs ps
  refine wpAny_bind (wpAny_newList ?_ (by rw [hal', hpl]; exact hlen))
  have hoL : (h'.push (seqObj "list" acc.toList.toArray 0)).get? h'.objs.size = some (seqObj "list" acc.toList.toArray 0) := Heap.get?_push_size _ rfl
  show wpAny _ _ _ _ _ { s with heap := h'.push (seqObj "list" acc.toList.toArray 0), toks := tk }
  have I2 : Inv X pins σ H { s with heap := h'.push (seqObj "list" acc.toList.toArray 0), toks := tk } := I1.kept (t' := tk) fun b u e => Heap.get?_push_of_some _ e
  obtain ⟨z1, z2⟩ := each_zip I2 hkl hvals
  have hbm : (ks.zip (ps.map V.ref)).map (fun b => b.1.data) = ks.map NestedKey.data := by
    have : (ks.zip (ps.map V.ref)).map (·.1) = ks := List.map_fst_zip (by rw [List.length_map]; omega)
    conv => rhs; rw [← this]
    rw [List.map_map]; rfl
  have hbl : (ks.zip (ps.map V.ref)).length = ds.length := by rw [List.length_zip, List.length_map, ← hl, Nat.min_self, nkL_len hks]
  refine wpAny_bind (wpAny_holding (PySem.W.list_sort_data (enc := fun b : NestedKey × V => b.1.data) (R := fun (u : Value) (b : NestedKey × V) => RelV b.2 u) (bs := ks.zip (ps.map V.ref)) hoL z1 (z2.mono fun _ _ r => ⟨[], r, by simp⟩) (by rw [hbm]; exact hal) (by rw [hbm]; exact hsk) (by rw [hbl]; exact hlen)
    (fun b hb => by
      have := hdep b.1 (List.of_mem_zip hb).1
      have hr1 : X.A.in1.units ≤ X.A.units + 1 := by first | exact Nat.le_refl _ | (simp; done) | (simp; omega)
      omega) fun out hol he => ?_))
  obtain ⟨e', he'⟩ := PyProof.Rows.sortedHeap_at (vs := acc.toList) (out := out.toArray) hoL
  have hvo : Vals (((ks.zip (ps.map V.ref)).mergeSort leN).map (·.2)) out := each_vals he
  refine wpAny_pure ⟨_, rfl, .ref h'.objs.size, upd H h'.objs.size (.lst (((ks.zip (ps.map V.ref)).mergeSort leN).map (·.2))), I1.laid (t' := tk) (fun b u e => ?_) (Nat.le_refl _)
    (show ObjOk X.prog X.w _ _ _ (.lst _) from ⟨by rw [List.length_map, List.length_mergeSort, hbl]; exact hlen, out, e', hvo, he'⟩), rfl, q _ (I1.hok.fresh (Nat.le_refl _))⟩
  have hb : b < h'.objs.size := Heap.lt_size e
  rw [PyProof.Rows.sortedHeap_old (Nat.ne_of_lt hb) (by rw [size_push']; exact Nat.lt_succ_of_lt hb)]
  exact Heap.get?_push_of_some _ e
def fSortN : List D → Option D := fun as => match as with
  | [.dnk _ ds] => (nkL ds).bind fun ks => if (okN ks && decide (ds.length ≤ sizeLine)) = true then some (.lst true (((ks.zip ds).mergeSort leN).map (·.2))) else none
  | _ => none
theorem own_dnk {G : Gx} {F H : Hp} {o : Bool} {ds : List D} {v : V} {T : Hp} (h : Own G F (.dnk o ds) v T) (lF : Le F H) (lT : Le T H) : ∃ a vs, v = .ref a ∧ OwnL G F ds vs emp ∧ Rd H a (NDx ds vs a) := by
  obtain ⟨a, vs, rfl, w, h⟩ := h
  rcases h with ⟨_, _, r⟩ | ⟨_, e⟩
  · exact ⟨a, vs, rfl, w, Rd.le r lF⟩
  · exact ⟨a, vs, rfl, w, .inl (lT _ _ (by rw [e]; exact one_same))⟩
theorem ownL_each {G : Gx} {F : Hp} : ∀ {ds : List D} {vs : List V}, OwnL G F ds vs emp → ∀ x ∈ ds.zip vs, Own G F x.1 x.2 emp
  | [], _, _, x, hx => by simp at hx
  | d :: ds, vs, h, x, hx => by
    obtain ⟨v, r, M1, M2, rfl, j, h1, h2⟩ := h
    obtain ⟨z1, z2⟩ := j_emp2 j
    subst z1; subst z2
    rw [List.zip_cons_cons] at hx
    rcases List.mem_cons.mp hx with rfl | hx
    · exact h1
    · exact ownL_each h2 x hx
theorem each_ownL {G : Gx} {F : Hp} : ∀ (l : List (D × V)), (∀ x ∈ l, Own G F x.1 x.2 emp) → OwnL G F (l.map (·.1)) (l.map (·.2)) emp
  | [], _ => ⟨rfl, rfl⟩
  | x :: l, h => ⟨x.2, l.map (·.2), emp, emp, rfl, J.emps, h x (by simp), each_ownL l fun y hy => h y (by simp [hy])⟩
/-- both lists, sorted by the keys alike -/
theorem sort_own {G : Gx} {F : Hp} {ks : List NestedKey} {ds : List D} {vs : List V} (h1 : ks.length = ds.length) (w : OwnL G F ds vs emp) :
    OwnL G F (((ks.zip ds).mergeSort leN).map (·.2)) (((ks.zip vs).mergeSort leN).map (·.2)) emp := by
  have hl : ds.length = vs.length := (ownL_len w).symm
  let L := (ks.zip (ds.zip vs)).mergeSort leN
  have e1 : (ks.zip ds).mergeSort leN = L.map fun x => (x.1, x.2.1) := by
    have q : (ks.zip (ds.zip vs)).map (fun x => (x.1, x.2.1)) = ks.zip ds := by
      rw [show (fun x : NestedKey × D × V => (x.1, x.2.1)) = Prod.map id Prod.fst from rfl, ← List.zip_map_right]
      rw [List.map_fst_zip (by omega)]
    rw [← q]
    exact (List.map_mergeSort (r := leN) (s := leN) (f := fun x : NestedKey × D × V => (x.1, x.2.1)) fun a _ b _ => rfl).symm
  have e2 : (ks.zip vs).mergeSort leN = L.map fun x => (x.1, x.2.2) := by
    have q : (ks.zip (ds.zip vs)).map (fun x => (x.1, x.2.2)) = ks.zip vs := by
      rw [show (fun x : NestedKey × D × V => (x.1, x.2.2)) = Prod.map id Prod.snd from rfl, ← List.zip_map_right]
      rw [List.map_snd_zip (by omega)]
    rw [← q]
    exact (List.map_mergeSort (r := leN) (s := leN) (f := fun x : NestedKey × D × V => (x.1, x.2.2)) fun a _ b _ => rfl).symm
  rw [e1, e2, List.map_map, List.map_map]
  have := each_ownL (G := G) (F := F) (L.map (·.2)) fun x hx => by
    obtain ⟨y, hy, rfl⟩ := List.mem_map.mp hx
    have hy' : y ∈ ks.zip (ds.zip vs) := (List.mergeSort_perm _ _).mem_iff.mp hy
    exact ownL_each w y.2 (List.of_mem_zip hy').2
  rw [List.map_map, List.map_map] at this
  exact this
theorem fn_sortN {G : Gx} : FN G rSortN fSortN := by
  intro F N T R H xs ds z Q j o hz k
  unfold fSortN at hz
  split at hz
  · rename_i ob es
    cases hk : nkL es with
    | none => rw [hk] at hz; cases hz
    | some ks =>
      rw [hk] at hz
      simp only [Option.bind] at hz
      split at hz
      · rename_i hc
        rw [Bool.and_eq_true, decide_eq_true_eq] at hc
        cases hz
        obtain ⟨v, r, M1, M2, rfl, jm, o1, rfl, rfl⟩ := o
        have e := (J.emp_iff.mp (jm.re [1, 0])).eq1
        subst e
        obtain ⟨a, vs, rfl, w, rd⟩ := own_dnk o1 j.le (j.sub (by simp))
        have dd := dump1 j
        refine ⟨a, es, vs, ks, rfl, rd, hk, ownL_nk j.le w (fun _ _ e => nomatch e) hk, hc.1, hc.2, fun p hn => ?_⟩
        exact new_lst dd.1 (sort_own (nkL_len hk) (ownL_le dd.2.1 w)) (fun v F' T' H' l => k v F' T' H' (dd.2.1.trans l)) p hn
      · cases hz
  · cases hz
section
variable {X : Cx} {cl : Nat → Addr} {Φ : St → Prop} {E : St → XK} {c : Bool} {k : Nat} {pos p : Pos} {e : Expr}
theorem re_sortN {m : M (List D)} (κ : Kx X E k) (h : RA X cl Φ E c [e] m) (hm : X.mg "sorted" = none) (hg : Gl X "sorted" := by rfl) (he : starEach [e] X.env = (false, eval e X.env) :: starEach [] X.env := by rfl) (hpl : (backTo pos (starEach [] X.env)).any (·.1) = false := by rfl) :
    RE X cl Φ E c (.Call (.Name "sorted" p) [e] [] pos) (mFun fSortN m) := re_blt (call_sortedN κ.calm (by have := κ.room.un; omega)) fn_sortN hm (by decide +kernel) h hg (by decide) (by decide) he hpl
end
end Z

end
section
set_option maxRecDepth 100000
/-! ZZ: sorted(set(xs)) of a list of numbers, xs.count(n) -/
namespace Z
open PySem PySem.Spec L2
open PyProof.Rows hiding St
abbrev newS (w : World) : Obj := { cls := .type "set", dict := none, data := .set #[] 0 (.fresh 0 0 (!w.params.followText "set-order")) }
section
variable {P : Program} {w : World} {A : Around} {E : Value → Shared → Prop} {s : Shared}
set_option maxHeartbeats 6400000 in
theorem call_set_lstI {l : Addr} {xs : Array Value} (ns : List Int) {Q : Value → Shared → Prop} (h0 : A.handled = none) (hL : s.heap.IsList l xs) (hI : IntsAre xs.toList ns) (hB : ns.length + 1 < scanBound)
    (h : ∀ (h' : Heap) (tk c : Nat), SetR w h' s.heap.objs.size (fun j => decide (j ∈ ns)) c → c ≤ ns.length → (∀ b o, s.heap.get? b = some o → h'.get? b = some o) → Q (.ref s.heap.objs.size) { s with heap := h', toks := tk }) :
    wpAny (model P w) A (call (.type "set") [.ref l]) Q E s := by
  have zz : xs.size = ns.length := by
    have q := IntsAre.length hI
    rw [Array.length_toList] at q
    exact q
  obtain ⟨_, _, k4⟩ := F.called_set.mro
  have k5 := F.called_set.made
  have k6 := F.called_set.sub
  refine wpAny_call (codeAny_of_tree ?_)
  show wpAny _ _ (callAny (.type "set") _) _ _ _
  refine wpAny_pure ⟨Code.quiet_builtin _ (by decide +kernel), codeAny_builtin F.entry_type_call ?_⟩
  rw [Around.under_plain (weight_type_call_type "set" [.ref l] []) rfl]
  have k1 := F.called_set.notType
  have k2 := F.called_set.canCreate
  have k3 := F.typeCall_set_1 (.ref l)
  repeat (any_goals (first | assumption | wp_step))

  refine codeAny_mono (code_set_led1 (.ref l) (E := E) (Q₁ := fun nw s₁ => nw = .ref s.heap.objs.size ∧ s₁ = { s with heap := s.heap.push (newS w) }) ⟨rfl, rfl⟩) fun r s₁ y1 => ?_
  cases r with
  | error e => exact y1
  | ok fl =>
    cases fl with
    | ret nw =>
      obtain ⟨rfl, rfl⟩ := y1
      have gS : (s.heap.push (newS w)).get? s.heap.objs.size = some (newS w) := Heap.get?_push_size _ rfl
      have gT : Shared.TypeIs { s with heap := s.heap.push (newS w) } (.ref s.heap.objs.size) "set" := ⟨_, gS, rfl⟩
      have gl := F.called_set.init.lookup
      have gb := F.called_set.init.bind (.ref s.heap.objs.size)
      repeat (any_goals (first | assumption | wp_step))

      refine codeAny_mono (codeAny_call_builtin (R := wants (fun r s₂ => r = .none ∧ ∃ h' tk c, s₂ = { s with heap := h', toks := tk } ∧ SetR w h' s.heap.objs.size (fun j => decide (j ∈ ns)) c ∧ c ≤ ns.length ∧
          (∀ b o, s.heap.get? b = some o → h'.get? b = some o)) E) F.called_set.init.plain F.entry_set_init (check_set_init_1 gT ?_)) fun r₂ s₂ y2 => ?_
      · obtain ⟨ob, gol, gcl, nb, gdl⟩ := hL
        obtain ⟨oC, oD, oE, oS⟩ := ob
        simp only at gcl gdl
        subst gcl; subst gdl
        have hol' : (s.heap.push (newS w)).get? l = some { cls := .type "list", dict := oD, data := .seq xs nb, slots := oS } := Heap.get?_push_of_some _ gol
        have k7 := F.sub_list_set
        have k8 := F.sub_list_frozenset
        have k9 : (Value.type "list" == Value.type "dict") = false := by decide
        have gL : (s.heap.push (newS w)).IsList l xs := ⟨_, hol', rfl, nb, rfl⟩
        unfold Builtin.«set.__init__» noKeywords Builtin.Frozenset.updateFrom
        generalize hq : pyIter = pq
        wp_walk
        subst hq

        refine wpAny_pyIter_list gL ?_
        refine wpAny_bind (wpAny_runValue ?_)
        have m1 : l < s.heap.objs.size := Heap.lt_size gol
        have m2 : A.in1.in1.in1.handled = none := by simp [h0]
        have m6 : (s.heap.push (newS w)).objs.size = s.heap.objs.size + 1 := Heap.size_push ..
        have m3 : l ≠ (s.heap.push (newS w)).objs.size := by
          rw [Heap.size_push]; exact Nat.ne_of_lt (Nat.lt_succ_of_lt m1)
        have m4 : s.heap.objs.size ∉ [(s.heap.push (newS w)).objs.size, l] := by
          rw [Heap.size_push]; simp only [List.mem_cons, List.mem_singleton, List.not_mem_nil, or_false, not_or]
          exact ⟨Nat.ne_of_lt (Nat.lt_succ_self _), Nat.ne_of_gt m1⟩
        have m5 : ∀ (i : Nat) (v : Value), xs[i]? = some v → ∃ k t, ns[i]? = some k ∧ v = .int k t := fun i v hv => by
          have hi : i < ns.length := by rw [← zz]; exact (Array.getElem?_eq_some_iff.mp hv).1
          obtain ⟨t, e⟩ := PyProof.Rows.IntsAre.int_at hI i v (by rw [Array.getElem?_toList]; exact hv)
          refine ⟨ns[i], t, List.getElem?_eq_getElem hi, ?_⟩
          rw [e, List.getD_eq_getElem?_getD, List.getElem?_eq_getElem hi] <;> rfl
        refine set_update_ints ((Walks.list m2 _ l m3 xs).toS) s.heap.objs.size
          m4 ns zz hB m5 (xs.size - 0) 0 _ (by omega) (Nat.zero_le _)
          ⟨⟨_, Heap.get?_push_size _ rfl, rfl, rfl⟩, (gL.push _)⟩ ?cS ?cR
        case cS =>
          have m7 : ((s.heap.push (newS w)).push { cls := .type "list_iterator", data := .fields #[.ref l, .int 0 0] }).get? s.heap.objs.size
              = some (newS w) := Heap.get?_push_of_some _ gS
          exact ⟨0, Nat.le_refl 0, setR_new_at m7⟩
        case cR =>
          intro s' c' gm gc2 gS2
          obtain ⟨h', g2, d', tk', os'⟩ := s'
          have eg : g2 = s.gens := gm.gens
          have ed : d' = s.drawn := gm.drawn
          have eo : os' = s.os := gm.os
          subst eg; subst ed; subst eo
          show wpAny _ _ _ _ _ _
          refine wpAny_pure ?_
          show wpAny _ _ (ret Value.none) _ _ _
          rw [zz] at gc2
          refine wpAny_pure ⟨rfl, h', tk', c', rfl, gS2, gc2, fun b o e => ?_⟩
          have hb0 : b < s.heap.objs.size := Heap.lt_size e
          have hb1 : b ≠ s.heap.objs.size := Nat.ne_of_lt hb0
          have hb2 : b ≠ (s.heap.push (newS w)).objs.size := by
            rw [Heap.size_push]; exact Nat.ne_of_lt (Nat.lt_succ_of_lt hb0)
          exact gm.heap b o (by simp only [List.mem_cons, List.mem_singleton, List.not_mem_nil, or_false, not_or]; exact ⟨hb1, hb2⟩) (Heap.get?_push_of_some _ (Heap.get?_push_of_some _ e))

      · cases r₂ with
        | error e => exact y2
        | ok fl₂ =>
          cases fl₂ with
          | ret r =>
            obtain ⟨rfl, h', tk, c', rfl, gS2, gc2, gk2⟩ := y2
            repeat (any_goals (first | assumption | wp_step))
            exact h _ _ _ gS2 gc2 gk2
          | _ => exact y2.elim
    | _ => exact y1.elim

end
section
variable {X : Cx}
theorem setR_count {w : World} {h : Heap} {a : Addr} {S : Int → Bool} {n : Nat} (R : SetR w h a S n) (l : List Int) (nd : l.Nodup) (hm : ∀ k, k ∈ l ↔ S k = true) : l.length = n := by
  obtain ⟨o, es, ep, t, ho, hex, hd, g, nd2, hk, hb, hf, hn, _⟩ := R
  have p : l.Perm (es.toList.map keyOf) := (List.perm_ext_iff_of_nodup nd nd2).mpr fun k => by rw [hm k, hk k]
  have e2 : es.toList.length = es.size := rfl
  have e1 : l.length = es.toList.length := by rw [p.length_eq, List.length_map]
  rw [e1, e2, hn]
def rSetL (w : World) (K : PySem.W.Frag) : List V → Hp → VK → Prop := fun vs H Q => ∃ (p : Addr) (ns : List Int), vs = [.ref p] ∧ SqL K H p (ns.map V.int) ∧ ns.length ≤ 4000 ∧
  ∀ (a : Addr) (n : Nat), (∀ l : List Int, l.Nodup → (∀ k, k ∈ l ↔ k ∈ ns) → l.length = n) → H a = none → Q (.ref a) (upd H a (SetO w a (fun j => decide (j ∈ ns)) n))
theorem cr_setL (hc : X.calm = true) : CallR X (.type "set") (rSetL X.w X.K) := by
  intro pins s σ H vs us Q I r h
  obtain ⟨p, ns, rfl, hs, hl, q⟩ := h
  rw [Vals.ref1 r]
  obtain ⟨its, rv, ⟨⟨cls, dd, data, sl⟩, n, ho, hcl, hdn, hd⟩, hlen⟩ := I.list hs
  simp only at hcl hd
  subst hcl hd
  have hi := ints_of_vals rv
  refine call_set_lstI ns (I.ok.hd hc) ⟨_, ho, rfl, n, rfl⟩ (by simpa using hi) (by unfold scanBound; omega) fun h' tk c R hc' keep => ?_
  exact ⟨.ref _, _, I.laid (t' := tk) keep (Nat.le_refl _) (setO_new R), rfl, q _ c (fun l nd hm => setR_count R l nd fun k => by rw [hm k]; simp) (I.hok.fresh (Nat.le_refl _))⟩
def dedI : List Int → List Int
  | [] => []
  | x :: xs => if x ∈ xs then dedI xs else x :: dedI xs
theorem dedI_mem {k : Int} : ∀ {ns : List Int}, k ∈ dedI ns ↔ k ∈ ns
  | [] => Iff.rfl
  | x :: xs => by
    have ih := dedI_mem (k := k) (ns := xs)
    unfold dedI
    split
    · rename_i hx
      rw [ih, List.mem_cons]
      exact ⟨.inr, fun h => h.elim (fun e => e ▸ hx) id⟩
    · rw [List.mem_cons, List.mem_cons, ih]
theorem dedI_nodup : ∀ ns : List Int, (dedI ns).Nodup
  | [] => List.nodup_nil
  | x :: xs => by
    have ih := dedI_nodup xs
    unfold dedI
    split
    · exact ih
    · rename_i hx
      exact List.nodup_cons.mpr ⟨fun h => hx (dedI_mem.mp h), ih⟩
def setSI (ns : List Int) : Option D := if ns.length ≤ 4000 ∧ (dedI ns).length < 64 then some (.lst true ((sortI false (dedI ns)).map .int)) else none
def fSortSet : List D → Option D := fInts setSI
def rSortSet (w : World) (K : PySem.W.Frag) : List V → Hp → VK → Prop := fun vs H Q => rSetL w K vs H fun x H2 => rSortedSet w [x] H2 Q
theorem fn_sortSet {G : Gx} (w : World) : FN G (rSortSet w G.K) fSortSet := fn_ints (r := rSortSet w G.K) (f := setSI) fun {F N T R H a ns z Q} j hs hz k => by
  unfold setSI at hz
  split at hz
  · rename_i hb
    cases hz
    refine ⟨a, ns, rfl, hs, hb.1, fun b n hn hf => ⟨b, _, n, rfl, upd_same, ?_, fun ms p pw mem len hp => ?_⟩⟩
    · rw [← hn (dedI ns) (dedI_nodup ns) fun k => dedI_mem]; exact hb.2
    · have e : ms = sortI false (dedI ns) := by
        refine sortI_uniq ((List.perm_ext_iff_of_nodup (pw.imp fun h => Int.ne_of_lt h) (dedI_nodup ns)).mpr fun k => ?_) (pw.imp fun h => ?_)
        · rw [mem k, dedI_mem, decide_eq_true_eq]
        · exact Int.le_of_lt h
      subst e
      have dd := dump1 j
      have j1 : J [one b (SetO w b (fun j => decide (j ∈ ns)) n), un F T, N, emp, R] (upd H b (SetO w b (fun j => decide (j ∈ ns)) n)) := dd.1.alloc hf
      obtain ⟨j2, j3⟩ := (j1.re [1, 0, 2, 3, 4]).join
      have l1 : Le F (un (un F T) (one b (SetO w b (fun j => decide (j ∈ ns)) n))) := dd.2.1.trans un_left
      have l2 : Le H (upd H b (SetO w b (fun j => decide (j ∈ ns)) n)) := fun a o e => by rw [upd_ne (ne_of_none e hf)]; exact e
      exact new_lst j3 (own_ints _) (fun v F' T' H' l kk => k v F' T' H' (l1.trans l) (l2.trans kk)) p hp
  · cases hz
variable {cl : Nat → Addr} {Φ : St → Prop} {E : St → XK} {c c1 c2 : Bool} {k : Nat} {pos p pos2 p2 apos : Pos} {e o : Expr} {mo me : M D}
theorem re_sortSet {m : M (List D)} (κ : Kx X E k) (h : RA X cl Φ E c [e] m) (hm : X.mg "sorted" = none) (hm2 : X.mg "set" = none) (hg : Gl X "sorted" := by rfl) (hg2 : Gl X "set" := by rfl)
    (he : starEach [e] X.env = (false, eval e X.env) :: starEach [] X.env := by rfl) (hpl : (backTo pos2 (starEach [] X.env)).any (·.1) = false := by rfl)
    (he2 : starEach [.Call (.Name "set" p2) [e] [] pos2] X.env = (false, eval (.Call (.Name "set" p2) [e] [] pos2) X.env) :: starEach [] X.env := by rfl) (hpl2 : (backTo pos (starEach [] X.env)).any (·.1) = false := by rfl) :
    RE X cl Φ E c (.Call (.Name "sorted" p) [.Call (.Name "set" p2) [e] [] pos2] [] pos) (mFun fSortSet m) :=
  ⟨(pe_callB (cr_sortedSet κ.calm) hg hm (by decide +kernel) (pa_cons (pe_callTy (cr_setL κ.calm) hg2 hm2 (by decide +kernel) h.pa (by decide) (by decide) he hpl) pa_nil he2) (by decide) (by decide) he2 hpl2).weak
    fun _ _ _ q => tA_fun (r := rSortSet X.w X.K) (fn_sortSet X.w) q⟩

/-! ### xs.count(n), xs.index(n) of a list of numbers -/
def mLstI (f : List Int → Int → Option D) (mo me : M D) : M D := fun ρ => (mo ρ).bind fun d ρ1 => match asInts d with
  | some ns => (me ρ1).bind fun e ρ2 => match e with
    | .int n => (match f ns n with
      | some z => .ok z ρ2
      | none => .no)
    | _ => .no
  | none => .no
def fCount (ns : List Int) (n : Int) : Option D := some (.int (ns.count n : Nat))
def fIndex (ns : List Int) (n : Int) : Option D := if n ∈ ns then some (.int (ns.idxOf n : Nat)) else none
theorem tE_lstI {K : PySem.W.Frag} {r : V → List V → Hp → VK → Prop} {f : List Int → Int → Option D} {G : Gx} (hK : G.K = K) {σ : St} {H : Hp} {Q : VK}
    (hf : ∀ (a : Addr) (ns : List Int) (n : Int) (z : D) (H : Hp) (Q : VK), f ns n = some z → SqL K H a (ns.map V.int) → (∀ v, (∀ F, Own G F z v emp) → Q v H) → r (.ref a) [.int n] H Q) (h : tE G Φ E (c1 && c2) (mLstI f mo me) σ H Q) :
    tBM K "list" r (tE G Φ E c1 mo) (tCons (tE G Φ E c2 me) tNil) σ H Q := by
  obtain ⟨F, N, R, ρ, a, q⟩ := h
  refine ⟨F, N, R, ρ, a, ?_⟩
  unfold mLstI at q
  cases e : mo ρ with
  | no => rw [e] at q; exact q
  | ex k ρ' => rw [e] at q; exact q
  | ok d ρ1 =>
    rw [e] at q
    intro v F1 N1 T1 H1 l1 k1 j1 r1 o1
    simp only [O.bind] at q
    cases hd : asInts d with
    | none => rw [hd] at q; exact q.elim
    | some ns =>
      rw [hd] at q
      simp only at q
      obtain ⟨p, rfl, hs⟩ := own_asInts j1.le (j1.sub (by simp)) o1 hd
      rw [hK] at hs
      have jt : J [T1, R] (un T1 R) := (j1.re [2, 3, 0, 1]).join.1
      refine ⟨.inl ⟨rfl, _, hs⟩, F1, N1, un T1 R, ρ1, ⟨j1.hide, r1, a.2.2⟩, ?_⟩
      cases e1 : me ρ1 with
      | no => rw [e1] at q; exact q
      | ex k ρ' => rw [e1] at q; exact PX.more q l1 jt
      | ok d2 ρ2 =>
        rw [e1] at q
        intro w F2 N2 T2 H2 l2 k2 j2 r2 o2
        simp only at q
        split at q
        · rename_i n
          have j3 : J [F2, N2, T1, T2, R] H2 := (J.unhide (ys := [T2]) jt (j2.re [0, 1, 3, 2])).re [0, 1, 2, 4, 3]
          obtain ⟨p2, e2, hs2⟩ := own_asInts (H := H2) j3.le (j3.sub (by simp)) (own_le l2 o1) hd
          cases e2
          rw [hK] at hs2
          obtain ⟨rfl, rfl⟩ := o2
          split at q
          · rename_i z hz
            have j4 : J [F2, N2, T1, R] H2 := J.emp_iff.mp (j3.re [3, 0, 1, 2, 4])
            have dd := dump1 j4
            exact hf p ns n z H2 Q hz hs2 fun v2 o3 => q v2 _ N2 emp H2 ((l1.trans l2).trans dd.2.1) (cAnd k1 k2) dd.1 (rel_le dd.2.1 r2) (o3 _)
          · exact q.elim
        · exact q.elim
theorem re_count (ho : RE X cl Φ E c1 o mo) (he : RE X cl Φ E c2 e me) (hs : starEach [e] X.env = (false, eval e X.env) :: starEach [] X.env := by rfl) (hbase : attributeBase o "count" X.env (eval o X.env) = eval o X.env := by rfl) (hline : (apos.endLine == pos.line) = true := by rfl)
    (hfew : ((backTo pos (starEach [e] X.env)).all (fun x => !x.1) && (backToKw pos (keywordEach [] X.env)).all (fun x => x.1.isSome) && decide ([e].length + ([] : List Keyword).length + (if ([] : List Keyword).isEmpty then 0 else 1) < 30)) = true := by rfl) (hpl : (backTo pos (starEach [] X.env)).any (·.1) = false := by rfl) :
    RE X cl Φ E (c1 && c2) (.Call (.Attribute o "count" apos) [e] [] pos) (mLstI fCount mo me) :=
  ⟨(pe_bm F.plainAttrs_list F.slot_list_count F.type_list_count mt_lcount ho.pe (pa_cons he.pe pa_nil hs) hbase hfew hline hs hpl).weak fun _ _ _ h => tE_lstI (f := fCount) rfl (fun a ns n z H Q hz hs k => by
    cases hz
    exact ⟨a, ns, n, rfl, rfl, hs, k _ fun _ => ⟨rfl, rfl⟩⟩) h⟩
theorem eqV_int (a b : Int) : eqV (.int a) (.int b) = decide (a = b) := by
  unfold eqV
  by_cases h : a = b
  · subst h; simp
  · simp [h]
theorem re_index (ho : RE X cl Φ E c1 o mo) (he : RE X cl Φ E c2 e me) (hs : starEach [e] X.env = (false, eval e X.env) :: starEach [] X.env := by rfl) (hbase : attributeBase o "index" X.env (eval o X.env) = eval o X.env := by rfl) (hline : (apos.endLine == pos.line) = true := by rfl)
    (hfew : ((backTo pos (starEach [e] X.env)).all (fun x => !x.1) && (backToKw pos (keywordEach [] X.env)).all (fun x => x.1.isSome) && decide ([e].length + ([] : List Keyword).length + (if ([] : List Keyword).isEmpty then 0 else 1) < 30)) = true := by rfl) (hpl : (backTo pos (starEach [] X.env)).any (·.1) = false := by rfl) :
    RE X cl Φ E (c1 && c2) (.Call (.Attribute o "index" apos) [e] [] pos) (mLstI fIndex mo me) :=
  ⟨(pe_bm F.plainAttrs_list F.slot_list_index F.type_list_index mt_index ho.pe (pa_cons he.pe pa_nil hs) hbase hfew hline hs hpl).weak fun _ _ _ h => tE_lstI (f := fIndex) rfl (fun a ns n z H Q hz hs k => by
    unfold fIndex at hz
    split at hz
    · rename_i hm
      cases hz
      have hlt := List.idxOf_lt_length_of_mem hm
      refine ⟨a, _, .int n, ns.idxOf n, .int n, rfl, rfl, hs, rfl, ?_, ?_, ?_, fun m z hlm hz => ?_, k _ fun _ => ⟨rfl, rfl⟩⟩
      · rw [List.all_map, List.all_eq_true]; exact fun _ _ => rfl
      · rw [List.getElem?_map, List.getElem?_eq_getElem hlt, List.getElem_idxOf hlt]; rfl
      · rw [eqV_int]; simp
      · have hlm2 : m < ns.length := Nat.lt_trans hlm hlt
        rw [List.getElem?_map, List.getElem?_eq_getElem hlm2] at hz
        cases hz
        rw [eqV_int, decide_eq_false_iff_not]
        intro e2
        have h9 := List.not_of_lt_findIdx (p := (· == n)) (xs := ns) (i := m) hlm
        rw [e2] at h9
        simp at h9
    · cases hz) h⟩
end
end Z

end
section
set_option maxRecDepth 100000
/-! S: how combinators are reckoned -/
namespace Z
open PySem (Str)
open L2 (ixN atI)
section
variable {α β : Type} {ρ ρ' : Env}
theorem bind_ok (a : α) (ρ : Env) (f : α → Env → O β) : (O.ok a ρ).bind f = f a ρ := id rfl
theorem bind_ex (k : Nat) (ρ : Env) (f : α → Env → O β) : (O.ex k ρ).bind f = .ex k ρ := id rfl
theorem bind_no (f : α → Env → O β) : (O.no : O α).bind f = .no := id rfl
theorem ofOpt_some (a : α) (ρ : Env) : ofOpt (some a) ρ = .ok a ρ := id rfl
theorem mK_e (d : D) (ρ : Env) : mK d ρ = .ok d ρ := id rfl
theorem mUn_e (f : D → Option D) (ma : M D) (ρ : Env) : mUn f ma ρ = (ma ρ).bind fun d ρ1 => ofOpt (f d) ρ1 := id rfl
theorem mBin_e (f : D → D → Option D) (ma mb : M D) (ρ : Env) : mBin f ma mb ρ = (ma ρ).bind fun d ρ1 => (mb ρ1).bind fun e ρ2 => ofOpt (f d e) ρ2 := id rfl
theorem mNil_e (ρ : Env) : mNil ρ = .ok [] ρ := id rfl
theorem mCons_e (ma : M D) (mr : M (List D)) (ρ : Env) : mCons ma mr ρ = (ma ρ).bind fun d ρ1 => (mr ρ1).bind fun ds ρ2 => .ok (d :: ds) ρ2 := id rfl
theorem mFun_e (f : List D → Option D) (ma : M (List D)) (ρ : Env) : mFun f ma ρ = (ma ρ).bind fun ds ρ1 => ofOpt (f ds) ρ1 := id rfl
/-! slots -/
def vK (o : Option D) (i : Nat) (ρ : Env) : O D := match o with
  | some .hole => .no
  | some d => if shr d then .ok d ρ else .ok (frz d) (ρ.set i (frz d))
  | none => .no
theorem mVar_e (i : Nat) (ρ : Env) : mVar i ρ = vK (ρ[i]?) i ρ := id rfl
theorem vK_shr {d : D} (i : Nat) (ρ : Env) (h : shr d = true) : vK (some d) i ρ = .ok d ρ := by
  cases d <;> first | (simp [shr] at h; done) | (unfold vK; simp only [h, if_true])
theorem vK_own {d : D} (i : Nat) (ρ : Env) (h : shr d = false) (n : isHole d = false) : vK (some d) i ρ = .ok (frz d) (ρ.set i (frz d)) := by
  cases d <;> first | (simp [isHole] at n; done) | (unfold vK; simp [h])
def wK (o : Option D) (i : Nat) (ρ : Env) : O D := match o with
  | some .hole => .no
  | some d => if shr d then .ok d ρ else .ok d (ρ.set i .hole)
  | none => .no
theorem mMov_e (i : Nat) (ρ : Env) : mMov i ρ = wK (ρ[i]?) i ρ := id rfl
theorem wK_shr {d : D} (i : Nat) (ρ : Env) (h : shr d = true) : wK (some d) i ρ = .ok d ρ := by
  cases d <;> first | (simp [shr] at h; done) | (unfold wK; simp only [h, if_true])
theorem wK_own {d : D} (i : Nat) (ρ : Env) (h : shr d = false) (n : isHole d = false) : wK (some d) i ρ = .ok d (ρ.set i .hole) := by
  cases d <;> first | (simp [isHole] at n; done) | (unfold wK; simp [h])
/-! tests -/
def tK (d : D) (ρ : Env) : O Bool := match d with
  | .bl b => .ok b ρ
  | _ => .no
theorem mTst_e (m : M D) (ρ : Env) : mTst m ρ = (m ρ).bind tK := by
  unfold mTst; cases m ρ with
  | ok d ρ => cases d <;> rfl
  | _ => rfl
theorem tK_bl (b : Bool) (ρ : Env) : tK (.bl b) ρ = .ok b ρ := id rfl
def iK {γ : Type} (a b : Env → O γ) (x : Bool) (ρ : Env) : O γ := if x = true then a ρ else b ρ
theorem iK_t {γ : Type} (a b : Env → O γ) (ρ : Env) : iK a b true ρ = a ρ := id rfl
theorem iK_f {γ : Type} (a b : Env → O γ) (ρ : Env) : iK a b false ρ = b ρ := id rfl
theorem mAnd_e (m n : M Bool) (ρ : Env) : mAnd m n ρ = (m ρ).bind (iK n fun ρ => .ok false ρ) := id rfl
theorem mOr_e (m n : M Bool) (ρ : Env) : mOr m n ρ = (m ρ).bind (iK (fun ρ => .ok true ρ) n) := id rfl
theorem mNot_e (m : M Bool) (ρ : Env) : mNot m ρ = (m ρ).bind fun b ρ1 => .ok (!b) ρ1 := id rfl
theorem mIte_e (t : M Bool) (m n : M D) (ρ : Env) : mIte t m n ρ = (t ρ).bind (iK m n) := id rfl
theorem mIf_e (t : M Bool) (a b : M Fl) (ρ : Env) : mIf t a b ρ = (t ρ).bind (iK a b) := id rfl
def aK (n : M D) (d : D) (ρ : Env) : O D := match d with
  | .bl true => n ρ
  | .bl false => .ok (.bl false) ρ
  | _ => .no
theorem mAndV_e (m n : M D) (ρ : Env) : mAndV m n ρ = (m ρ).bind (aK n) := by
  unfold mAndV; cases m ρ with
  | ok d ρ => cases d with
    | bl b => cases b <;> rfl
    | _ => rfl
  | _ => rfl
theorem aK_t (n : M D) (ρ : Env) : aK n (.bl true) ρ = n ρ := id rfl
theorem aK_f (n : M D) (ρ : Env) : aK n (.bl false) ρ = .ok (.bl false) ρ := id rfl
def orK (n : M D) (d : D) (ρ : Env) : O D := match d with
  | .bl true => .ok (.bl true) ρ
  | .bl false => n ρ
  | _ => .no
theorem mOrV_e (m n : M D) (ρ : Env) : mOrV m n ρ = (m ρ).bind (orK n) := by
  unfold mOrV; cases m ρ with
  | ok d ρ => cases d with
    | bl b => cases b <;> rfl
    | _ => rfl
  | _ => rfl
theorem orK_t (n : M D) (ρ : Env) : orK n (.bl true) ρ = .ok (.bl true) ρ := id rfl
theorem orK_f (n : M D) (ρ : Env) : orK n (.bl false) ρ = n ρ := id rfl
def notD (d : D) : Option D := match d with
  | .bl b => some (.bl (!b))
  | _ => none
theorem mNotV_e (m : M D) (ρ : Env) : mNotV m ρ = (m ρ).bind fun d ρ1 => ofOpt (notD d) ρ1 := id rfl
theorem notD_bl (b : Bool) : notD (.bl b) = some (.bl (!b)) := id rfl
/-! statements -/
def sK (t : M Fl) (o : O Fl) : O Fl := match o with
  | .ok .nx ρ' => t ρ'
  | o => o
theorem mSeq_e (s t : M Fl) (ρ : Env) : mSeq s t ρ = sK t (s ρ) := id rfl
theorem sK_nx (t : M Fl) (ρ : Env) : sK t (.ok .nx ρ) = t ρ := id rfl
theorem sK_rt (t : M Fl) (d : D) (ρ : Env) : sK t (.ok (.rt d) ρ) = .ok (.rt d) ρ := id rfl
theorem sK_ex (t : M Fl) (k : Nat) (ρ : Env) : sK t (.ex k ρ) = .ex k ρ := id rfl
theorem sK_bk (t : M Fl) (ρ : Env) : sK t (.ok .bk ρ) = .ok .bk ρ := id rfl
theorem sK_ct (t : M Fl) (ρ : Env) : sK t (.ok .ct ρ) = .ok .ct ρ := id rfl
theorem mSkip_e (ρ : Env) : mSkip ρ = .ok .nx ρ := id rfl
theorem mBrk_e (ρ : Env) : mBrk ρ = .ok .bk ρ := id rfl
theorem mCnt_e (ρ : Env) : mCnt ρ = .ok .ct ρ := id rfl
theorem mAsg_e (g : D → M Unit) (m : M D) (ρ : Env) : mAsg g m ρ = (m ρ).bind fun d ρ1 => goG (g d ρ1) fun ρ2 => .ok .nx ρ2 := id rfl
theorem goG_ok (u : Unit) (ρ : Env) (k : Env → O Fl) : goG (.ok u ρ) k = k ρ := id rfl
theorem mRet_e (m : M D) (ρ : Env) : mRet m ρ = (m ρ).bind fun d ρ1 => .ok (.rt d) ρ1 := id rfl
theorem mRetN_e (ρ : Env) : mRetN ρ = .ok (.rt .non) ρ := id rfl
theorem mDo_e (m : M D) (ρ : Env) : mDo m ρ = (m ρ).bind fun _ ρ1 => .ok .nx ρ1 := id rfl
def nK (i : Nat) (d : D) (o : Option D) (ρ : Env) : O Unit := match o with
  | some _ => .ok () (ρ.set i d)
  | none => .no
theorem dName_e (i : Nat) (d : D) (ρ : Env) : dName i d ρ = nK i d (ρ[i]?) ρ := id rfl
theorem nK_some (i : Nat) (d x : D) (ρ : Env) : nK i d (some x) ρ = .ok () (ρ.set i d) := id rfl
theorem dTup_e (n : Nat) (g : List D → M Unit) (ds : List D) (ρ : Env) (h : ds.length = n) : dTup n g (.tup ds) ρ = g ds ρ := id (if_pos h)
theorem dNil_e (ρ : Env) : dNil [] ρ = .ok () ρ := id rfl
theorem dCons_e (g : D → M Unit) (h : List D → M Unit) (d : D) (ds : List D) (ρ : Env) : dCons g h (d :: ds) ρ = (g d ρ).bind fun _ ρ1 => h ds ρ1 := id rfl
/-! loops -/
def lpK (k : Env → O Fl) (o : O Fl) : O Fl := match o with
  | .ok .nx ρ2 => k ρ2
  | .ok .ct ρ2 => k ρ2
  | .ok .bk ρ2 => .ok .nx ρ2
  | o => o
theorem lpK_nx (k : Env → O Fl) (ρ : Env) : lpK k (.ok .nx ρ) = k ρ := id rfl
theorem lpK_ct (k : Env → O Fl) (ρ : Env) : lpK k (.ok .ct ρ) = k ρ := id rfl
theorem lpK_bk (k : Env → O Fl) (ρ : Env) : lpK k (.ok .bk ρ) = .ok .nx ρ := id rfl
theorem lpK_rt (k : Env → O Fl) (d : D) (ρ : Env) : lpK k (.ok (.rt d) ρ) = .ok (.rt d) ρ := id rfl
theorem lpK_ex (k : Env → O Fl) (x : Nat) (ρ : Env) : lpK k (.ex x ρ) = .ex x ρ := id rfl
theorem mLoop_nil (g : D → M Unit) (b : M Fl) (ρ : Env) : mLoop g b [] ρ = .ok .nx ρ := id rfl
theorem mLoop_cons (g : D → M Unit) (b : M Fl) (d : D) (ds : List D) (ρ : Env) : mLoop g b (d :: ds) ρ = goG (g d ρ) fun ρ1 => lpK (mLoop g b ds) (b ρ1) := id rfl
theorem mWhile_s (t : M Bool) (b : M Fl) (n : Nat) (ρ : Env) : mWhile t b (n + 1) ρ = (t ρ).bind (iK (fun ρ1 => lpK (mWhile t b n) (b ρ1)) fun ρ1 => .ok .nx ρ1) := id rfl
theorem mFor_e (it : M (List D × Bk)) (g : D → M Unit) (b : M Fl) (ρ : Env) : mFor it g b ρ = (it ρ).bind fun x ρ1 => finB x.2 (mLoop g b x.1 ρ1) := id rfl
theorem finB_nx (ρ : Env) : finB none (.ok .nx ρ) = .ok .nx ρ := id rfl
theorem finB_rt (d : D) (ρ : Env) : finB none (.ok (.rt d) ρ) = .ok (.rt d) ρ := id rfl
theorem finB_ex (k : Bk) (x : Nat) (ρ : Env) : finB k (.ex x ρ) = .ex x ρ := id rfl
theorem finB_nx1 (i : Nat) (d : D) (ρ : Env) (h : ρ[i]? = some .hole) : finB (some (i, d)) (.ok .nx ρ) = .ok .nx (ρ.set i d) := by
  unfold finB holeAt putBk; simp only [h]; rfl
theorem finB_rt1 (i : Nat) (d e : D) (ρ : Env) (h : ρ[i]? = some .hole) : finB (some (i, d)) (.ok (.rt e) ρ) = .ok (.rt e) (ρ.set i d) := by
  unfold finB holeAt putBk; simp only [h]; rfl
/-- more turns do no harm -/
theorem mWhile_more (t : M Bool) (b : M Fl) : ∀ (n : Nat) (ρ : Env), mWhile t b n ρ ≠ .no → ∀ m, n ≤ m → mWhile t b m ρ = mWhile t b n ρ
  | 0, ρ, h, m, _ => absurd rfl h
  | n + 1, ρ, h, m, hm => by
    obtain ⟨k, rfl⟩ : ∃ k, m = k + 1 := ⟨m - 1, by omega⟩
    rw [mWhile_s] at h ⊢
    rw [mWhile_s]
    cases e : t ρ with
    | no => rfl
    | ex x ρ' => rfl
    | ok x ρ1 =>
      rw [e] at h
      cases x with
      | false => rfl
      | true =>
        simp only [bind_ok, iK_t] at h ⊢
        cases eb : b ρ1 with
        | no => rfl
        | ex x ρ' => rfl
        | ok f ρ2 =>
          rw [eb] at h
          cases f with
          | nx => exact mWhile_more t b n ρ2 h k (by omega)
          | ct => exact mWhile_more t b n ρ2 h k (by omega)
          | bk => rfl
          | rt d => rfl
theorem mItems_e (m : M D) (ρ : Env) : mItems m ρ = (m ρ).bind fun d ρ1 => (ofOpt (itemsOf d) ρ1).bind fun ds ρ2 => .ok (ds, none) ρ2 := by
  unfold mItems; cases m ρ with
  | ok d ρ => show (match itemsOf d with
    | some ds => O.ok (ds, none) ρ
    | none => .no) = _
              simp only [bind_ok]
              cases itemsOf d <;> rfl
  | _ => rfl
def r1K (ds : List D) (ρ : Env) : O (List D × Bk) := match ds with
  | [.int j] => if -(2 ^ 62) ≤ j ∧ j < 2 ^ 62 then .ok ((List.range j.toNat).map (fun i : Nat => .int (i : Int)), none) ρ else .no
  | _ => .no
theorem mRng1_e (m : M (List D)) (ρ : Env) : mRng1 m ρ = (m ρ).bind r1K := by
  unfold mRng1; cases m ρ with
  | ok ds ρ => rfl
  | _ => rfl
theorem r1K_int (j : Int) (ρ : Env) (h : -(2 ^ 62) ≤ j ∧ j < 2 ^ 62) : r1K [.int j] ρ = .ok ((List.range j.toNat).map (fun i : Nat => .int (i : Int)), none) ρ := id (if_pos h)
def r2K (ds : List D) (ρ : Env) : O (List D × Bk) := match ds with
  | [.int i, .int j] => if (-(2 ^ 62) ≤ i ∧ i < 2 ^ 62) ∧ (-(2 ^ 62) ≤ j ∧ j < 2 ^ 62) then .ok ((List.range (j - i).toNat).map (fun n : Nat => .int (i + (n : Int))), none) ρ else .no
  | _ => .no
theorem mRng2_e (m : M (List D)) (ρ : Env) : mRng2 m ρ = (m ρ).bind r2K := by
  unfold mRng2; cases m ρ with
  | ok ds ρ => rfl
  | _ => rfl
theorem r2K_int (i j : Int) (ρ : Env) (h : (-(2 ^ 62) ≤ i ∧ i < 2 ^ 62) ∧ (-(2 ^ 62) ≤ j ∧ j < 2 ^ 62)) : r2K [.int i, .int j] ρ = .ok ((List.range (j - i).toNat).map (fun n : Nat => .int (i + (n : Int))), none) ρ := id (if_pos h)
def ldK (i : Nat) (o : Option D) (ρ : Env) : O (List D × Bk) := match o with
  | some (.lst o ds) => .ok (frzL ds, some (i, .lst o (frzL ds))) (ρ.set i .hole)
  | some (.str x) => .ok (x.cps.toList.map fun c => .str ⟨#[c]⟩, none) ρ
  | some (.out ds) => if shrL ds = true then .ok (ds, none) ρ else .no
  | some (.tup ds) => if shrL ds = true then .ok (ds, none) ρ else .no
  | _ => .no
theorem mLend_e (i : Nat) (ρ : Env) : mLend i ρ = ldK i (ρ[i]?) ρ := id rfl
theorem ldK_lst (i : Nat) (o : Bool) (ds : List D) (ρ : Env) : ldK i (some (.lst o ds)) ρ = .ok (frzL ds, some (i, .lst o (frzL ds))) (ρ.set i .hole) := id rfl
theorem ldK_str (i : Nat) (x : PySem.Str) (ρ : Env) : ldK i (some (.str x)) ρ = .ok (x.cps.toList.map fun c => .str ⟨#[c]⟩, none) ρ := id rfl
theorem ldK_out (i : Nat) (ds : List D) (ρ : Env) (h : shrL ds = true) : ldK i (some (.out ds)) ρ = .ok (ds, none) ρ := id (if_pos h)
theorem ldK_tup (i : Nat) (ds : List D) (ρ : Env) (h : shrL ds = true) : ldK i (some (.tup ds)) ρ = .ok (ds, none) ρ := id (if_pos h)
/-! displays -/
theorem mTup_e (m : M (List D)) (ρ : Env) : mTup m ρ = (m ρ).bind fun ds ρ1 => if ds.length ≤ PySem.sizeLine then .ok (.tup ds) ρ1 else .no := id rfl
theorem mLst_e (m : M (List D)) (ρ : Env) : mLst m ρ = (m ρ).bind fun ds ρ1 => if ds.length ≤ PySem.sizeLine then .ok (.lst true ds) ρ1 else .no := id rfl
theorem if_len {γ : Type} {n : Nat} {x y : γ} (h : n ≤ 16777216) : (if n ≤ PySem.sizeLine then x else y) = x := id (if_pos h)
/-! calls -/
theorem aNil_e (ρ : Env) : aNil ρ = .ok [] ρ := id rfl
theorem aTmp_e (m : M D) (r : M (List Ar)) (ρ : Env) : aTmp m r ρ = (m ρ).bind fun d ρ1 => (r ρ1).bind fun x ρ2 => .ok (.inl d :: x) ρ2 := id rfl
def lnK (i : Nat) (r : M (List Ar)) (o : Option D) (ρ : Env) : O (List Ar) := match o with
  | some d => if isHole d = true then .no else (r ρ).bind fun x ρ2 => .ok (.inr i :: x) ρ2
  | none => .no
theorem aLend_e (i : Nat) (r : M (List Ar)) (ρ : Env) : aLend i r ρ = lnK i r (ρ[i]?) ρ := id rfl
theorem lnK_some (i : Nat) (r : M (List Ar)) (d : D) (ρ : Env) (h : isHole d = false) : lnK i r (some d) ρ = (r ρ).bind fun x ρ2 => .ok (.inr i :: x) ρ2 := by unfold lnK; simp [h]
def ecK (o : O3) (bs : Bks) (ρ : Env) : O D := match o with
  | .ok d as => (match putAll bs as ρ with
    | some ρ3 => .ok d ρ3
    | none => .no)
  | .ex k as => (match putAll bs as ρ with
    | some ρ3 => .ex k ρ3
    | none => .no)
  | .no => .no
def pcK (d : D) (o : Option Env) : O D := match o with
  | some ρ => .ok d ρ
  | none => .no
def xcK (k : Nat) (o : Option Env) : O D := match o with
  | some ρ => .ex k ρ
  | none => .no
theorem ecK_ok (d : D) (as : List D) (bs : Bks) (ρ : Env) : ecK (.ok d as) bs ρ = pcK d (putAll bs as ρ) := by
  show (match putAll bs as ρ with
    | some ρ3 => O.ok d ρ3
    | none => .no) = _
  cases putAll bs as ρ <;> rfl
theorem ecK_ex (k : Nat) (as : List D) (bs : Bks) (ρ : Env) : ecK (.ex k as) bs ρ = xcK k (putAll bs as ρ) := by
  show (match putAll bs as ρ with
    | some ρ3 => O.ex k ρ3
    | none => .no) = _
  cases putAll bs as ρ <;> rfl
theorem pcK_some (d : D) (ρ : Env) : pcK d (some ρ) = .ok d ρ := id rfl
theorem xcK_some (k : Nat) (ρ : Env) : xcK k (some ρ) = .ex k ρ := id rfl
def gcK (r : List D → O3) (o : Option (List D × Bks × Env)) : O D := match o with
  | some (ds, bs, ρ2) => ecK (r ds) bs ρ2
  | none => .no
theorem mCall_e (r : List D → O3) (ma : M (List Ar)) (ρ : Env) : mCall r ma ρ = (ma ρ).bind fun as ρ1 => gcK r (gath as ρ1) := by
  unfold mCall
  cases ma ρ with
  | ok as ρ1 =>
    simp only [bind_ok]
    cases gath as ρ1 with
    | none => rfl
    | some x => rfl
  | _ => rfl
theorem gcK_some (r : List D → O3) (ds : List D) (bs : Bks) (ρ : Env) : gcK r (some (ds, bs, ρ)) = ecK (r ds) bs ρ := id rfl
theorem gath_nil (ρ : Env) : gath [] ρ = some ([], [], ρ) := id rfl
def gaK (d : D) (o : Option Nat) (x : Option (List D × Bks × Env)) : Option (List D × Bks × Env) := x.map fun x => (d :: x.1, o :: x.2.1, x.2.2)
theorem gath_l (d : D) (as : List Ar) (ρ : Env) : gath (.inl d :: as) ρ = gaK d none (gath as ρ) := id rfl
def gbK (i : Nat) (as : List Ar) (o : Option D) (ρ : Env) : Option (List D × Bks × Env) := match o with
  | some d => if isHole d = true then none else if isFlat d = true then gaK d none (gath as ρ) else gaK d (some i) (gath as (ρ.set i .hole))
  | none => none
theorem gath_r (i : Nat) (as : List Ar) (ρ : Env) : gath (.inr i :: as) ρ = gbK i as (ρ[i]?) ρ := id rfl
theorem gbK_flat (i : Nat) (as : List Ar) (d : D) (ρ : Env) (h : isFlat d = true) : gbK i as (some d) ρ = gaK d none (gath as ρ) := by
  cases d <;> first | (simp [isFlat] at h; done) | rfl
theorem gbK_obj (i : Nat) (as : List Ar) (d : D) (ρ : Env) (h : isFlat d = false) (n : isHole d = false) : gbK i as (some d) ρ = gaK d (some i) (gath as (ρ.set i .hole)) := by
  cases d <;> first | (simp [isFlat] at h; done) | (simp [isHole] at n; done) | rfl
theorem gaK_some (d : D) (o : Option Nat) (ds : List D) (bs : Bks) (ρ : Env) : gaK d o (some (ds, bs, ρ)) = some (d :: ds, o :: bs, ρ) := id rfl
theorem putAll_nil (as : List D) (ρ : Env) : putAll [] as ρ = some ρ := id rfl
theorem putAll_n (bs : Bks) (a : D) (as : List D) (ρ : Env) : putAll (none :: bs) (a :: as) ρ = putAll bs as ρ := id rfl
theorem putAll_s (i : Nat) (bs : Bks) (a : D) (as : List D) (ρ : Env) (h : ρ[i]? = some .hole) : putAll (some i :: bs) (a :: as) ρ = putAll bs as (ρ.set i a) := by
  rw [putAll, h]
/-! defs -/
theorem fnR_e (st : List Bool) (nl : Nat) (body : M Fl) (ds : List D) (h : ds.length = st.length) : fnR st nl body ds = fnEnd st ds (body (ent st ds ++ List.replicate nl .hole)) := id (if_pos h)
theorem fnEnd_nx (st : List Bool) (ds : List D) (ρ : Env) (h : ds.length ≤ ρ.length) : fnEnd st ds (.ok .nx ρ) = .ok .non (outs st ds ρ) := id (if_pos h)
theorem fnEnd_rt (st : List Bool) (ds : List D) (d : D) (ρ : Env) (h : ds.length ≤ ρ.length) : fnEnd st ds (.ok (.rt d) ρ) = .ok d (outs st ds ρ) := id (if_pos h)
theorem fnEnd_ex (st : List Bool) (ds : List D) (k : Nat) (ρ : Env) (h : ds.length ≤ ρ.length) : fnEnd st ds (.ex k ρ) = .ex k (outs st ds ρ) := id (if_pos h)
theorem ent_t (st : List Bool) (d : D) (ds : List D) : ent (true :: st) (d :: ds) = d :: ent st ds := id rfl
theorem ent_f (st : List Bool) (d : D) (ds : List D) : ent (false :: st) (d :: ds) = frz d :: ent st ds := id rfl
theorem ent_n (ds : List D) : ent [] ds = [] := by unfold ent; rfl
theorem outs_t (st : List Bool) (d : D) (ds : List D) (e : D) (ρ : Env) : outs (true :: st) (d :: ds) (e :: ρ) = e :: outs st ds ρ := id rfl
theorem outs_f (st : List Bool) (d : D) (ds : List D) (e : D) (ρ : Env) : outs (false :: st) (d :: ds) (e :: ρ) = frz d :: outs st ds ρ := id rfl
theorem outs_n (ds : List D) (ρ : Env) : outs [] ds ρ = [] := by unfold outs; rfl
/-! operators on ints -/
theorem mul_int {i j : Int} (h : (-(2 ^ 64) < i ∧ i < 2 ^ 64) ∨ (-(2 ^ 64) < j ∧ j < 2 ^ 64)) : dMul (.int i) (.int j) = some (.int (i * j)) := by
  show (if decide _ = true then some (D.int (i * j)) else none) = _
  exact if_pos (decide_eq_true h)
theorem mod_int {i j : Int} (h : 0 < j) : dMod (.int i) (.int j) = some (.int (i % j)) := by
  show (if decide _ = true then some (D.int (i % j)) else none) = _
  exact if_pos (decide_eq_true h)
theorem div_int {i j : Int} (h : 0 < j) (h2 : j.natAbs.log2 < 9000) : dDiv (.int i) (.int j) = some (.int (i / j)) := by
  show (if (decide (0 < j) && decide (j.natAbs.log2 < 9000)) = true then some (D.int (i / j)) else none) = _
  exact if_pos (by rw [decide_eq_true h, decide_eq_true h2]; rfl)
theorem shr_int {i j : Int} (h : 0 ≤ j) : dShr (.int i) (.int j) = some (.int (i / 2 ^ j.toNat)) := by
  show (if decide _ = true then some (D.int (i / 2 ^ j.toNat)) else none) = _
  exact if_pos (decide_eq_true h)
theorem add_int (i j : Int) : dAdd (.int i) (.int j) = some (.int (i + j)) := id rfl
theorem iadd_int (i j : Int) : dIAdd (.int i) (.int j) = some (.int (i + j)) := id rfl
theorem sub_int (i j : Int) : dSub (.int i) (.int j) = some (.int (i - j)) := id rfl
theorem lt_int (i j : Int) : dLt (.int i) (.int j) = some (.bl (decide (i < j))) := id rfl
theorem le_int (i j : Int) : dLe (.int i) (.int j) = some (.bl (decide (i ≤ j))) := id rfl
theorem gt_int (i j : Int) : dGt (.int i) (.int j) = some (.bl (decide (j < i))) := id rfl
theorem ge_int (i j : Int) : dGe (.int i) (.int j) = some (.bl (decide (j ≤ i))) := id rfl
theorem and_int (i j : Int) : dAnd (.int i) (.int j) = some (.int (PySem.Builtin.bitAnd i j)) := id rfl
theorem or_int (i j : Int) : dOr (.int i) (.int j) = some (.int (PySem.Builtin.bitOr i j)) := id rfl
theorem xor_int (i j : Int) : dXor (.int i) (.int j) = some (.int (PySem.Builtin.bitXor i j)) := id rfl
theorem neg_int (i : Int) : dNeg (.int i) = some (.int (-i)) := id rfl
theorem bits_int (i : Int) : dBits (.int i) = some (.int (PySem.Builtin.Int.intBits i : Nat)) := id rfl
theorem fInt_int (i : Int) : fInt [.int i] = some (.int i) := id rfl
theorem fInt_bl (b : Bool) : fInt [.bl b] = some (.int (if b then 1 else 0)) := id rfl
theorem eq_int (i j : Int) : dEq (.int i) (.int j) = some (.bl (i == j)) := id rfl
theorem ne_int (i j : Int) : dNe (.int i) (.int j) = some (.bl (!(i == j))) := id rfl
theorem eq_bl (i j : Bool) : dEq (.bl i) (.bl j) = some (.bl (i == j)) := id rfl
theorem ne_bl (i j : Bool) : dNe (.bl i) (.bl j) = some (.bl (!(i == j))) := id rfl
/-! what is shared, what is plain -/
theorem shrV_int (i : Int) : shr (.int i) = true := id rfl
theorem shrV_bl (i : Bool) : shr (.bl i) = true := id rfl
theorem shrV_str (i : Str) : shr (.str i) = true := id rfl
theorem shrV_non : shr .non = true := id rfl
theorem shrV_tup (ds : List D) : shr (.tup ds) = shrL ds := id rfl
theorem shrV_lstT (ds : List D) : shr (.lst true ds) = false := id rfl
theorem shrV_lstF (ds : List D) : shr (.lst false ds) = shrL ds := id rfl
theorem shrV_out (ds : List D) : shr (.out ds) = shrL ds := id rfl
theorem shrL_nil : shrL [] = true := id rfl
theorem shrL_cons (d : D) (ds : List D) : shrL (d :: ds) = (shr d && shrL ds) := id rfl
theorem shrL_ints (ns : List Int) : shrL (ns.map .int) = true := by rw [shrL_eq, List.all_map]; simp [Function.comp_def, shr]
theorem isHole_non  : isHole (.non ) = false := id rfl
theorem isHole_bl (b : Bool) : isHole (.bl b) = false := id rfl
theorem isHole_int (i : Int) : isHole (.int i) = false := id rfl
theorem isHole_str (x : Str) : isHole (.str x) = false := id rfl
theorem isHole_tup (ds : List D) : isHole (.tup ds) = false := id rfl
theorem isHole_lst (o : Bool) (ds : List D) : isHole (.lst o ds) = false := id rfl
theorem isHole_out (ds : List D) : isHole (.out ds) = false := id rfl
theorem isHole_dic (o : Bool) (ks : List L2.Key) (ds : List D) : isHole (.dic o ks ds) = false := id rfl
theorem isHole_dit (o : Bool) (ks : List (List L2.Key)) (ds : List D) : isHole (.dit o ks ds) = false := id rfl
theorem isHole_dnk (o : Bool) (ds : List D) : isHole (.dnk o ds) = false := id rfl
theorem isHole_ins (o : Bool) (c : Nat) (fs : List Str) (ds : List D) : isHole (.ins o c fs ds) = false := id rfl
theorem isHole_hole  : isHole (.hole ) = true := id rfl
theorem isFlat_non  : isFlat (.non ) = true := id rfl
theorem isFlat_bl (b : Bool) : isFlat (.bl b) = true := id rfl
theorem isFlat_int (i : Int) : isFlat (.int i) = true := id rfl
theorem isFlat_str (x : Str) : isFlat (.str x) = true := id rfl
theorem isFlat_tup (ds : List D) : isFlat (.tup ds) = false := id rfl
theorem isFlat_lst (o : Bool) (ds : List D) : isFlat (.lst o ds) = false := id rfl
theorem isFlat_out (ds : List D) : isFlat (.out ds) = false := id rfl
theorem isFlat_dic (o : Bool) (ks : List L2.Key) (ds : List D) : isFlat (.dic o ks ds) = false := id rfl
theorem isFlat_dit (o : Bool) (ks : List (List L2.Key)) (ds : List D) : isFlat (.dit o ks ds) = false := id rfl
theorem isFlat_dnk (o : Bool) (ds : List D) : isFlat (.dnk o ds) = false := id rfl
theorem isFlat_ins (o : Bool) (c : Nat) (fs : List Str) (ds : List D) : isFlat (.ins o c fs ds) = false := id rfl
theorem frz_int (i : Int) : frz (.int i) = .int i := id rfl
theorem frz_bl (i : Bool) : frz (.bl i) = .bl i := id rfl
theorem frz_str (i : Str) : frz (.str i) = .str i := id rfl
theorem frz_lst (b : Bool) (ds : List D) : frz (.lst b ds) = .lst false (frzL ds) := id rfl
theorem frz_tup (ds : List D) : frz (.tup ds) = .tup (frzL ds) := id rfl
theorem frzL_nil : frzL [] = [] := id rfl
theorem frzL_cons (d : D) (ds : List D) : frzL (d :: ds) = frz d :: frzL ds := id rfl
theorem frzL_ints (ns : List Int) : frzL (ns.map .int) = ns.map .int := frzL_shr (shrL_ints ns)
/-! places -/
def pvK (i : Nat) (o : Option D) (ρ : Env) : O Pth := match o with
  | some d => if isHole d = true then .no else .ok (i, []) ρ
  | none => .no
theorem pVar_e (i : Nat) (ρ : Env) : pVar i ρ = pvK i (ρ[i]?) ρ := id rfl
theorem pvK_some (i : Nat) (d : D) (ρ : Env) (h : isHole d = false) : pvK i (some d) ρ = .ok (i, []) ρ := by unfold pvK; simp [h]
def piK (p : Pth) (e : D) (ρ : Env) : O Pth := match e with
  | .int i => (match getR ρ (p.1, p.2 ++ [.at i]) with
    | some d => if isHole d = true then .no else .ok (p.1, p.2 ++ [.at i]) ρ
    | none => .no)
  | _ => .no
def pjK (p : Pth) (o : Option D) (ρ : Env) : O Pth := match o with
  | some d => if isHole d = true then .no else .ok p ρ
  | none => .no
theorem pIx_e (q : M Pth) (m : M D) (ρ : Env) : pIx q m ρ = (q ρ).bind fun p ρ1 => (m ρ1).bind fun e ρ2 => piK p e ρ2 := id rfl
theorem piK_int (p : Pth) (i : Int) (ρ : Env) : piK p (.int i) ρ = pjK (p.1, p.2 ++ [.at i]) (getR ρ (p.1, p.2 ++ [.at i])) ρ := id rfl
theorem pjK_some (p : Pth) (d : D) (ρ : Env) (h : isHole d = false) : pjK p (some d) ρ = .ok p ρ := by unfold pjK; simp [h]
def tkK (p : Pth) (o : Option D) (ρ : Env) : O D := match o with
  | some d => if shr d = true then .ok d ρ else if isHole d = true then .no else .ok (frz d) (setR ρ p (frz d))
  | none => .no
theorem mTake_e (q : M Pth) (ρ : Env) : mTake q ρ = (q ρ).bind fun p ρ1 => tkK p (getR ρ1 p) ρ1 := id rfl
theorem tkK_shr (p : Pth) (d : D) (ρ : Env) (h : shr d = true) : tkK p (some d) ρ = .ok d ρ := id (if_pos h)
theorem tkK_own (p : Pth) (d : D) (ρ : Env) (h : shr d = false) (n : isHole d = false) : tkK p (some d) ρ = .ok (frz d) (setR ρ p (frz d)) := by unfold tkK; simp [h, n]
def pkK (f : D → Option D) (o : Option D) (ρ : Env) : O D := match o with
  | some d => ofOpt (f d) ρ
  | none => .no
theorem mPeek_e (q : M Pth) (f : D → Option D) (ρ : Env) : mPeek q f ρ = (q ρ).bind fun p ρ1 => pkK f (getR ρ1 p) ρ1 := id rfl
theorem pkK_some (f : D → Option D) (d : D) (ρ : Env) : pkK f (some d) ρ = ofOpt (f d) ρ := id rfl
theorem getR_e (ρ : Env) (i : Nat) (π : List Stp) : getR ρ (i, π) = (ρ[i]?).bind fun d => getP d π := id rfl
theorem getP_nil (d : D) : getP d [] = some d := id rfl
theorem getP_cons (d : D) (s : Stp) (π : List Stp) : getP d (s :: π) = (getS d s).bind fun e => getP e π := id rfl
theorem some_bind (a : α) (f : α → Option β) : (some a).bind f = f a := id rfl
def stK (ρ : Env) (i : Nat) (π : List Stp) (x : D) (o : Option D) : Env := match o with
  | some d => ρ.set i (setP d π x)
  | none => ρ
theorem setR_e (ρ : Env) (i : Nat) (π : List Stp) (x : D) : setR ρ (i, π) x = stK ρ i π x (ρ[i]?) := id rfl
theorem stK_some (ρ : Env) (i : Nat) (π : List Stp) (x d : D) : stK ρ i π x (some d) = ρ.set i (setP d π x) := id rfl
theorem setP_nil (d x : D) : setP d [] x = x := id rfl
def suK (d : D) (s : Stp) (π : List Stp) (x : D) (o : Option D) : D := match o with
  | some e => setS d s (setP e π x)
  | none => d
theorem setP_cons (d : D) (s : Stp) (π : List Stp) (x : D) : setP d (s :: π) x = suK d s π x (getS d s) := id rfl
theorem suK_some (d : D) (s : Stp) (π : List Stp) (x e : D) : suK d s π x (some e) = setS d s (setP e π x) := id rfl
theorem ixN_nat {n j : Nat} (h : j < n) : ixN n (j : Int) = some j := by
  unfold ixN; rw [if_pos (by omega), if_pos (by omega)]; simp
theorem ixN_int {n : Nat} {i : Int} (h : 0 ≤ i) (h2 : i < n) : ixN n i = some i.toNat := by
  unfold ixN; rw [if_pos h, if_pos h2]
theorem getS_lst (b : Bool) (ds : List D) (i : Int) (h : 0 ≤ i) (h2 : i < ds.length) : Z.getS (.lst b ds) (.at i) = ds[i.toNat]? := by
  show (ixN ds.length i).bind _ = _
  rw [ixN_int h h2]; rfl
theorem getS_tup (ds : List D) (i : Int) (h : 0 ≤ i) (h2 : i < ds.length) : Z.getS (.tup ds) (.at i) = ds[i.toNat]? := by
  show (ixN ds.length i).bind _ = _
  rw [ixN_int h h2]; rfl
theorem getS_out (ds : List D) (i : Int) (h : 0 ≤ i) (h2 : i < ds.length) : Z.getS (.out ds) (.at i) = ds[i.toNat]? := by
  show (ixN ds.length i).bind _ = _
  rw [ixN_int h h2]; rfl
theorem setS_lst (b : Bool) (ds : List D) (i : Int) (x : D) (h : 0 ≤ i) (h2 : i < ds.length) : setS (.lst b ds) (.at i) x = .lst b (ds.set i.toNat x) := by
  unfold setS
  show (match ixN ds.length i with
    | some j => withParts (.lst b ds) (ds.set j x)
    | none => _) = _
  rw [ixN_int h h2]; rfl
theorem dIx_tup (ds : List D) (i : Int) (h : 0 ≤ i) (h2 : i < ds.length) : dIx (.tup ds) (.int i) = (ds[i.toNat]?).map frz := by
  show (atI ds i).map frz = _
  unfold atI; rw [ixN_int h h2]; rfl
theorem dIx_lst (b : Bool) (ds : List D) (i : Int) (h : 0 ≤ i) (h2 : i < ds.length) : dIx (.lst b ds) (.int i) = (ds[i.toNat]?).map frz := by
  show (atI ds i).map frz = _
  unfold atI; rw [ixN_int h h2]; rfl
def siK (p : Pth) (d e : D) (ρ : Env) : O Unit := match e with
  | .int i => (match getR ρ p with
      | some (.lst true ds) => (match ixN ds.length i with
        | some j => .ok () (setR ρ p (.lst true (ds.set j d)))
        | none => .no)
      | _ => .no)
  | _ => .no
def unG (o : O Unit) : O Unit := match o with
  | .ok u ρ => .ok u ρ
  | _ => .no
theorem dSetI_e (q : M Pth) (mi : M D) (d : D) (ρ : Env) : dSetI q mi d ρ = unG ((q ρ).bind fun p ρ1 => (mi ρ1).bind fun e ρ2 => siK p d e ρ2) := by
  unfold dSetI
  cases q ρ with
  | ok p ρ1 =>
    simp only [bind_ok]
    cases mi ρ1 with
    | ok e ρ2 =>
      simp only [bind_ok]
      cases e with
      | int i =>
        unfold siK
        simp only
        cases getR ρ2 p with
        | none => rfl
        | some d' =>
          cases d' with
          | lst b ds =>
            cases b with
            | false => rfl
            | true =>
              simp only
              cases ixN ds.length i <;> rfl
          | _ => rfl
      | _ => rfl
    | _ => rfl
  | _ => rfl
def sjK (p : Pth) (d : D) (i : Int) (ρ : Env) (o : Option D) : O Unit := match o with
  | some (.lst true ds) => (match ixN ds.length i with
        | some j => .ok () (setR ρ p (.lst true (ds.set j d)))
        | none => .no)
  | _ => .no
theorem siK_int (p : Pth) (d : D) (i : Int) (ρ : Env) : siK p d (.int i) ρ = sjK p d i ρ (getR ρ p) := id rfl
theorem sjK_lst (p : Pth) (d : D) (i : Int) (ρ : Env) (ds : List D) (h : 0 ≤ i) (h2 : i < ds.length) : sjK p d i ρ (some (.lst true ds)) = .ok () (setR ρ p (.lst true (ds.set i.toNat d))) := by
  unfold sjK; simp only [ixN_int h h2]
theorem unG_ok (u : Unit) (ρ : Env) : unG (.ok u ρ) = .ok u ρ := id rfl
def mlK (c : Bool) (f : List D → List D → Option (List D × D)) (ma : M (List D)) (p : Pth) (ρ1 : Env) (o : Option D) : O D := match o with
  | some (.lst _ _) => if (p.2.isEmpty || c) = true then (ma ρ1).bind fun as ρ2 => (match getR ρ2 p with
    | some (.lst true ds) => (match f ds as with
      | some (ds', d) => .ok d (setR ρ2 p (.lst true ds'))
      | none => .no)
    | _ => .no) else .no
  | _ => .no
def mmK (f : List D → List D → Option (List D × D)) (p : Pth) (as : List D) (ρ : Env) (o : Option D) : O D := match o with
    | some (.lst true ds) => (match f ds as with
      | some (ds', d) => .ok d (setR ρ p (.lst true ds'))
      | none => .no)
    | _ => .no
theorem mMethL_e (c : Bool) (f : List D → List D → Option (List D × D)) (q : M Pth) (ma : M (List D)) (ρ : Env) : mMethL c f q ma ρ = (q ρ).bind fun p ρ1 => mlK c f ma p ρ1 (getR ρ1 p) := id rfl
theorem mlK_lst (c : Bool) (f : List D → List D → Option (List D × D)) (ma : M (List D)) (p : Pth) (ρ : Env) (b : Bool) (ds : List D) (h : (p.2.isEmpty || c) = true) : mlK c f ma p ρ (some (.lst b ds)) = (ma ρ).bind fun as ρ2 => mmK f p as ρ2 (getR ρ2 p) := id (if_pos h)
theorem mmK_lst (f : List D → List D → Option (List D × D)) (p : Pth) (as : List D) (ρ : Env) (ds ds' : List D) (d : D) (h : f ds as = some (ds', d)) : mmK f p as ρ (some (.lst true ds)) = .ok d (setR ρ p (.lst true ds')) := by
  unfold mmK; simp only [h]
theorem lAppend_e (ds : List D) (d : D) (h : ds.length < 16777216) : lAppend ds [d] = some (ds ++ [d], .non) := id (if_pos h)
theorem dLen_lst (b : Bool) (ds : List D) : dLen (.lst b ds) = some (.int ds.length) := id rfl
theorem dLen_tup (ds : List D) : dLen (.tup ds) = some (.int ds.length) := id rfl
theorem dLen_out (ds : List D) : dLen (.out ds) = some (.int ds.length) := id rfl
theorem ite_t {γ : Type} (x y : γ) : (if true = true then x else y) = x := id rfl
theorem ite_f {γ : Type} (x y : γ) : (if false = true then x else y) = y := id rfl
end
end Z

end
section
set_option maxRecDepth 100000
/-! S: isinstance, the law's own comparison -/
namespace Z
open PySem (Str)
theorem kit_NoneType_tuple : L2.kitB "NoneType" "tuple" = some false := by decide +kernel
theorem isi_non_tuple  : dIsi "tuple" (.non ) = some (.bl false) := by
  show (L2.kitB "NoneType" "tuple").map D.bl = _
  rw [kit_NoneType_tuple]; rfl
theorem kit_bool_tuple : L2.kitB "bool" "tuple" = some false := by decide +kernel
theorem isi_bl_tuple (b : Bool) : dIsi "tuple" (.bl b) = some (.bl false) := by
  show (L2.kitB "bool" "tuple").map D.bl = _
  rw [kit_bool_tuple]; rfl
theorem kit_int_tuple : L2.kitB "int" "tuple" = some false := by decide +kernel
theorem isi_int_tuple (i : Int) : dIsi "tuple" (.int i) = some (.bl false) := by
  show (L2.kitB "int" "tuple").map D.bl = _
  rw [kit_int_tuple]; rfl
theorem kit_str_tuple : L2.kitB "str" "tuple" = some false := by decide +kernel
theorem isi_str_tuple (x : Str) : dIsi "tuple" (.str x) = some (.bl false) := by
  show (L2.kitB "str" "tuple").map D.bl = _
  rw [kit_str_tuple]; rfl
theorem kit_tuple_tuple : L2.kitB "tuple" "tuple" = some true := by decide +kernel
theorem isi_tup_tuple (ds : List D) : dIsi "tuple" (.tup ds) = some (.bl true) := by
  show (L2.kitB "tuple" "tuple").map D.bl = _
  rw [kit_tuple_tuple]; rfl
theorem kit_list_tuple : L2.kitB "list" "tuple" = some false := by decide +kernel
theorem isi_lst_tuple (o : Bool) (ds : List D) : dIsi "tuple" (.lst o ds) = some (.bl false) := by
  show (L2.kitB "list" "tuple").map D.bl = _
  rw [kit_list_tuple]; rfl
theorem isi_out_tuple (ds : List D) : dIsi "tuple" (.out ds) = some (.bl false) := by
  show (L2.kitB "list" "tuple").map D.bl = _
  rw [kit_list_tuple]; rfl
theorem kit_NoneType_list : L2.kitB "NoneType" "list" = some false := by decide +kernel
theorem isi_non_list  : dIsi "list" (.non ) = some (.bl false) := by
  show (L2.kitB "NoneType" "list").map D.bl = _
  rw [kit_NoneType_list]; rfl
theorem kit_bool_list : L2.kitB "bool" "list" = some false := by decide +kernel
theorem isi_bl_list (b : Bool) : dIsi "list" (.bl b) = some (.bl false) := by
  show (L2.kitB "bool" "list").map D.bl = _
  rw [kit_bool_list]; rfl
theorem kit_int_list : L2.kitB "int" "list" = some false := by decide +kernel
theorem isi_int_list (i : Int) : dIsi "list" (.int i) = some (.bl false) := by
  show (L2.kitB "int" "list").map D.bl = _
  rw [kit_int_list]; rfl
theorem kit_str_list : L2.kitB "str" "list" = some false := by decide +kernel
theorem isi_str_list (x : Str) : dIsi "list" (.str x) = some (.bl false) := by
  show (L2.kitB "str" "list").map D.bl = _
  rw [kit_str_list]; rfl
theorem kit_tuple_list : L2.kitB "tuple" "list" = some false := by decide +kernel
theorem isi_tup_list (ds : List D) : dIsi "list" (.tup ds) = some (.bl false) := by
  show (L2.kitB "tuple" "list").map D.bl = _
  rw [kit_tuple_list]; rfl
theorem kit_list_list : L2.kitB "list" "list" = some true := by decide +kernel
theorem isi_lst_list (o : Bool) (ds : List D) : dIsi "list" (.lst o ds) = some (.bl true) := by
  show (L2.kitB "list" "list").map D.bl = _
  rw [kit_list_list]; rfl
theorem isi_out_list (ds : List D) : dIsi "list" (.out ds) = some (.bl true) := by
  show (L2.kitB "list" "list").map D.bl = _
  rw [kit_list_list]; rfl
theorem kit_NoneType_bool : L2.kitB "NoneType" "bool" = some false := by decide +kernel
theorem isi_non_bool  : dIsi "bool" (.non ) = some (.bl false) := by
  show (L2.kitB "NoneType" "bool").map D.bl = _
  rw [kit_NoneType_bool]; rfl
theorem kit_bool_bool : L2.kitB "bool" "bool" = some true := by decide +kernel
theorem isi_bl_bool (b : Bool) : dIsi "bool" (.bl b) = some (.bl true) := by
  show (L2.kitB "bool" "bool").map D.bl = _
  rw [kit_bool_bool]; rfl
theorem kit_int_bool : L2.kitB "int" "bool" = some false := by decide +kernel
theorem isi_int_bool (i : Int) : dIsi "bool" (.int i) = some (.bl false) := by
  show (L2.kitB "int" "bool").map D.bl = _
  rw [kit_int_bool]; rfl
theorem kit_str_bool : L2.kitB "str" "bool" = some false := by decide +kernel
theorem isi_str_bool (x : Str) : dIsi "bool" (.str x) = some (.bl false) := by
  show (L2.kitB "str" "bool").map D.bl = _
  rw [kit_str_bool]; rfl
theorem kit_tuple_bool : L2.kitB "tuple" "bool" = some false := by decide +kernel
theorem isi_tup_bool (ds : List D) : dIsi "bool" (.tup ds) = some (.bl false) := by
  show (L2.kitB "tuple" "bool").map D.bl = _
  rw [kit_tuple_bool]; rfl
theorem kit_list_bool : L2.kitB "list" "bool" = some false := by decide +kernel
theorem isi_lst_bool (o : Bool) (ds : List D) : dIsi "bool" (.lst o ds) = some (.bl false) := by
  show (L2.kitB "list" "bool").map D.bl = _
  rw [kit_list_bool]; rfl
theorem isi_out_bool (ds : List D) : dIsi "bool" (.out ds) = some (.bl false) := by
  show (L2.kitB "list" "bool").map D.bl = _
  rw [kit_list_bool]; rfl
theorem kit_NoneType_int : L2.kitB "NoneType" "int" = some false := by decide +kernel
theorem isi_non_int  : dIsi "int" (.non ) = some (.bl false) := by
  show (L2.kitB "NoneType" "int").map D.bl = _
  rw [kit_NoneType_int]; rfl
theorem kit_bool_int : L2.kitB "bool" "int" = some true := by decide +kernel
theorem isi_bl_int (b : Bool) : dIsi "int" (.bl b) = some (.bl true) := by
  show (L2.kitB "bool" "int").map D.bl = _
  rw [kit_bool_int]; rfl
theorem kit_int_int : L2.kitB "int" "int" = some true := by decide +kernel
theorem isi_int_int (i : Int) : dIsi "int" (.int i) = some (.bl true) := by
  show (L2.kitB "int" "int").map D.bl = _
  rw [kit_int_int]; rfl
theorem kit_str_int : L2.kitB "str" "int" = some false := by decide +kernel
theorem isi_str_int (x : Str) : dIsi "int" (.str x) = some (.bl false) := by
  show (L2.kitB "str" "int").map D.bl = _
  rw [kit_str_int]; rfl
theorem kit_tuple_int : L2.kitB "tuple" "int" = some false := by decide +kernel
theorem isi_tup_int (ds : List D) : dIsi "int" (.tup ds) = some (.bl false) := by
  show (L2.kitB "tuple" "int").map D.bl = _
  rw [kit_tuple_int]; rfl
theorem kit_list_int : L2.kitB "list" "int" = some false := by decide +kernel
theorem isi_lst_int (o : Bool) (ds : List D) : dIsi "int" (.lst o ds) = some (.bl false) := by
  show (L2.kitB "list" "int").map D.bl = _
  rw [kit_list_int]; rfl
theorem isi_out_int (ds : List D) : dIsi "int" (.out ds) = some (.bl false) := by
  show (L2.kitB "list" "int").map D.bl = _
  rw [kit_list_int]; rfl
theorem kit_NoneType_str : L2.kitB "NoneType" "str" = some false := by decide +kernel
theorem isi_non_str  : dIsi "str" (.non ) = some (.bl false) := by
  show (L2.kitB "NoneType" "str").map D.bl = _
  rw [kit_NoneType_str]; rfl
theorem kit_bool_str : L2.kitB "bool" "str" = some false := by decide +kernel
theorem isi_bl_str (b : Bool) : dIsi "str" (.bl b) = some (.bl false) := by
  show (L2.kitB "bool" "str").map D.bl = _
  rw [kit_bool_str]; rfl
theorem kit_int_str : L2.kitB "int" "str" = some false := by decide +kernel
theorem isi_int_str (i : Int) : dIsi "str" (.int i) = some (.bl false) := by
  show (L2.kitB "int" "str").map D.bl = _
  rw [kit_int_str]; rfl
theorem kit_str_str : L2.kitB "str" "str" = some true := by decide +kernel
theorem isi_str_str (x : Str) : dIsi "str" (.str x) = some (.bl true) := by
  show (L2.kitB "str" "str").map D.bl = _
  rw [kit_str_str]; rfl
theorem kit_tuple_str : L2.kitB "tuple" "str" = some false := by decide +kernel
theorem isi_tup_str (ds : List D) : dIsi "str" (.tup ds) = some (.bl false) := by
  show (L2.kitB "tuple" "str").map D.bl = _
  rw [kit_tuple_str]; rfl
theorem kit_list_str : L2.kitB "list" "str" = some false := by decide +kernel
theorem isi_lst_str (o : Bool) (ds : List D) : dIsi "str" (.lst o ds) = some (.bl false) := by
  show (L2.kitB "list" "str").map D.bl = _
  rw [kit_list_str]; rfl
theorem isi_out_str (ds : List D) : dIsi "str" (.out ds) = some (.bl false) := by
  show (L2.kitB "list" "str").map D.bl = _
  rw [kit_list_str]; rfl
theorem oisN_non  : oIsN (.non ) = some (.bl true) := id rfl
theorem onotN_non  : oNotN (.non ) = some (.bl false) := id rfl
theorem oisN_bl (b : Bool) : oIsN (.bl b) = some (.bl false) := id rfl
theorem onotN_bl (b : Bool) : oNotN (.bl b) = some (.bl true) := id rfl
theorem oisN_int (i : Int) : oIsN (.int i) = some (.bl false) := id rfl
theorem onotN_int (i : Int) : oNotN (.int i) = some (.bl true) := id rfl
theorem oisN_str (x : Str) : oIsN (.str x) = some (.bl false) := id rfl
theorem onotN_str (x : Str) : oNotN (.str x) = some (.bl true) := id rfl
theorem oisN_tup (ds : List D) : oIsN (.tup ds) = some (.bl false) := id rfl
theorem onotN_tup (ds : List D) : oNotN (.tup ds) = some (.bl true) := id rfl
theorem oisN_lst (o : Bool) (ds : List D) : oIsN (.lst o ds) = some (.bl false) := id rfl
theorem onotN_lst (o : Bool) (ds : List D) : oNotN (.lst o ds) = some (.bl true) := id rfl
theorem oisN_out (ds : List D) : oIsN (.out ds) = some (.bl false) := id rfl
theorem onotN_out (ds : List D) : oNotN (.out ds) = some (.bl true) := id rfl
theorem eq_str {x y : Str} (h : PySem.PyData.strOk x = true) (h2 : PySem.PyData.strOk y = true) : dEq (.str x) (.str y) = some (.bl (x == y)) := by
  show (if (PySem.SeqAt.shaped (.str x) && PySem.SeqAt.shaped (.str y)) = true then some (x == y) else none).map D.bl = _
  have e : ∀ z : Str, PySem.PyData.strOk z = true → PySem.SeqAt.shaped (.str z) = true := fun z hz => by
    unfold PySem.SeqAt.shaped
    rw [Bool.and_eq_true]
    exact ⟨hz, rfl⟩
  rw [e x h, e y h2]
  rfl
theorem beq_tf : (true == false) = false := id rfl
theorem beq_ft : (false == true) = false := id rfl
/-! slices, lists, comprehensions -/
theorem mSlice_e (f : D → Option Int → Option Int → Option D) (m : M D) (ml mh : M (Option Int)) (ρ : Env) : mSlice f m ml mh ρ = (m ρ).bind fun d ρ1 => (ml ρ1).bind fun lo ρ2 => (mh ρ2).bind fun hi ρ3 => ofOpt (f d lo hi) ρ3 := id rfl
theorem mNoPart_e (ρ : Env) : mNoPart ρ = .ok none ρ := id rfl
def ptK (d : D) (ρ : Env) : O (Option Int) := match d with
  | .int i => .ok (some i) ρ
  | _ => .no
theorem mPart_e (m : M D) (ρ : Env) : mPart m ρ = (m ρ).bind ptK := by
  unfold mPart; cases m ρ with
  | ok d ρ => cases d <;> rfl
  | _ => rfl
theorem ptK_int (i : Int) (ρ : Env) : ptK (.int i) ρ = .ok (some i) ρ := id rfl
theorem sLst_lst (b : Bool) (ds : List D) (lo hi : Option Int) : sLst (.lst b ds) lo hi = some (.lst true (frzL (cutD ds lo hi))) := id rfl
theorem sLst_out (ds : List D) (lo hi : Option Int) : sLst (.out ds) lo hi = some (.lst true (frzL (cutD ds lo hi))) := id rfl
theorem fList_lst (b : Bool) (ds : List D) : fList [.lst b ds] = some (.lst true (frzL ds)) := id rfl
theorem fList_out (ds : List D) : fList [.out ds] = some (.lst true (frzL ds)) := id rfl
theorem fList_tup (ds : List D) : fList [.tup ds] = some (.lst true (frzL ds)) := id rfl
theorem itemsOf_lst (b : Bool) (ds : List D) : itemsOf (.lst b ds) = some (frzL ds) := id rfl
theorem itemsOf_out (ds : List D) : itemsOf (.out ds) = some (frzL ds) := id rfl
theorem itemsOf_tup (ds : List D) : itemsOf (.tup ds) = some (frzL ds) := id rfl
theorem frzL_frzL (ds : List D) : frzL (frzL ds) = frzL ds := by
  have key : ∀ d : D, frz (frz d) = frz d := by
    intro d
    induction d using D.rec (motive_2 := fun ds => frzL (frzL ds) = frzL ds) with
    | nil => rfl
    | cons d ds h1 h2 => rw [frzL, frzL, h1, h2]
    | hole => rfl
    | non => rfl
    | bl b => rfl
    | int i => rfl
    | str x => rfl
    | tup ds h => rw [frz, frz, h]
    | lst o ds h => rw [frz, frz, h]
    | out ds h => rw [frz, frz, h]
    | dic o ks ds h => rw [frz, frz, h]
    | dit o ks ds h => rw [frz, frz, h]
    | dnk o ds h => rfl
    | ins o c fs ds h => rw [frz, frz, h]
  rw [frzL_eq, frzL_eq, List.map_map]
  apply List.map_congr_left
  intro d _
  exact key d
theorem cutD_map {α : Type} (f : α → D) (xs : List α) (lo hi : Option Int) : ∃ ys : List α, cutD (xs.map f) lo hi = ys.map f := by
  unfold cutD
  rw [← List.map_drop, ← List.map_take]
  exact ⟨_, rfl⟩
def lcK (vs : List Nat) (k : Bk) (ρ1 : Env) (o : O (List D)) : O D := match o with
  | .ok acc ρ2 => if holeAt k (restR vs ρ1 ρ2) = true then .ok (.lst true acc) (putBk k (restR vs ρ1 ρ2)) else .no
  | _ => .no
theorem mLc_e (vs : List Nat) (it : M (List D × Bk)) (g : D → M Unit) (t : M Bool) (m : M D) (ρ : Env) : mLc vs it g t m ρ = (it ρ).bind fun x ρ1 => lcK vs x.2 ρ1 (loopC vs g t m x.1 [] (wipeR vs ρ1)) := id rfl
theorem lcK_ok (vs : List Nat) (ρ1 : Env) (acc : List D) (ρ2 : Env) : lcK vs none ρ1 (.ok acc ρ2) = .ok (.lst true acc) (restR vs ρ1 ρ2) := id rfl
def lbK (i : Nat) (d : D) (acc : List D) (ρ : Env) : O D := if holeAt (some (i, d)) ρ = true then .ok (.lst true acc) (ρ.set i d) else .no
theorem lcK_ok1 (vs : List Nat) (i : Nat) (d : D) (ρ1 : Env) (acc : List D) (ρ2 : Env) : lcK vs (some (i, d)) ρ1 (.ok acc ρ2) = lbK i d acc (restR vs ρ1 ρ2) := id rfl
theorem lbK_ok (i : Nat) (d : D) (acc : List D) (ρ : Env) (h : ρ[i]? = some .hole) : lbK i d acc ρ = .ok (.lst true acc) (ρ.set i d) := by
  unfold lbK holeAt
  simp only [h]
  rfl
theorem wipeR_nil (ρ : Env) : wipeR [] ρ = ρ := id rfl
theorem wipeR_cons (v : Nat) (vs : List Nat) (ρ : Env) : wipeR (v :: vs) ρ = (wipeR vs ρ).set v .hole := id rfl
def rsK (v : Nat) (o : Option D) (ρ2 : Env) : Env := match o with
  | some d => ρ2.set v d
  | none => ρ2
theorem restR_nil (ρ1 ρ2 : Env) : restR [] ρ1 ρ2 = ρ2 := id rfl
theorem restR_cons (v : Nat) (vs : List Nat) (ρ1 ρ2 : Env) : restR (v :: vs) ρ1 ρ2 = restR vs ρ1 (rsK v ((wipeR vs ρ1)[v]?) ρ2) := id rfl
theorem rsK_some (v : Nat) (d : D) (ρ2 : Env) : rsK v (some d) ρ2 = ρ2.set v d := id rfl
theorem mYes_e (ρ : Env) : mYes ρ = .ok true ρ := id rfl
/-- a comprehension that only looks -/
theorem lc_pure {vs : List Nat} {g : D → M Unit} {t : M Bool} {m : M D} {E : Env} {p : D → Bool} {h : D → D} : ∀ (ds acc : List D), acc.length + ds.length ≤ 16777216 →
    (∀ d ∈ ds, ∃ ρ1 ρ2, g d E = .ok () ρ1 ∧ t ρ1 = .ok (p d) ρ2 ∧ (p d = false → wipeR vs ρ2 = E) ∧ (p d = true → ∃ ρ3, m ρ2 = .ok (h d) ρ3 ∧ wipeR vs ρ3 = E)) →
    loopC vs g t m ds acc E = .ok (acc ++ (ds.filter p).map h) E
  | [], acc, _, _ => by simp [loopC]
  | d :: ds, acc, hl, H => by
    obtain ⟨ρ1, ρ2, e1, e2, e3, e4⟩ := H d (by simp)
    rw [loopC, e1]
    simp only [e2]
    rw [List.length_cons] at hl
    cases hp : p d with
    | false =>
      simp only
      rw [e3 hp, lc_pure ds acc (by omega) fun d hd => H d (by simp [hd]), List.filter_cons_of_neg (by rw [hp]; decide)]
    | true =>
      obtain ⟨ρ3, e5, e6⟩ := e4 hp
      simp only [e5]
      have hlt : acc.length < PySem.sizeLine := by
        have : acc.length < 16777216 := by omega
        exact this
      rw [if_pos hlt, e6, lc_pure ds (acc ++ [h d]) (by rw [List.length_append, List.length_cons, List.length_nil]; omega) fun d hd => H d (by simp [hd]), List.filter_cons_of_pos hp, List.map_cons, List.append_assoc, List.cons_append, List.nil_append]
/-- a comprehension whose items draw: a state goes along -/
theorem lc_state {S : Type} {vs : List Nat} {g : D → M Unit} {m : M D} (enc : S → Env) (I : S → Prop) (P : D → Prop) : ∀ (ds acc : List D) (s : S), acc.length + ds.length ≤ 16777216 → I s →
    (∀ d ∈ ds, ∀ s, I s → ∃ ρ1 z ρ3 s', g d (enc s) = .ok () ρ1 ∧ m ρ1 = .ok z ρ3 ∧ wipeR vs ρ3 = enc s' ∧ I s' ∧ P z) →
    ∃ zs s', loopC vs g mYes m ds acc (enc s) = .ok (acc ++ zs) (enc s') ∧ zs.length = ds.length ∧ I s' ∧ ∀ z ∈ zs, P z
  | [], acc, s, _, hs, _ => ⟨[], s, by simp [loopC], rfl, hs, fun z hz => by simp at hz⟩
  | d :: ds, acc, s, hl, hs, H => by
    obtain ⟨ρ1, z, ρ3, s1, e1, e2, e3, i1, pz⟩ := H d (by simp) s hs
    rw [List.length_cons] at hl
    obtain ⟨zs, s', e4, e5, i2, pzs⟩ := lc_state enc I P ds (acc ++ [z]) s1 (by rw [List.length_append, List.length_cons, List.length_nil]; omega) i1 fun d hd => H d (by simp [hd])
    refine ⟨z :: zs, s', ?_, by rw [List.length_cons, List.length_cons, e5], i2, fun y hy => ?_⟩
    · rw [loopC, e1]
      simp only [mYes_e, e2]
      have hlt : acc.length < PySem.sizeLine := by
        have : acc.length < 16777216 := by omega
        exact this
      rw [if_pos hlt, e3, e4, List.append_assoc, List.cons_append, List.nil_append]
    · rcases List.mem_cons.mp hy with rfl | hy
      · exact pz
      · exact pzs y hy
/-- a loop that reckons -/
theorem loop_fold {S : Type} {g : D → M Unit} {b : M Fl} (enc : S → D → Env) (f : S → D → S) : ∀ (ds : List D) (s : S) (kv : D), (∀ d ∈ ds, ∀ s kv, ∃ ρ1 kv', g d (enc s kv) = .ok () ρ1 ∧ b ρ1 = .ok .nx (enc (f s d) kv')) →
    ∃ kv', mLoop g b ds (enc s kv) = .ok .nx (enc (ds.foldl f s) kv')
  | [], s, kv, _ => ⟨kv, rfl⟩
  | d :: ds, s, kv, H => by
    obtain ⟨ρ1, kv', e1, e2⟩ := H d (by simp) s kv
    obtain ⟨kv2, e3⟩ := loop_fold enc f ds (f s d) kv' fun d hd => H d (by simp [hd])
    exact ⟨kv2, by rw [mLoop_cons, e1, goG_ok, e2, lpK_nx, e3]; rfl⟩
end Z

end
section
set_option maxRecDepth 100000
/-! SB: masks as natural numbers -/
namespace Z
open PySem (Str)
/-- the number of members -/
def wt (m : Nat) : Nat := if h : m = 0 then 0 else m % 2 + wt (m / 2)
termination_by m
decreasing_by omega
theorem wt_zero : wt 0 = 0 := by rw [wt]; simp
theorem wt_pos {m : Nat} (h : m ≠ 0) : wt m = m % 2 + wt (m / 2) := by rw [wt]; simp [h]
theorem wt_two (q : Nat) : wt (2 * q) = wt q := by
  by_cases h : q = 0
  · subst h; rfl
  · rw [wt_pos (by omega)]
    rw [show 2 * q % 2 = 0 by omega, show 2 * q / 2 = q by omega, Nat.zero_add]
theorem wt_odd (q : Nat) : wt (2 * q + 1) = 1 + wt q := by
  rw [wt_pos (by omega), show (2 * q + 1) % 2 = 1 by omega, show (2 * q + 1) / 2 = q by omega]
theorem and_even (a b : Nat) : (2 * a) &&& (2 * b) = 2 * (a &&& b) := by
  apply Nat.eq_of_testBit_eq
  intro i
  cases i with
  | zero => simp [Nat.testBit_zero]
  | succ i => rw [Nat.testBit_and]; simp [Nat.testBit_succ]
theorem and_oddL (a b : Nat) : (2 * a) &&& (2 * b + 1) = 2 * (a &&& b) := by
  apply Nat.eq_of_testBit_eq
  intro i
  cases i with
  | zero => simp [Nat.testBit_zero]
  | succ i => rw [Nat.testBit_and]; simp [Nat.testBit_succ, show (2 * b + 1) / 2 = b by omega]
theorem and_oddR (a b : Nat) : (2 * a + 1) &&& (2 * b) = 2 * (a &&& b) := by rw [Nat.and_comm, and_oddL, Nat.and_comm]
theorem wt_clear : ∀ (m : Nat), 0 < m → wt (m &&& (m - 1)) + 1 = wt m := by
  intro m
  induction m using Nat.strongRecOn with
  | _ m ih =>
    intro h
    rcases Nat.mod_two_eq_zero_or_one m with e | e
    · obtain ⟨q, rfl⟩ : ∃ q, m = 2 * q := ⟨m / 2, by omega⟩
      have hq : 0 < q := by omega
      rw [show 2 * q - 1 = 2 * (q - 1) + 1 by omega, and_oddL, wt_two, wt_two]
      exact ih q (by omega) hq
    · obtain ⟨q, rfl⟩ : ∃ q, m = 2 * q + 1 := ⟨m / 2, by omega⟩
      rw [show 2 * q + 1 - 1 = 2 * q by omega, and_oddR, Nat.and_self, wt_two, wt_odd]
      omega
theorem and_pred_lt {m : Nat} (h : 0 < m) : m &&& (m - 1) < m := Nat.lt_of_le_of_lt Nat.and_le_right (by omega)
def bl (m : Nat) : Nat := PySem.Builtin.Int.intBits (m : Int)
theorem bl_le {m n : Nat} : bl m ≤ n ↔ m < 2 ^ n := PySem.intBits_le_iff (x := (m : Int))
theorem bl_lt (m : Nat) : m < 2 ^ bl m := bl_le.mp (Nat.le_refl _)
def memN (n m : Nat) : List Nat := (List.range n).filter fun k => m.testBit k
/-- the members -/
def mem (m : Nat) : List Nat := memN (bl m) m
theorem memN_succ (n m : Nat) : memN (n + 1) m = (if m % 2 = 1 then [0] else []) ++ (memN n (m / 2)).map Nat.succ := by
  unfold memN
  rw [List.range_succ_eq_map, List.filter_cons, List.filter_map]
  have e : ((fun k => m.testBit k) ∘ Nat.succ) = fun k => (m / 2).testBit k := by
    funext k; simp [Function.comp, Nat.testBit_succ]
  rw [e]
  by_cases h : m % 2 = 1
  · simp [Nat.testBit_zero, h]
  · simp [Nat.testBit_zero, h]
theorem memN_len : ∀ (n m : Nat), m < 2 ^ n → (memN n m).length = wt m
  | 0, m, h => by
    have : m = 0 := by simpa using h
    subst this; rw [wt_zero]; rfl
  | n + 1, m, h => by
    rw [memN_succ, List.length_append, List.length_map, memN_len n (m / 2) (by rw [Nat.pow_succ] at h; omega)]
    by_cases hm : m = 0
    · subst hm; simp [wt_zero]
    · rw [wt_pos hm]
      rcases Nat.mod_two_eq_zero_or_one m with e | e <;> simp [e]
theorem mem_len (m : Nat) : (mem m).length = wt m := memN_len _ _ (bl_lt m)
theorem wt_le {n m : Nat} (h : m < 2 ^ n) : wt m ≤ n := by
  rw [← memN_len n m h]
  unfold memN
  exact Nat.le_trans (List.length_filter_le _ _) (by simp)
/-- the exclusive or of the single members -/
def xorL (l : List Nat) (a : Nat) : Nat := l.foldl (fun a k => a ^^^ 2 ^ k) a
theorem xorL_acc : ∀ (l : List Nat) (a : Nat), xorL l a = a ^^^ xorL l 0
  | [], a => by simp [xorL]
  | k :: l, a => by
    show xorL l (a ^^^ 2 ^ k) = a ^^^ xorL l (0 ^^^ 2 ^ k)
    rw [xorL_acc l (a ^^^ 2 ^ k), xorL_acc l (0 ^^^ 2 ^ k), Nat.zero_xor, Nat.xor_assoc]
theorem xorL_app (l r : List Nat) (a : Nat) : xorL (l ++ r) a = xorL r (xorL l a) := by unfold xorL; rw [List.foldl_append]
theorem xor_even (a b : Nat) : (2 * a) ^^^ (2 * b) = 2 * (a ^^^ b) := by
  apply Nat.eq_of_testBit_eq
  intro i
  cases i with
  | zero => simp [Nat.testBit_zero]
  | succ i => rw [Nat.testBit_xor]; simp [Nat.testBit_succ]
theorem xorL_succ : ∀ (l : List Nat), xorL (l.map Nat.succ) 0 = 2 * xorL l 0
  | [] => rfl
  | k :: l => by
    show xorL (l.map Nat.succ) (0 ^^^ 2 ^ (k + 1)) = 2 * xorL l (0 ^^^ 2 ^ k)
    rw [xorL_acc, xorL_acc l, xorL_succ l, Nat.zero_xor, Nat.zero_xor, Nat.pow_succ, Nat.mul_comm (2 ^ k) 2, xor_even]
theorem one_xor_even (a : Nat) : 1 ^^^ (2 * a) = 2 * a + 1 := by
  apply Nat.eq_of_testBit_eq
  intro i
  cases i with
  | zero => simp [Nat.testBit_zero]
  | succ i => rw [Nat.testBit_xor]; simp [Nat.testBit_succ, show (2 * a + 1) / 2 = a by omega]
theorem xorL_memN : ∀ (n m : Nat), m < 2 ^ n → xorL (memN n m) 0 = m
  | 0, m, h => by
    have : m = 0 := by simpa using h
    subst this; rfl
  | n + 1, m, h => by
    rw [memN_succ, xorL_app, xorL_acc, xorL_succ, xorL_memN n (m / 2) (by rw [Nat.pow_succ] at h; omega)]
    rcases Nat.mod_two_eq_zero_or_one m with e | e
    · simp only [e]; show 0 ^^^ _ = _; rw [Nat.zero_xor]; omega
    · simp only [e]; show (0 ^^^ 2 ^ 0) ^^^ _ = _
      rw [Nat.zero_xor, show 2 ^ 0 = 1 from rfl, one_xor_even]; omega
theorem xorL_mem (m : Nat) : xorL (mem m) 0 = m := xorL_memN _ _ (bl_lt m)
/-! the operators on masks -/
theorem dAnd_nat (m k : Nat) : dAnd (.int m) (.int k) = some (.int ((m &&& k : Nat) : Int)) := by
  show some (D.int (PySem.Builtin.bitAnd m k)) = _
  rw [PyProof.Rows.bitAnd_pp (by omega) (by omega)]; rfl
theorem dOr_nat (m k : Nat) : dOr (.int m) (.int k) = some (.int ((m ||| k : Nat) : Int)) := by
  show some (D.int (PySem.Builtin.bitOr m k)) = _
  rw [Bits.bitOr_pp (by omega) (by omega)]; rfl
theorem dXor_nat (m k : Nat) : dXor (.int m) (.int k) = some (.int ((m ^^^ k : Nat) : Int)) := by
  show some (D.int (PySem.Builtin.bitXor m k)) = _
  rw [Bits.bitXor_pp (by omega) (by omega)]; rfl
theorem dShr_nat (m k : Nat) : dShr (.int m) (.int k) = some (.int ((m / 2 ^ k : Nat) : Int)) := by
  rw [shr_int (by omega)]
  simp
theorem dShl_nat (m k n : Nat) (h : m < 2 ^ n) (hn : n + k ≤ 134217728) : dShl (.int m) (.int k) = some (.int ((m * 2 ^ k : Nat) : Int)) := by
  have c := L2.shl_ok (i := (m : Int)) (j := k) (n := n) (by simpa using h) hn
  show (if (decide (0 ≤ (k : Int)) && decide ((PySem.Builtin.Int.intBits (m : Int) : Int) + (k : Int) ≤ 2 ^ 27)) = true then some (D.int ((m : Int) * 2 ^ (k : Int).toNat)) else none) = _
  rw [if_pos (by rw [decide_eq_true c.1, decide_eq_true c.2]; rfl)]
  simp
theorem dShl_one (k : Nat) (hn : k ≤ 134217000) : dShl (.int 1) (.int k) = some (.int ((2 ^ k : Nat) : Int)) := by
  have := dShl_nat 1 k 1 (by decide) (by omega)
  rw [Nat.one_mul] at this
  exact this
theorem dBits_nat (m : Nat) : dBits (.int m) = some (.int (bl m : Nat)) := id rfl
theorem bit_of (m k : Nat) : (m / 2 ^ k) &&& 1 = if m.testBit k then 1 else 0 := by
  rw [Nat.and_one_is_mod]
  have := Nat.testBit_eq_decide_div_mod_eq (x := m) (i := k)
  rw [this]
  rcases Nat.mod_two_eq_zero_or_one (m / 2 ^ k) with e | e <;> simp [e]
def agK (i : Nat) (f : D → D → Option D) (m : M D) (o : Option D) (ρ : Env) : O Fl := match o with
  | some d => if shr d = true then (m ρ).bind fun e ρ1 => (match f d e with
      | some z => goG (dName i z ρ1) fun ρ2 => .ok .nx ρ2
      | none => .no)
    else .no
  | none => .no
theorem mAug_e (i : Nat) (f : D → D → Option D) (m : M D) (ρ : Env) : mAug i f m ρ = agK i f m (ρ[i]?) ρ := id rfl
theorem agK_some (i : Nat) (f : D → D → Option D) (m : M D) (d : D) (ρ : Env) (h : shr d = true) : agK i f m (some d) ρ = (m ρ).bind fun e ρ1 => (ofOpt (f d e) ρ1).bind fun z ρ2 => goG (dName i z ρ2) fun ρ3 => .ok .nx ρ3 := by
  show (if shr d = true then _ else _) = _
  rw [if_pos h]
  congr
  funext e ρ1
  cases f d e <;> rfl
theorem vK_lst (ds : List D) (i : Nat) (ρ : Env) : vK (some (.lst true ds)) i ρ = .ok (.lst false (frzL ds)) (ρ.set i (.lst false (frzL ds))) := id rfl
theorem mmK_app (p : Pth) (d : D) (ρ : Env) (ds : List D) (h : ds.length < 16777216) : mmK lAppend p [d] ρ (some (.lst true ds)) = .ok .non (setR ρ p (.lst true (ds ++ [d]))) := mmK_lst _ _ _ _ _ _ _ (lAppend_e ds d h)
/-! the pool of the draws -/
def PL (xs : List Int) (a b c s : Int) : D := .lst true [.lst true (xs.map .int), .int a, .int b, .int c, .int s]
theorem PL_hole (xs : List Int) (a b c s : Int) : isHole (PL xs a b c s) = false := id rfl
theorem PL_flat (xs : List Int) (a b c s : Int) : isFlat (PL xs a b c s) = false := id rfl
def nats (l : List Nat) : List D := l.map fun k : Nat => .int (k : Int)
theorem nats_ints (l : List Nat) : nats l = (l.map fun k : Nat => (k : Int)).map .int := by unfold nats; rw [List.map_map]; rfl
theorem nats_len (l : List Nat) : (nats l).length = l.length := by unfold nats; rw [List.length_map]
theorem shrL_nats (l : List Nat) : shrL (nats l) = true := by rw [nats_ints]; exact shrL_ints _
theorem frzL_nats (l : List Nat) : frzL (nats l) = nats l := frzL_shr (shrL_nats l)
/-- what the law's own comparison can take: its depth -/
def okT : Nat → D → Bool
  | _, .non => true
  | _, .bl _ => true
  | _, .int _ => true
  | _, .str x => PySem.PyData.strOk x
  | k + 1, .lst _ ds => decide (ds.length ≤ 16777216) && ds.all (okT k)
  | k + 1, .tup ds => decide (ds.length ≤ 16777216) && ds.all (okT k)
  | _, _ => false
theorem okT_int (k : Nat) (a : Int) : okT k (.int a) = true := by cases k <;> rfl
theorem okT_ints (o : Bool) (k : Nat) (l : List Int) (h : l.length ≤ 16777216) : okT (k + 1) (.lst o (l.map .int)) = true := by
  simp only [okT, List.length_map, decide_eq_true h, Bool.true_and, List.all_map]
  rw [List.all_eq_true]
  intro x _
  exact okT_int _ _

theorem okT_nats (o : Bool) (k : Nat) (l : List Nat) (h : l.length ≤ 16777216) : okT (k + 1) (.lst o (nats l)) = true := by
  rw [nats_ints]; exact okT_ints o k _ (by rw [List.length_map]; exact h)
theorem okT_pyL (k : Nat) (H : ∀ d, okT k d = true → ∃ p, toPy d = some p ∧ p.canLay0 = true ∧ p.depth ≤ k ∧ PySem.PyData.eqv p p = true) : ∀ ds : List D, ds.all (okT k) = true → ∃ ps, toPyL ds = some ps ∧ PySem.PyData.canLayAll0 ps = true ∧ PySem.PyData.depthAll ps ≤ k ∧ PySem.PyData.eqvAll ps ps = true
  | [], _ => ⟨[], rfl, rfl, Nat.zero_le _, rfl⟩
  | d :: ds, h => by
    rw [List.all_cons, Bool.and_eq_true] at h
    obtain ⟨p, e1, e2, e3, e4⟩ := H d h.1
    obtain ⟨ps, f1, f2, f3, f4⟩ := okT_pyL k H ds h.2
    refine ⟨p :: ps, by rw [toPyL, e1, f1], by rw [PySem.PyData.canLayAll0, e2, f2]; rfl, ?_, by rw [PySem.PyData.eqvAll, e4, f4]; rfl⟩
    rw [PySem.PyData.depthAll]
    omega
theorem okT_py : ∀ (k : Nat) (d : D), okT k d = true → ∃ p, toPy d = some p ∧ p.canLay0 = true ∧ p.depth ≤ k ∧ PySem.PyData.eqv p p = true := by
  intro k
  induction k with
  | zero =>
    intro d h
    cases d <;> first | (simp [okT] at h; done) | skip
    · exact ⟨_, rfl, rfl, Nat.le_refl _, rfl⟩
    · exact ⟨_, rfl, rfl, Nat.le_refl _, by simp [PySem.PyData.eqv]⟩
    · exact ⟨_, rfl, rfl, Nat.le_refl _, by simp [PySem.PyData.eqv]⟩
    · exact ⟨_, rfl, h, Nat.le_refl _, by simp [PySem.PyData.eqv]⟩
  | succ k ih =>
    intro d h
    cases d <;> first | (simp [okT] at h; done) | skip
    · exact ⟨_, rfl, rfl, Nat.zero_le _, rfl⟩
    · exact ⟨_, rfl, rfl, Nat.zero_le _, by simp [PySem.PyData.eqv]⟩
    · exact ⟨_, rfl, rfl, Nat.zero_le _, by simp [PySem.PyData.eqv]⟩
    · exact ⟨_, rfl, h, Nat.zero_le _, by simp [PySem.PyData.eqv]⟩
    · simp only [okT, Bool.and_eq_true] at h
      obtain ⟨ps, f1, f2, f3, f4⟩ := okT_pyL k ih _ h.2
      refine ⟨.tuple ps, by rw [toPy, f1]; rfl, f2, ?_, by rw [PySem.PyData.eqv]; exact f4⟩
      rw [PySem.PyData.depth]; omega
    · simp only [okT, Bool.and_eq_true] at h
      obtain ⟨ps, f1, f2, f3, f4⟩ := okT_pyL k ih _ h.2
      refine ⟨.list ps, by rw [toPy, f1]; rfl, f2, ?_, by rw [PySem.PyData.eqv]; exact f4⟩
      rw [PySem.PyData.depth]; omega
mutual
theorem toPy_frz : ∀ d : D, toPy (frz d) = toPy d
  | .non => rfl
  | .bl _ => rfl
  | .int _ => rfl
  | .str _ => rfl
  | .tup ds => by rw [show frz (.tup ds) = .tup (frzL ds) from rfl, toPy, toPy, toPyL_frz ds]
  | .lst _ ds => by rw [show ∀ o, frz (.lst o ds) = .lst false (frzL ds) from fun _ => rfl, toPy, toPy, toPyL_frz ds]
  | .out ds => by rw [show frz (.out ds) = .out (frzL ds) from rfl, toPy, toPy, toPyL_frz ds]
  | .dic _ _ _ => rfl
  | .dit _ _ _ => rfl
  | .dnk _ _ => rfl
  | .ins _ _ _ _ => rfl
  | .hole => rfl
theorem toPyL_frz : ∀ ds : List D, toPyL (frzL ds) = toPyL ds
  | [] => rfl
  | d :: ds => by rw [show frzL (d :: ds) = frz d :: frzL ds from rfl, toPyL, toPyL, toPy_frz d, toPyL_frz ds]
end
theorem eqB_t (k : Nat) (hk : k ≤ 64) {d e : D} (h : okT k d = true) (f : frz d = frz e) : eqB d e = some true := by
  obtain ⟨p, e1, e2, e3, e4⟩ := okT_py k d h
  have e5 : toPy e = some p := by rw [← toPy_frz, ← f, toPy_frz, e1]
  have e6 : PySem.SeqAt.shaped p = true := by
    unfold PySem.SeqAt.shaped
    rw [e2, decide_eq_true (by omega)]; rfl
  unfold eqB
  rw [e1, e5]
  simp only [e6, e4, Bool.and_self, if_true]
theorem eq_t (k : Nat) (hk : k ≤ 64) {d e : D} (h : okT k d = true) (f : frz d = frz e) : dEq d e = some (.bl true) := by
  unfold dEq; rw [eqB_t k hk h f]; rfl
theorem ne_f (k : Nat) (hk : k ≤ 64) {d e : D} (h : okT k d = true) (f : frz d = frz e) : dNe d e = some (.bl false) := by
  unfold dNe; rw [eqB_t k hk h f]; rfl
end Z

end
section
set_option maxRecDepth 100000
/-! SL: masks reduced by masks -/
namespace Z
def top (b : Nat) : Nat := bl b - 1
theorem bl_pos {b : Nat} (h : b ≠ 0) : 1 ≤ bl b := by
  by_cases h0 : bl b = 0
  · have := bl_lt b
    rw [h0] at this
    omega
  · omega
theorem top_bit {b : Nat} (h : b ≠ 0) : b.testBit (top b) = true := by
  have h1 := bl_pos h
  have h2 := bl_lt b
  have h3 : ¬ b < 2 ^ top b := fun c => by
    have := bl_le.mpr c
    unfold top at this
    omega
  rw [show bl b = top b + 1 by unfold top; omega] at h2
  rw [Nat.testBit_eq_decide_div_mod_eq]
  have h4 : b / 2 ^ top b = 1 := by
    have h5 : 0 < 2 ^ top b := Nat.two_pow_pos _
    rw [Nat.pow_succ] at h2
    have h6 : b / 2 ^ top b < 2 := (Nat.div_lt_iff_lt_mul h5).mpr (by omega)
    have h7 : 1 ≤ b / 2 ^ top b := (Nat.le_div_iff_mul_le h5).mpr (by omega)
    omega
  rw [h4]; rfl
theorem above_top {b i : Nat} (h : top b < i) : b.testBit i = false := by
  apply Nat.testBit_lt_two_pow
  by_cases h0 : b = 0
  · subst h0; exact Nat.two_pow_pos _
  · have := bl_lt b
    exact Nat.lt_of_lt_of_le this (Nat.pow_le_pow_right (by omega) (by unfold top at h; omega))
/-- the highest bit decides -/
theorem lt_of_bit {a b : Nat} (i : Nat) (h1 : a.testBit i = false) (h2 : b.testBit i = true) (h3 : ∀ j, i < j → a.testBit j = b.testBit j) : a < b := by
  have e : a / 2 ^ (i + 1) = b / 2 ^ (i + 1) := Nat.eq_of_testBit_eq fun j => by
    rw [Nat.testBit_div_two_pow, Nat.testBit_div_two_pow]
    exact h3 _ (by omega)
  rw [Nat.testBit_eq_decide_div_mod_eq] at h1 h2
  have h1 : a / 2 ^ i % 2 ≠ 1 := by simpa using h1
  have h2 : b / 2 ^ i % 2 = 1 := by simpa using h2
  rw [Nat.pow_succ, ← Nat.div_div_eq_div_mul, ← Nat.div_div_eq_div_mul] at e
  have p : 0 < 2 ^ i := Nat.two_pow_pos i
  have h4 : a / 2 ^ i < b / 2 ^ i := by omega
  exact Nat.lt_of_div_lt_div h4
theorem bl_xor {b l : Nat} (hb : b ≠ 0) (h : l < 2 ^ top b) : bl (b ^^^ l) = bl b ∧ b ^^^ l ≠ 0 := by
  have hb1 := bl_pos hb
  have e : (b ^^^ l).testBit (top b) = true := by
    rw [Nat.testBit_xor, top_bit hb, Nat.testBit_lt_two_pow h]; rfl
  have n : b ^^^ l ≠ 0 := fun c => by rw [c, Nat.zero_testBit] at e; cases e
  refine ⟨?_, n⟩
  have u : bl (b ^^^ l) ≤ bl b := bl_le.mpr (Nat.xor_lt_two_pow (bl_lt b) (Nat.lt_of_lt_of_le h (Nat.pow_le_pow_right (by omega) (by unfold top; omega))))
  have w : ¬ bl (b ^^^ l) ≤ top b := fun c => by
    have := Nat.testBit_lt_two_pow (bl_le.mp c)
    rw [this] at e; cases e
  unfold top at w
  omega
/-- one step -/
def red1 (m b : Nat) : Nat := if m.testBit (top b) = true then m ^^^ b else m
def red (m : Nat) (B : List Nat) : Nat := B.foldl red1 m
theorem red1_lt {m b n : Nat} (h : m < 2 ^ n) (h2 : b < 2 ^ n) : red1 m b < 2 ^ n := by
  unfold red1; split
  · exact Nat.xor_lt_two_pow h h2
  · exact h
theorem red_lt {n : Nat} : ∀ {B : List Nat} {m : Nat}, m < 2 ^ n → (∀ b ∈ B, b < 2 ^ n) → red m B < 2 ^ n
  | [], _, h, _ => h
  | b :: B, m, h, h2 => red_lt (B := B) (red1_lt h (h2 b (by simp))) fun x hx => h2 x (by simp [hx])
theorem xor_lt_of_top {m b : Nat} (hb : b ≠ 0) (h : m.testBit (top b) = true) : m ^^^ b < m := by
  refine lt_of_bit (top b) ?_ h fun j hj => ?_
  · rw [Nat.testBit_xor, h, top_bit hb]; rfl
  · rw [Nat.testBit_xor, above_top hj, Bool.xor_false]
theorem lt_xor_of_top {m b : Nat} (hb : b ≠ 0) (h : m.testBit (top b) = false) : m < m ^^^ b := by
  refine lt_of_bit (top b) h ?_ fun j hj => ?_
  · rw [Nat.testBit_xor, h, top_bit hb]; rfl
  · rw [Nat.testBit_xor, above_top hj, Bool.xor_false]
/-- the lesser of both is the reduced one -/
theorem red1_min {m b : Nat} (hb : b ≠ 0) : (if m ^^^ b < m then m ^^^ b else m) = red1 m b := by
  unfold red1
  cases h : m.testBit (top b) with
  | true => rw [if_pos (xor_lt_of_top hb h), if_pos rfl]
  | false =>
    have := lt_xor_of_top hb h
    rw [if_neg (by omega), if_neg (by decide)]
theorem red1_bit {m b : Nat} (hb : b ≠ 0) : (red1 m b).testBit (top b) = false := by
  unfold red1
  split
  · rename_i h
    rw [Nat.testBit_xor, h, top_bit hb]; rfl
  · rename_i h
    simpa using h
theorem red1_keep {m b i : Nat} (h : b.testBit i = false) : (red1 m b).testBit i = m.testBit i := by
  unfold red1
  split
  · rw [Nat.testBit_xor, h, Bool.xor_false]
  · rfl
theorem red_keep {i : Nat} : ∀ {B : List Nat} {m : Nat}, (∀ b ∈ B, b.testBit i = false) → (red m B).testBit i = m.testBit i
  | [], _, _ => rfl
  | b :: B, m, h => by
    show (red (red1 m b) B).testBit i = _
    rw [red_keep fun x hx => h x (by simp [hx]), red1_keep (h b (by simp))]
/-- no highest bit of one in another -/
def Apart (a b : Nat) : Prop := a.testBit (top b) = false ∧ b.testBit (top a) = false
theorem Apart.symm {a b : Nat} (h : Apart a b) : Apart b a := ⟨h.2, h.1⟩
structure Inv (B : List Nat) : Prop where
  pos : ∀ b ∈ B, b ≠ 0
  ap : B.Pairwise Apart
theorem Inv.perm {B C : List Nat} (h : Inv B) (p : B.Perm C) : Inv C :=
  ⟨fun b hb => h.pos b (p.mem_iff.mpr hb), (p.pairwise_iff fun h => h.symm).mp h.ap⟩
theorem red_clear : ∀ {B : List Nat} {m : Nat}, Inv B → ∀ b ∈ B, (red m B).testBit (top b) = false
  | [], _, _, b, hb => by simp at hb
  | c :: B, m, h, b, hb => by
    have hp := List.pairwise_cons.mp h.ap
    have hB : Inv B := ⟨fun x hx => h.pos x (by simp [hx]), hp.2⟩
    show (red (red1 m c) B).testBit (top b) = false
    rcases List.mem_cons.mp hb with rfl | hb
    · rw [red_keep fun x hx => (hp.1 x hx).2]
      exact red1_bit (h.pos _ (by simp))
    · exact red_clear hB b hb
/-- the next basis, not yet in order -/
def nxt (B : List Nat) (l : Nat) : List Nat := (B.map fun b => red1 b l) ++ [l]
theorem red1_top {b l : Nat} (hb : b ≠ 0) (hl : l ≠ 0) (h : l.testBit (top b) = false) : top (red1 b l) = top b ∧ red1 b l ≠ 0 := by
  unfold red1
  split
  · rename_i c
    have lt : top l < top b := by
      have h1 : top l ≤ top b := by
        by_cases g : top b < top l
        · rw [above_top g] at c; cases c
        · omega
      have h2 : top l ≠ top b := fun e => by rw [← e, top_bit hl] at h; cases h
      omega
    have := bl_xor (l := l) hb (Nat.lt_of_lt_of_le (bl_lt l) (Nat.pow_le_pow_right (by omega) (by have := bl_pos hl; unfold top at lt ⊢; omega)))
    refine ⟨by unfold top; rw [this.1], this.2⟩
  · exact ⟨rfl, hb⟩
theorem Inv.nxt {B : List Nat} {l : Nat} (h : Inv B) (hl : l ≠ 0) (hc : ∀ b ∈ B, l.testBit (top b) = false) : Inv (nxt B l) := by
  refine ⟨fun b hb => ?_, ?_⟩
  · rcases List.mem_append.mp hb with hb | hb
    · obtain ⟨x, hx, rfl⟩ := List.mem_map.mp hb
      exact (red1_top (h.pos x hx) hl (hc x hx)).2
    · rw [List.mem_singleton] at hb; subst hb; exact hl
  · refine List.pairwise_append.mpr ⟨?_, List.pairwise_singleton _ _, fun a ha b hb => ?_⟩
    · rw [List.pairwise_map]
      refine List.Pairwise.imp_of_mem (fun {a b} ha hb hab => ?_) h.ap
      have ta := red1_top (h.pos a ha) hl (hc a ha)
      have tb := red1_top (h.pos b hb) hl (hc b hb)
      refine ⟨?_, ?_⟩
      · rw [tb.1, red1_keep (hc b hb)]; exact hab.1
      · rw [ta.1, red1_keep (hc a ha)]; exact hab.2
    · rw [List.mem_singleton] at hb; subst hb
      obtain ⟨x, hx, rfl⟩ := List.mem_map.mp ha
      have ta := red1_top (h.pos x hx) hl (hc x hx)
      exact ⟨red1_bit hl, by rw [ta.1]; exact hc x hx⟩
/-- sorted, the greatest first -/
def insN (n : Nat) : List Nat → List Nat
  | [] => [n]
  | m :: ms => if m ≤ n then n :: m :: ms else m :: insN n ms
def sortN : List Nat → List Nat
  | [] => []
  | n :: ns => insN n (sortN ns)
def ofN (l : List Nat) : List Int := l.map fun k : Nat => (k : Int)
theorem insI_of (n : Nat) : ∀ l, insI true (n : Int) (ofN l) = ofN (insN n l)
  | [] => rfl
  | m :: l => by
    have ih := insI_of n l
    unfold ofN at *
    rw [List.map_cons, insI, insN]
    by_cases h : m ≤ n
    · rw [if_pos (show lebI true (n : Int) (m : Int) = true by simp [lebI]; omega), if_pos h]; rfl
    · rw [if_neg (show ¬ lebI true (n : Int) (m : Int) = true by simp [lebI]; omega), if_neg h, ih]; rfl
theorem sortI_of : ∀ l, sortI true (ofN l) = ofN (sortN l)
  | [] => rfl
  | m :: l => by
    show insI true (m : Int) (sortI true (ofN l)) = _
    rw [sortI_of l, insI_of]; rfl
theorem insN_perm (n : Nat) : ∀ ms, (insN n ms).Perm (n :: ms)
  | [] => .refl _
  | m :: ms => by
    unfold insN
    split
    · exact .refl _
    · exact ((insN_perm n ms).cons m).trans (.swap n m ms)
theorem sortN_perm : ∀ ns, (sortN ns).Perm ns
  | [] => .refl _
  | n :: ns => (insN_perm n _).trans ((sortN_perm ns).cons n)
theorem sortN_len (l : List Nat) : (sortN l).length = l.length := (sortN_perm l).length_eq
theorem insN_ord (n : Nat) : ∀ ms, ms.Pairwise (· ≥ ·) → (insN n ms).Pairwise (· ≥ ·)
  | [], _ => by simp [insN]
  | m :: ms, h => by
    unfold insN
    have hp := List.pairwise_cons.mp h
    split
    · rename_i c
      refine List.pairwise_cons.mpr ⟨fun y hy => ?_, h⟩
      rcases List.mem_cons.mp hy with rfl | hy
      · exact c
      · have := hp.1 y hy; omega
    · rename_i c
      refine List.pairwise_cons.mpr ⟨fun y hy => ?_, insN_ord n ms hp.2⟩
      rcases List.mem_cons.mp ((insN_perm n ms).mem_iff.mp hy) with rfl | hy
      · omega
      · exact hp.1 y hy
theorem sortN_ord : ∀ ns, (sortN ns).Pairwise (· ≥ ·)
  | [] => List.Pairwise.nil
  | n :: ns => insN_ord n _ (sortN_ord ns)
theorem intsL_ints : ∀ l : List Int, intsL (l.map .int) = some l
  | [] => rfl
  | i :: l => by rw [List.map_cons, intsL, intsL_ints l]; rfl
theorem sorted_nats (o : Bool) (l : List Nat) : fInts (sortedI true) [.lst o (nats l)] = some (.lst true (nats (sortN l))) := by
  show (intsL (nats l)).bind (sortedI true) = _
  rw [nats_ints, intsL_ints]
  show some (D.lst true ((sortI true (ofN l)).map .int)) = _
  rw [sortI_of, nats_ints]; rfl
/-- the basis -/
def echS (B : List Nat) (r : Nat) : List Nat := if red r B = 0 then B else sortN (nxt B (red r B))
def ech (rows : List Nat) : List Nat := rows.foldl echS []
theorem Inv.nil : Inv [] := ⟨by simp, List.Pairwise.nil⟩
structure Bas (n : Nat) (B : List Nat) : Prop where
  inv : Inv B
  ord : B.Pairwise (· ≥ ·)
  lt : ∀ b ∈ B, b < 2 ^ n
theorem Bas.nil (n : Nat) : Bas n [] := ⟨Inv.nil, List.Pairwise.nil, by simp⟩
theorem Bas.step {n : Nat} {B : List Nat} (h : Bas n B) {r : Nat} (hr : r < 2 ^ n) : Bas n (echS B r) := by
  unfold echS
  split
  · exact h
  · rename_i h0
    have lt := red_lt hr h.lt
    refine ⟨(Inv.nxt h.inv h0 (red_clear h.inv)).perm (sortN_perm _).symm, sortN_ord _, fun b hb => ?_⟩
    rcases List.mem_append.mp ((sortN_perm _).mem_iff.mp hb) with hb | hb
    · obtain ⟨x, hx, rfl⟩ := List.mem_map.mp hb
      exact red1_lt (h.lt x hx) lt
    · rw [List.mem_singleton] at hb; subst hb; exact lt
theorem echS_len (B : List Nat) (r : Nat) : (echS B r).length ≤ B.length + 1 := by
  unfold echS
  split
  · omega
  · rw [sortN_len, nxt, List.length_append, List.length_map]; simp
theorem ech_bas {n : Nat} : ∀ (rows B : List Nat), Bas n B → (∀ r ∈ rows, r < 2 ^ n) → Bas n (rows.foldl echS B) ∧ (rows.foldl echS B).length ≤ B.length + rows.length
  | [], B, h, _ => ⟨h, by simp⟩
  | r :: rows, B, h, hr => by
    obtain ⟨h1, h2⟩ := ech_bas rows (echS B r) (h.step (hr r (by simp))) fun x hx => hr x (by simp [hx])
    refine ⟨h1, ?_⟩
    have := echS_len B r
    rw [List.foldl_cons, List.length_cons]
    omega
/-- strictly descending -/
theorem Bas.strict {n : Nat} {B : List Nat} (h : Bas n B) : B.Pairwise (· > ·) := by
  have : B.Pairwise (fun a b => a ≥ b ∧ Apart a b) := h.ord.and h.inv.ap
  refine List.Pairwise.imp_of_mem (fun {a b} ha hb hab => ?_) this
  have hne : a ≠ b := fun e => by
    subst e
    have := hab.2.1
    rw [top_bit (h.inv.pos a ha)] at this; cases this
  have := hab.1
  omega
theorem bit_t {m k : Nat} (h : m.testBit k = true) : dAnd (.int ((m / 2 ^ k : Nat) : Int)) (.int 1) = some (.int 1) := by
  have e := dAnd_nat (m / 2 ^ k) 1
  rw [bit_of, h] at e
  exact e
theorem bit_f {m k : Nat} (h : m.testBit k = false) : dAnd (.int ((m / 2 ^ k : Nat) : Int)) (.int 1) = some (.int 0) := by
  have e := dAnd_nat (m / 2 ^ k) 1
  rw [bit_of, h] at e
  exact e
theorem top_int {b : Nat} (h : b ≠ 0) : ((PySem.Builtin.Int.intBits (b : Int) : Nat) : Int) - 1 = ((top b : Nat) : Int) := by
  have := bl_pos h
  unfold top
  unfold bl at *
  omega
theorem fInt2_e (f : Int → Int → Int) (i j : Int) : fInt2 f [.int i, .int j] = some (.int (f i j)) := id rfl
theorem iMin_red {m b : Nat} (hb : b ≠ 0) : iMin (m : Int) ((m ^^^ b : Nat) : Int) = ((red1 m b : Nat) : Int) := by
  rw [← red1_min hb]
  unfold iMin
  by_cases h : m ^^^ b < m
  · rw [if_pos (by omega), if_pos h]
  · rw [if_neg (by omega), if_neg h]
theorem nats_app (a b : List Nat) : nats (a ++ b) = nats a ++ nats b := by unfold nats; rw [List.map_append]
theorem dAdd_lst {o u : Bool} {xs ys : List D} (h : xs.length + ys.length ≤ 16777216) : dAdd (.lst o xs) (.lst u ys) = some (.lst true (xs ++ ys)) := id (if_pos h)
/-- a loop, its turns counted -/
theorem loop_inv {S : Type} {g : D → M Unit} {b : M Fl} (enc : S → D → Env) (I : Nat → S → Prop) (T : Nat) : ∀ (ds : List D) (n : Nat) (s : S) (kv : D), n + ds.length ≤ T → I n s →
    (∀ d ∈ ds, ∀ n s kv, n < T → I n s → ∃ ρ1 s' kv', g d (enc s kv) = .ok () ρ1 ∧ b ρ1 = .ok .nx (enc s' kv') ∧ I (n + 1) s') →
    ∃ s' kv', mLoop g b ds (enc s kv) = .ok .nx (enc s' kv') ∧ I (n + ds.length) s'
  | [], n, s, kv, _, h, _ => ⟨s, kv, rfl, h⟩
  | d :: ds, n, s, kv, hT, h, H => by
    rw [List.length_cons] at hT
    obtain ⟨ρ1, s1, kv1, e1, e2, h1⟩ := H d (by simp) n s kv (by omega) h
    obtain ⟨s2, kv2, e3, h2⟩ := loop_inv enc I T ds (n + 1) s1 kv1 (by omega) h1 fun d hd => H d (by simp [hd])
    exact ⟨s2, kv2, by rw [mLoop_cons, e1, goG_ok, e2, lpK_nx, e3], by rw [List.length_cons]; rw [show n + (ds.length + 1) = n + 1 + ds.length by omega]; exact h2⟩
theorem filter_one : ∀ (B : List Nat), B.Pairwise Apart → (∀ b ∈ B, b ≠ 0) → ∀ b ∈ B, B.filter (fun r => r.testBit (top b)) = [b]
  | [], _, _, b, hb => by simp at hb
  | c :: B, h, hp, b, hb => by
    have hc := List.pairwise_cons.mp h
    rcases List.mem_cons.mp hb with rfl | hb
    · rw [List.filter_cons_of_pos (p := fun r : Nat => r.testBit (top b)) (a := b) (top_bit (hp b (by simp)))]
      rw [List.filter_eq_nil_iff.mpr fun x hx => by rw [(hc.1 x hx).2]; decide]
    · rw [List.filter_cons_of_neg (by rw [(hc.1 b hb).1]; decide)]
      exact filter_one B hc.2 (fun x hx => hp x (by simp [hx])) b hb
theorem and_pow (r t : Nat) : (0 < r &&& 2 ^ t) ↔ r.testBit t = true := by
  cases h : r.testBit t with
  | false =>
    have e : r &&& 2 ^ t = 0 := Nat.eq_of_testBit_eq fun i => by
      rw [Nat.testBit_and, Nat.testBit_two_pow, Nat.zero_testBit]
      by_cases c : t = i
      · subst c; rw [h]; rfl
      · rw [decide_eq_false c, Bool.and_false]
    rw [e]; simp
  | true =>
    have e : (r &&& 2 ^ t).testBit t = true := by rw [Nat.testBit_and, Nat.testBit_two_pow, h]; simp
    have : r &&& 2 ^ t ≠ 0 := fun c => by rw [c, Nat.zero_testBit] at e; cases e
    simp; omega
theorem one1_e (f : D → Option D) (d : D) : one1 f [d] = f d := id rfl
end Z

end
section
set_option maxRecDepth 100000
/-! SP: powers of products, letter by letter -/
namespace Z
open L2 (ixN atI)
def bt (m q : Nat) : Nat := if m.testBit q then 1 else 0
def sumB (f : Nat → Nat) : Nat → Nat
  | 0 => 0
  | n + 1 => sumB f n + f n
theorem bt_le (m q : Nat) : bt m q ≤ 1 := by unfold bt; split <;> omega
theorem sumB_shift (f : Nat → Nat) : ∀ n, sumB f (n + 1) = f 0 + sumB (fun q => f (q + 1)) n
  | 0 => by simp [sumB]
  | n + 1 => by rw [sumB, sumB_shift f n, sumB]; omega
theorem wt_sum : ∀ (n m : Nat), m < 2 ^ n → wt m = sumB (bt m) n
  | 0, m, h => by
    have : m = 0 := by simpa using h
    subst this
    rw [wt_zero]; rfl
  | n + 1, m, h => by
    have ih := wt_sum n (m / 2) (by rw [Nat.pow_succ] at h; omega)
    have e : ∀ q, bt (m / 2) q = bt m (q + 1) := fun q => by unfold bt; rw [Nat.testBit_succ]
    rw [sumB_shift, show (fun q => bt m (q + 1)) = bt (m / 2) from funext fun q => (e q).symm, ← ih]
    have b0 : bt m 0 = m % 2 := by
      unfold bt
      rw [Nat.testBit_zero]
      by_cases c : m % 2 = 1
      · simp [c]
      · have : m % 2 = 0 := by omega
        simp [this]
    by_cases h0 : m = 0
    · subst h0; rw [wt_zero, b0]
    · rw [wt_pos h0, b0]
/-- what a place adds to the power -/
def cPow (xa za xb zb : Nat) : Nat :=
  let o := xa + 2 * za
  let t := xb + 2 * zb
  if o > 0 ∧ t > 0 ∧ o ≠ t then (if (o = 1 ∧ t = 3) ∨ (o = 3 ∧ t = 2) ∨ (o = 2 ∧ t = 1) then 1 else 3) else 0
def cAt (a b c d q : Nat) : Nat := cPow (bt a q) (bt b q) (bt c q) (bt d q)
theorem bt_and (a b q : Nat) : bt (a &&& b) q = bt a q * bt b q := by
  unfold bt; rw [Nat.testBit_and]; cases a.testBit q <;> cases b.testBit q <;> rfl
theorem bt_xor (a b q : Nat) : bt (a ^^^ b) q = (bt a q + bt b q) % 2 := by
  unfold bt; rw [Nat.testBit_xor]; cases a.testBit q <;> cases b.testBit q <;> rfl
theorem pow_bit (a b c d q : Nat) : (bt (a &&& b) q + bt (c &&& d) q + 2 * bt (b &&& c) q) % 4 = (bt ((a ^^^ c) &&& (b ^^^ d)) q + cAt a b c d q) % 4 := by
  unfold cAt
  rw [bt_and, bt_and, bt_and, bt_and, bt_xor, bt_xor]
  unfold bt
  cases a.testBit q <;> cases b.testBit q <;> cases c.testBit q <;> cases d.testBit q <;> decide
theorem pow_sum (a b c d : Nat) : ∀ n, (sumB (bt (a &&& b)) n + sumB (bt (c &&& d)) n + 2 * sumB (bt (b &&& c)) n) % 4 = (sumB (bt ((a ^^^ c) &&& (b ^^^ d))) n + sumB (cAt a b c d) n) % 4
  | 0 => rfl
  | n + 1 => by
    have ih := pow_sum a b c d n
    have h := pow_bit a b c d n
    simp only [sumB]
    omega
/-- the power of a product -/
theorem pow_mul (p r a b c d n : Nat) (ha : a < 2 ^ n) (hb : b < 2 ^ n) (hc : c < 2 ^ n) (hd : d < 2 ^ n) :
    ((p : Int) + (r : Int) + (wt (a &&& b) : Int) + (wt (c &&& d) : Int) + 2 * ((wt (b &&& c) % 2 : Nat) : Int) - (wt ((a ^^^ c) &&& (b ^^^ d)) : Int)) % 4 = (((p + r + sumB (cAt a b c d) n) % 4 : Nat) : Int) := by
  have lt : ∀ {x y : Nat}, x < 2 ^ n → x &&& y < 2 ^ n := fun h => Nat.lt_of_le_of_lt Nat.and_le_left h
  rw [wt_sum n _ (lt ha), wt_sum n _ (lt hc), wt_sum n _ (lt hb), wt_sum n _ (lt (Nat.xor_lt_two_pow ha hc))]
  have h := pow_sum a b c d n
  omega
/-! dicts -/
def dgR (r : Option (Option D)) (z : D) (ρ : Env) : O D := match r with
  | some r => if shr (r.getD z) = true then .ok (r.getD z) ρ else .no
  | none => .no
def dgA (d : D) (as : List D) (ρ2 : Env) : O D := match as with
  | [k, z] => (match dGet d k with
    | some r => if shr (r.getD z) = true then .ok (r.getD z) ρ2 else .no
    | none => .no)
  | _ => .no
def dgK (mk mz : M D) (d : D) (ρ1 : Env) : O D := if isDct d = true then (mCons mk (mCons mz mNil) ρ1).bind fun as ρ2 => dgA d as ρ2 else .no
theorem mDGet2_e (mo mk mz : M D) (ρ : Env) : mDGet2 mo mk mz ρ = (mo ρ).bind fun d ρ1 => dgK mk mz d ρ1 := id rfl
theorem dgK_d (mk mz : M D) (d : D) (ρ1 : Env) (h : isDct d = true) : dgK mk mz d ρ1 = (mCons mk (mCons mz mNil) ρ1).bind fun as ρ2 => dgA d as ρ2 := id (if_pos h)
theorem dgA_2 (d k z : D) (ρ : Env) : dgA d [k, z] ρ = dgR (dGet d k) z ρ := id rfl
theorem dgR_some (r : Option D) (z : D) (ρ : Env) (h : shr (r.getD z) = true) : dgR (some r) z ρ = .ok (r.getD z) ρ := id (if_pos h)
def diK (o : Option (List (List L2.Key) × List D)) (ρ1 : Env) : O D := match o with
  | some (ks, es) => if ks.length < 16 then .ok (.dit true ks es) ρ1 else .no
  | none => .no
theorem mDicT_e (m : M (List D)) (ρ : Env) : mDicT m ρ = (m ρ).bind fun ds ρ1 => diK (mkT ds) ρ1 := id rfl
theorem diK_some (ks : List (List L2.Key)) (es : List D) (ρ1 : Env) (h : ks.length < 16) : diK (some (ks, es)) ρ1 = .ok (.dit true ks es) ρ1 := id (if_pos h)
/-! which products differ -/
def dif (a b c d q : Nat) : Nat := if cAt a b c d q = 0 then 0 else 1
theorem dif_bit (a b c d q : Nat) : dif a b c d q % 2 = (bt (a &&& d) q + bt (b &&& c) q) % 2 := by
  unfold dif cAt
  rw [bt_and, bt_and]
  unfold bt
  cases a.testBit q <;> cases b.testBit q <;> cases c.testBit q <;> cases d.testBit q <;> decide
theorem dif_swap (a b c d q : Nat) : (cAt a b c d q) % 4 = (cAt c d a b q + 2 * dif a b c d q) % 4 := by
  unfold dif cAt bt
  cases a.testBit q <;> cases b.testBit q <;> cases c.testBit q <;> cases d.testBit q <;> decide
theorem dif_sum (a b c d : Nat) : ∀ n, sumB (dif a b c d) n % 2 = (sumB (bt (a &&& d)) n + sumB (bt (b &&& c)) n) % 2
  | 0 => rfl
  | n + 1 => by
    have ih := dif_sum a b c d n
    have h := dif_bit a b c d n
    simp only [sumB]
    omega
theorem swap_sum (a b c d : Nat) : ∀ n, sumB (cAt a b c d) n % 4 = (sumB (cAt c d a b) n + 2 * sumB (dif a b c d) n) % 4
  | 0 => rfl
  | n + 1 => by
    have ih := swap_sum a b c d n
    have h := dif_swap a b c d n
    simp only [sumB]
    omega
/-! the last item -/
theorem getS_last (b : Bool) (ds : List D) (h : 0 < ds.length) : Z.getS (.lst b ds) (.at (0 - 1)) = ds[ds.length - 1]? := by
  show (ixN ds.length (0 - 1)).bind _ = _
  have e : ixN ds.length (0 - 1) = some (ds.length - 1) := by
    unfold ixN
    rw [if_neg (by omega)]
    rw [if_pos (by omega)]
    congr 1
    omega
  rw [e]; rfl
theorem eq_tup3 (i j k i' j' k' : Int) : dEq (.tup [.int i, .int j, .int k]) (.tup [.int i', .int j', .int k']) = some (.bl (i == i' && (j == j' && (k == k' && true)))) := by
  have sh : ∀ a b c : Int, PySem.SeqAt.shaped (.tuple [.int a, .int b, .int c]) = true := fun a b c => rfl
  show (if (PySem.SeqAt.shaped (.tuple [.int i, .int j, .int k]) && PySem.SeqAt.shaped (.tuple [.int i', .int j', .int k'])) = true then some (PySem.PyData.eqv (.tuple [.int i, .int j, .int k]) (.tuple [.int i', .int j', .int k'])) else none).map D.bl = _
  rw [sh, sh]
  simp [PySem.PyData.eqv, PySem.PyData.eqvAll]
theorem letters_count (a b w : Nat) (ha : a < 2 ^ w) (hb : b < 2 ^ w) : ((List.range w).filter fun q => decide (0 < bt a q + 2 * bt b q)).length = wt (a ||| b) := by
  rw [← memN_len w (a ||| b) (Nat.or_lt_two_pow ha hb)]
  unfold memN
  congr 2
  funext q
  rw [Nat.testBit_or]
  unfold bt
  cases a.testBit q <;> cases b.testBit q <;> rfl
end Z

end
section
set_option maxRecDepth 100000
/-! S2: reckoning with what ZI and ZJ bring; loops whose slots are told by a relation -/
namespace Z
open PySem (Str)
open L2 (ixN atI eqV inV)
def bpK (f : D → D → Option D) (d : D) (ρ2 : Env) (o : Option D) : O D := match o with
  | some e => ofOpt (f d e) ρ2
  | none => .no
theorem mBinP_e (f : D → D → Option D) (ma : M D) (q : M Pth) (ρ : Env) : mBinP f ma q ρ = (ma ρ).bind fun d ρ1 => (q ρ1).bind fun p ρ2 => bpK f d ρ2 (getR ρ2 p) := id rfl
theorem bpK_some (f : D → D → Option D) (d e : D) (ρ : Env) : bpK f d ρ (some e) = ofOpt (f d e) ρ := id rfl
def chK (g : D → D → Option D) (mc : M D) (e : D) (ρ2 : Env) (o : Option D) : O D := match o with
  | some (.bl true) => if shr e = true then (mc ρ2).bind fun h ρ3 => ofOpt (g e h) ρ3 else .no
  | some (.bl false) => .ok (.bl false) ρ2
  | _ => .no
theorem mChain_e (f g : D → D → Option D) (ma mb mc : M D) (ρ : Env) : mChain f g ma mb mc ρ = (ma ρ).bind fun d ρ1 => (mb ρ1).bind fun e ρ2 => chK g mc e ρ2 (f d e) := id rfl
theorem chK_t (g : D → D → Option D) (mc : M D) (e : D) (ρ : Env) (h : shr e = true) : chK g mc e ρ (some (.bl true)) = (mc ρ).bind fun h ρ3 => ofOpt (g e h) ρ3 := id (if_pos h)
theorem chK_f (g : D → D → Option D) (mc : M D) (e : D) (ρ : Env) : chK g mc e ρ (some (.bl false)) = .ok (.bl false) ρ := id rfl
theorem mDrop_e (is : List Nat) (m : M Fl) (ρ : Env) : mDrop is m ρ = m (wipeR is ρ) := id rfl
def elK (i : Nat) (o : Option D) (ρ : Env) : O (List D × Bk) := match o with
  | some (.lst o ds) => .ok (enumD 0 (frzL ds), some (i, .lst o (frzL ds))) (ρ.set i .hole)
  | _ => .no
theorem mEnumL_e (i : Nat) (ρ : Env) : mEnumL i ρ = elK i (ρ[i]?) ρ := id rfl
theorem elK_lst (i : Nat) (o : Bool) (ds : List D) (ρ : Env) : elK i (some (.lst o ds)) ρ = .ok (enumD 0 (frzL ds), some (i, .lst o (frzL ds))) (ρ.set i .hole) := id rfl
def evK (i : Nat) (o : Option D) (ρ : Env) : O (List D × Bk) := match o with
  | some (.lst o ds) => .ok (enumD 0 (frzL ds), some (i, .lst o (frzL ds))) (ρ.set i .hole)
  | some (.tup ds) => .ok (enumD 0 (frzL ds), none) (ρ.set i (.tup (frzL ds)))
  | _ => .no
theorem mEnumV_e (i : Nat) (ρ : Env) : mEnumV i ρ = evK i (ρ[i]?) ρ := id rfl
theorem evK_lst (i : Nat) (o : Bool) (ds : List D) (ρ : Env) : evK i (some (.lst o ds)) ρ = .ok (enumD 0 (frzL ds), some (i, .lst o (frzL ds))) (ρ.set i .hole) := id rfl
theorem evK_tup (i : Nat) (ds : List D) (ρ : Env) : evK i (some (.tup ds)) ρ = .ok (enumD 0 (frzL ds), none) (ρ.set i (.tup (frzL ds))) := id rfl
def enK (ds : List D) (ρ1 : Env) : O (List D × Bk) := match ds with
  | [.lst _ es] => .ok (enumD 0 (frzL es), none) ρ1
  | _ => .no
theorem mEnum_e (m : M (List D)) (ρ : Env) : mEnum m ρ = (m ρ).bind fun ds ρ1 => enK ds ρ1 := id rfl
theorem enK_lst (o : Bool) (es : List D) (ρ : Env) : enK [.lst o es] ρ = .ok (enumD 0 (frzL es), none) ρ := id rfl
def zpK (ds : List D) (ρ1 : Env) : O (List D × Bk) := match ds with
  | [.lst _ es, .lst _ fs] => .ok (zipD (frzL es) (frzL fs), none) ρ1
  | [.tup es, .tup fs] => .ok (zipD (frzL es) (frzL fs), none) ρ1
  | _ => .no
theorem mZip_e (m : M (List D)) (ρ : Env) : mZip m ρ = (m ρ).bind fun ds ρ1 => zpK ds ρ1 := id rfl
theorem zpK_lst (o u : Bool) (es fs : List D) (ρ : Env) : zpK [.lst o es, .lst u fs] ρ = .ok (zipD (frzL es) (frzL fs), none) ρ := id rfl
theorem zpK_tup (es fs : List D) (ρ : Env) : zpK [.tup es, .tup fs] ρ = .ok (zipD (frzL es) (frzL fs), none) ρ := id rfl
theorem sAny_lst (o : Bool) (ds : List D) (lo hi : Option Int) : sAny (.lst o ds) lo hi = some (.lst true (frzL (cutD ds lo hi))) := id rfl
theorem sAny_out (ds : List D) (lo hi : Option Int) : sAny (.out ds) lo hi = some (.lst true (frzL (cutD ds lo hi))) := id rfl
theorem sAny_tup (ds : List D) (lo hi : Option Int) : sAny (.tup ds) lo hi = some (.tup (frzL (cutD ds lo hi))) := id rfl
theorem sAny_str (x : Str) (lo hi : Option Int) (h : x.length ≤ 16777216) : sAny (.str x) lo hi = some (.str (L2.cutS x lo hi)) := id (if_pos h)
theorem fTuple_lst (o : Bool) (ds : List D) : fTuple [.lst o ds] = some (.tup (frzL ds)) := id rfl
theorem fTuple_tup (ds : List D) : fTuple [.tup ds] = some (.tup (frzL ds)) := id rfl
def m0K (f : List D → List D → Option (List D × D)) (p : Pth) (ρ1 : Env) (o : Option D) : O D := match o with
  | some (.lst true ds) => (match f ds [] with
    | some (ds', d) => .ok d (setR ρ1 p (.lst true ds'))
    | none => .no)
  | _ => .no
theorem mMeth0_e (f : List D → List D → Option (List D × D)) (q : M Pth) (ρ : Env) : mMeth0 f q ρ = (q ρ).bind fun p ρ1 => m0K f p ρ1 (getR ρ1 p) := id rfl
theorem m0K_pop (p : Pth) (ρ : Env) (ds : List D) (h : ds ≠ []) : m0K lPop p ρ (some (.lst true ds)) = .ok (ds.getLast h) (setR ρ p (.lst true ds.dropLast)) := by
  unfold m0K lPop
  simp only [List.getLast?_eq_getLast h, Option.map_some]
def tbK (m2 : M D) (ρ1 : Env) (o : Option (List Int)) : O D := match o with
  | some l => (m2 ρ1).bind fun e ρ2 => ofOpt (tabAt l e) ρ2
  | none => .no
theorem mTab_e (t : List (Str × List Int)) (m1 m2 : M D) (ρ : Env) : mTab t m1 m2 ρ = (m1 ρ).bind fun d ρ1 => tbK m2 ρ1 (tabRow t d) := id rfl
theorem tbK_some (m2 : M D) (ρ1 : Env) (l : List Int) : tbK m2 ρ1 (some l) = (m2 ρ1).bind fun e ρ2 => ofOpt (tabAt l e) ρ2 := id rfl
theorem dCon_int (ds : List D) (i : Int) : dCon ds (.int i) = atI ds i := id rfl
theorem atI_nat {α : Type} (l : List α) (k : Nat) (h : k < l.length) : atI l (k : Int) = some l[k] := by
  unfold atI ixN
  rw [if_pos (by omega), if_pos (by omega)]
  simp [h]
theorem flats_ints : ∀ ns : List Int, flats (ns.map .int) = some (ns.map .int)
  | [] => rfl
  | n :: ns => by rw [List.map_cons, flats, flats_ints ns]; rfl
theorem inA_lst (o : Bool) (i : Int) (ns : List Int) : dInA (.int i) (.lst o (ns.map .int)) = some (.bl (ns.any fun n => decide (n = i))) := by
  unfold dInA inB
  simp only [flat, flats_ints, Option.map_some, inV, List.any_map]
  rfl
theorem inA_tup (i : Int) (ns : List Int) : dInA (.int i) (.tup (ns.map .int)) = some (.bl (ns.any fun n => decide (n = i))) := by
  unfold dInA inB
  simp only [flat, flats_ints, Option.map_some, inV, List.any_map]
  rfl
theorem notInA_lst (o : Bool) (i : Int) (ns : List Int) : dNotInA (.int i) (.lst o (ns.map .int)) = some (.bl (!ns.any fun n => decide (n = i))) := by
  unfold dNotInA inB
  simp only [flat, flats_ints, Option.map_some, inV, List.any_map]
  rfl
theorem notInA_tup (i : Int) (ns : List Int) : dNotInA (.int i) (.tup (ns.map .int)) = some (.bl (!ns.any fun n => decide (n = i))) := by
  unfold dNotInA inB
  simp only [flat, flats_ints, Option.map_some, inV, List.any_map]
  rfl
theorem inA_two (i a b : Int) : dInA (.int i) (.tup [.int a, .int b]) = some (.bl (decide (a = i) || decide (b = i))) := by
  have := inA_tup i [a, b]
  simpa using this
/-! ### loops: what the slots hold is told by a relation -/
theorem loop_rel {α S : Type} {g : D → M Unit} {b : M Fl} (φ : α → D) (R : S → Env → Prop) (f : S → α → S) : ∀ (L : List α) (s : S) (ρ : Env), R s ρ →
    (∀ x ∈ L, ∀ s ρ, R s ρ → ∃ ρ1 ρ2, g (φ x) ρ = .ok () ρ1 ∧ (b ρ1 = .ok .nx ρ2 ∨ b ρ1 = .ok .ct ρ2) ∧ R (f s x) ρ2) →
    ∃ ρ', mLoop g b (L.map φ) ρ = .ok .nx ρ' ∧ R (L.foldl f s) ρ'
  | [], s, ρ, h, _ => ⟨ρ, rfl, h⟩
  | x :: L, s, ρ, h, H => by
    obtain ⟨ρ1, ρ2, e1, e2, h2⟩ := H x (by simp) s ρ h
    obtain ⟨ρ', e3, h3⟩ := loop_rel φ R f L (f s x) ρ2 h2 fun y hy => H y (by simp [hy])
    refine ⟨ρ', ?_, h3⟩
    rw [List.map_cons, mLoop_cons, e1, goG_ok]
    rcases e2 with e2 | e2
    · rw [e2, lpK_nx, e3]
    · rw [e2, lpK_ct, e3]
/-- the same, what is known of the state kept along -/
theorem loop_keep {α S : Type} {g : D → M Unit} {b : M Fl} (φ : α → D) (R : S → Env → Prop) (P : S → Prop) (f : S → α → S) : ∀ (L : List α) (s : S) (ρ : Env), R s ρ → P s →
    (∀ x ∈ L, ∀ s ρ, R s ρ → P s → ∃ ρ1 ρ2, g (φ x) ρ = .ok () ρ1 ∧ (b ρ1 = .ok .nx ρ2 ∨ b ρ1 = .ok .ct ρ2) ∧ R (f s x) ρ2 ∧ P (f s x)) →
    ∃ ρ', mLoop g b (L.map φ) ρ = .ok .nx ρ' ∧ R (L.foldl f s) ρ' ∧ P (L.foldl f s)
  | [], s, ρ, h, p, _ => ⟨ρ, rfl, h, p⟩
  | x :: L, s, ρ, h, p, H => by
    obtain ⟨ρ1, ρ2, e1, e2, h2, p2⟩ := H x (by simp) s ρ h p
    obtain ⟨ρ', e3, h3, p3⟩ := loop_keep φ R P f L (f s x) ρ2 h2 p2 fun y hy => H y (by simp [hy])
    refine ⟨ρ', ?_, h3, p3⟩
    rw [List.map_cons, mLoop_cons, e1, goG_ok]
    rcases e2 with e2 | e2
    · rw [e2, lpK_nx, e3]
    · rw [e2, lpK_ct, e3]
/-- a loop over range(n), the turn's number known -/
theorem loop_nat {S : Type} {g : D → M Unit} {b : M Fl} (R : S → Env → Prop) (P : Nat → S → Prop) (f : S → Nat → S) (n : Nat) : ∀ (m k : Nat) (s : S) (ρ : Env), k + m = n → R s ρ → P k s →
    (∀ k s ρ, k < n → R s ρ → P k s → ∃ ρ1 ρ2, g (.int (k : Int)) ρ = .ok () ρ1 ∧ (b ρ1 = .ok .nx ρ2 ∨ b ρ1 = .ok .ct ρ2) ∧ R (f s k) ρ2 ∧ P (k + 1) (f s k)) →
    ∃ ρ', mLoop g b ((List.range' k m).map fun q : Nat => .int (q : Int)) ρ = .ok .nx ρ' ∧ R ((List.range' k m).foldl f s) ρ' ∧ P n ((List.range' k m).foldl f s)
  | 0, k, s, ρ, hk, h, p, _ => ⟨ρ, rfl, h, by rw [← hk]; exact p⟩
  | m + 1, k, s, ρ, hk, h, p, H => by
    obtain ⟨ρ1, ρ2, e1, e2, h2, p2⟩ := H k s ρ (by omega) h p
    obtain ⟨ρ', e3, h3, p3⟩ := loop_nat R P f n m (k + 1) (f s k) ρ2 (by omega) h2 p2 H
    refine ⟨ρ', ?_, h3, p3⟩
    rw [List.range'_succ, List.map_cons, mLoop_cons, e1, goG_ok]
    rcases e2 with e2 | e2
    · rw [e2, lpK_nx, e3]
    · rw [e2, lpK_ct, e3]
theorem loop_range {S : Type} {g : D → M Unit} {b : M Fl} (R : S → Env → Prop) (P : Nat → S → Prop) (f : S → Nat → S) (n : Nat) (s : S) (ρ : Env) (h : R s ρ) (p : P 0 s)
    (H : ∀ k s ρ, k < n → R s ρ → P k s → ∃ ρ1 ρ2, g (.int (k : Int)) ρ = .ok () ρ1 ∧ (b ρ1 = .ok .nx ρ2 ∨ b ρ1 = .ok .ct ρ2) ∧ R (f s k) ρ2 ∧ P (k + 1) (f s k)) :
    ∃ ρ', mLoop g b ((List.range n).map fun q : Nat => .int (q : Int)) ρ = .ok .nx ρ' ∧ R ((List.range n).foldl f s) ρ' ∧ P n ((List.range n).foldl f s) := by
  rw [List.range_eq_range']
  exact loop_nat R P f n n 0 s ρ (by omega) h p H
end Z
namespace Z
open PySem (Str)
theorem lc_int {i : Nat} {t : M Bool} {E : Env} (p : Int → Bool) (ns : List Int) (hl : ns.length ≤ 16777216) (hi : i < E.length) (hw : E.set i .hole = E) (ht : ∀ n ∈ ns, t (E.set i (.int n)) = .ok (p n) (E.set i (.int n))) :
    loopC [i] (dName i) t (mVar i) (ns.map .int) [] E = .ok ((ns.filter p).map .int) E := by
  have key := lc_pure (vs := [i]) (g := dName i) (t := t) (m := mVar i) (E := E) (p := fun d => match d with
      | .int n => p n
      | _ => false) (h := id) (ns.map .int) [] (by rw [List.length_map]; simpa using hl) (fun d hd => by
      obtain ⟨n, hn, rfl⟩ := List.mem_map.mp hd
      have w' : (E.set i (.int n)).set i .hole = E := by rw [List.set_set]; exact hw
      have b : (E.set i (.int n))[i]? = some (.int n) := List.getElem?_set_self hi
      refine ⟨E.set i (.int n), E.set i (.int n), ?_, ht n hn, fun _ => w', fun _ => ⟨E.set i (.int n), ?_, w'⟩⟩
      · show (match E[i]? with
          | some _ => O.ok () (E.set i (.int n))
          | none => O.no) = _
        rw [List.getElem?_eq_getElem hi]
      · show (match (E.set i (.int n))[i]? with
          | some .hole => O.no
          | some d => if shr d = true then .ok d (E.set i (.int n)) else .ok (frz d) ((E.set i (.int n)).set i (frz d))
          | none => .no) = _
        rw [b]; rfl)
  rw [key]
  congr 1
  rw [List.nil_append, List.map_id, List.filter_map]
  congr 1
theorem foldl_app {α β : Type} (g : α → List β) : ∀ (L : List α) (acc : List β), L.foldl (fun acc x => acc ++ g x) acc = acc ++ L.flatMap g
  | [], acc => by simp
  | x :: L, acc => by rw [List.foldl_cons, foldl_app g L, List.flatMap_cons, List.append_assoc]
end Z
namespace Z
open PySem (Str)
theorem eq_strs (a b : Str) (ha : PySem.PyData.strOk a = true) (hb : PySem.PyData.strOk b = true) : dEq (.str a) (.str b) = some (.bl (a == b)) := by
  have h : ∀ c : Str, PySem.PyData.strOk c = true → PySem.SeqAt.shaped (.str c) = true := fun c hc => by
    unfold PySem.SeqAt.shaped
    rw [show (PySem.PyData.str c).canLay0 = PySem.PyData.strOk c from rfl, hc]; rfl
  unfold dEq eqB
  simp only [toPy, h a ha, h b hb, Bool.and_self, if_true, PySem.PyData.eqv, Option.map_some]
theorem ne_strs (a b : Str) (ha : PySem.PyData.strOk a = true) (hb : PySem.PyData.strOk b = true) : dNe (.str a) (.str b) = some (.bl (!(a == b))) := by
  have h : ∀ c : Str, PySem.PyData.strOk c = true → PySem.SeqAt.shaped (.str c) = true := fun c hc => by
    unfold PySem.SeqAt.shaped
    rw [show (PySem.PyData.str c).canLay0 = PySem.PyData.strOk c from rfl, hc]; rfl
  unfold dNe eqB
  simp only [toPy, h a ha, h b hb, Bool.and_self, if_true, PySem.PyData.eqv, Option.map_some]
end Z
namespace Z
open PySem (Str)
theorem enumD_map {α : Type} (φ : α → D) : ∀ (L : List α) (n : Nat), enumD n (L.map φ) = (L.zipIdx n).map fun xk => .tup [.int ((xk.2 : Nat) : Int), φ xk.1]
  | [], n => rfl
  | x :: L, n => by rw [List.map_cons, enumD, enumD_map φ L (n + 1), List.zipIdx_cons, List.map_cons]
theorem range_zipIdx {α : Type} (L : List α) : ((List.range L.length).map fun q : Nat => D.int (q : Int)) = L.zipIdx.map fun xk => .int ((xk.2 : Nat) : Int) := by
  apply List.ext_getElem
  · simp
  · intro i h1 h2
    simp
theorem flat_if {α β : Type} (p : α → Bool) (f : α → β) : ∀ L : List α, (L.flatMap fun x => if p x = true then [f x] else []) = (L.filter p).map f
  | [] => rfl
  | x :: L => by
    rw [List.flatMap_cons, flat_if p f L]
    by_cases h : p x = true
    · rw [if_pos h, List.filter_cons_of_pos h]; rfl
    · rw [if_neg h, List.filter_cons_of_neg h]; rfl
def dkK (o : Option (List L2.Key × List D)) (ρ1 : Env) : O D := match o with
  | some (ks, es) => if ks.length < 16 then .ok (.dic true ks es) ρ1 else .no
  | none => .no
theorem mDicK_e (m : M (List D)) (ρ : Env) : mDicK m ρ = (m ρ).bind fun ds ρ1 => dkK (mkK ds) ρ1 := id rfl
theorem dkK_some (ks : List L2.Key) (es : List D) (ρ1 : Env) (h : ks.length < 16) : dkK (some (ks, es)) ρ1 = .ok (.dic true ks es) ρ1 := id (if_pos h)
theorem cutD_tail (x : D) (ds : List D) : cutD (x :: ds) (some 1) none = ds := by
  unfold cutD HT.sIx
  simp
end Z
namespace Z
/-- a loop whose turns are counted -/
theorem loop_cnt {α S : Type} {g : D → M Unit} {b : M Fl} (φ : α → D) (R : S → Env → Prop) (P : Nat → S → Prop) (f : S → α → S) (T : Nat) : ∀ (L : List α) (k : Nat) (s : S) (ρ : Env), k + L.length = T → R s ρ → P k s →
    (∀ x ∈ L, ∀ k s ρ, k < T → R s ρ → P k s → ∃ ρ1 ρ2, g (φ x) ρ = .ok () ρ1 ∧ (b ρ1 = .ok .nx ρ2 ∨ b ρ1 = .ok .ct ρ2) ∧ R (f s x) ρ2 ∧ P (k + 1) (f s x)) →
    ∃ ρ', mLoop g b (L.map φ) ρ = .ok .nx ρ' ∧ R (L.foldl f s) ρ' ∧ P T (L.foldl f s)
  | [], k, s, ρ, hk, h, p, _ => ⟨ρ, rfl, h, by rw [← hk]; exact p⟩
  | x :: L, k, s, ρ, hk, h, p, H => by
    rw [List.length_cons] at hk
    obtain ⟨ρ1, ρ2, e1, e2, h2, p2⟩ := H x (by simp) k s ρ (by omega) h p
    obtain ⟨ρ', e3, h3, p3⟩ := loop_cnt φ R P f T L (k + 1) (f s x) ρ2 (by omega) h2 p2 fun y hy => H y (by simp [hy])
    refine ⟨ρ', ?_, h3, p3⟩
    rw [List.map_cons, mLoop_cons, e1, goG_ok]
    rcases e2 with e2 | e2
    · rw [e2, lpK_nx, e3]
    · rw [e2, lpK_ct, e3]
/-- a loop that appends: each turn a few items -/
theorem loop_app {α β : Type} {g : D → M Unit} {b : M Fl} (φ : α → D) (R : List β → Env → Prop) (h : α → List β) (m : Nat) (hm : ∀ x, (h x).length ≤ m) (L : List α) (acc : List β) (ρ : Env) (hR : R acc ρ) (B : Nat) (hB : acc.length + L.length * m ≤ B)
    (H : ∀ x ∈ L, ∀ a ρ, R a ρ → a.length ≤ B → ∃ ρ1 ρ2, g (φ x) ρ = .ok () ρ1 ∧ (b ρ1 = .ok .nx ρ2 ∨ b ρ1 = .ok .ct ρ2) ∧ R (a ++ h x) ρ2) :
    ∃ ρ', mLoop g b (L.map φ) ρ = .ok .nx ρ' ∧ R (acc ++ L.flatMap h) ρ' := by
  have le : ∀ k, k < L.length → k * m ≤ L.length * m := fun k hk => Nat.mul_le_mul_right m (by omega)
  obtain ⟨ρ', e1, e2, _⟩ := loop_cnt φ R (fun k a => a.length ≤ acc.length + k * m) (fun a x => a ++ h x) L.length L 0 acc ρ (by omega) hR (by omega) (fun x hx k a ρ hk hr hp => by
    have l := le k hk
    obtain ⟨ρ1, ρ2, q1, q2, q3⟩ := H x hx a ρ hr (by omega)
    refine ⟨ρ1, ρ2, q1, q2, q3, ?_⟩
    have := hm x
    rw [List.length_append, Nat.succ_mul]
    omega)
  rw [foldl_app] at e2
  exact ⟨ρ', e1, e2⟩
end Z

namespace Z
open PySem (Str)
/-! ### texts by their signs -/
def SC (l : List Nat) : Str := ⟨l.toArray⟩
theorem SC_len (l : List Nat) : (SC l).length = l.length := by unfold SC Str.length; simp
theorem SC_app (a b : List Nat) : SC a ++ SC b = SC (a ++ b) := by
  show (⟨a.toArray ++ b.toArray⟩ : Str) = ⟨(a ++ b).toArray⟩
  simp
theorem SC_cps (x : Str) : x = SC x.cps.toList := by unfold SC; cases x; simp
theorem SC_list (l : List Nat) : (SC l).cps.toList = l := by unfold SC; simp
theorem add_SC (a b : List Nat) (h : a.length + b.length ≤ 16777216) : dAdd (.str (SC a)) (.str (SC b)) = some (.str (SC (a ++ b))) := by
  have q : (SC a).length + (SC b).length ≤ PySem.sizeLine := by rw [SC_len, SC_len]; exact h
  simp only [dAdd, dCatS]
  rw [if_pos q, SC_app]
theorem strOk_SC (l : List Nat) (h : ∀ c ∈ l, c < 0x110000) : PySem.PyData.strOk (SC l) = true := by
  unfold PySem.PyData.strOk SC
  rw [Array.all_eq_true]
  intro i hi
  simp at hi ⊢
  exact h _ (List.getElem_mem hi)
theorem ix_SC (l : List Nat) (k c : Nat) (hl : l.length ≤ 16777216) (h : l[k]? = some c) : dIx (.str (SC l)) (.int k) = some (.str (SC [c])) := by
  have hk := (List.getElem?_eq_some_iff.mp h).1
  have e : l[k] = c := (List.getElem?_eq_some_iff.mp h).2
  have q : (SC l).length ≤ PySem.sizeLine := by rw [SC_len]; exact hl
  simp only [dIx]
  rw [if_pos q, SC_list, atI_nat l k hk, e]
  rfl
end Z
namespace Z
/-- a loop of which only a relation is known, turn by turn -/
theorem loop_any {g : D → M Unit} {b : M Fl} (R : Nat → Env → Prop) (T : Nat) : ∀ (ds : List D) (k : Nat) (ρ : Env), k + ds.length = T → R k ρ →
    (∀ d ∈ ds, ∀ k ρ, k < T → R k ρ → ∃ ρ1 ρ2, g d ρ = .ok () ρ1 ∧ (b ρ1 = .ok .nx ρ2 ∨ b ρ1 = .ok .ct ρ2) ∧ R (k + 1) ρ2) →
    ∃ ρ', mLoop g b ds ρ = .ok .nx ρ' ∧ R T ρ'
  | [], k, ρ, hk, h, _ => ⟨ρ, rfl, by rw [← hk]; exact h⟩
  | d :: ds, k, ρ, hk, h, H => by
    rw [List.length_cons] at hk
    obtain ⟨ρ1, ρ2, e1, e2, h2⟩ := H d (by simp) k ρ (by omega) h
    obtain ⟨ρ', e3, h3⟩ := loop_any R T ds (k + 1) ρ2 (by omega) h2 fun y hy => H y (by simp [hy])
    refine ⟨ρ', ?_, h3⟩
    rw [mLoop_cons, e1, goG_ok]
    rcases e2 with e2 | e2
    · rw [e2, lpK_nx, e3]
    · rw [e2, lpK_ct, e3]
end Z
namespace Z
/-- a comprehension over numbers, without a test -/
theorem lc_nat {i : Nat} {K : M D} {E : Env} (f : Nat → D) (l : List Nat) (hl : l.length ≤ 16777216) (hi : i < E.length) (hw : E.set i .hole = E) (hK : ∀ q ∈ l, K (E.set i (.int (q : Int))) = .ok (f q) (E.set i (.int (q : Int)))) :
    loopC [i] (dName i) mYes K (nats l) [] E = .ok (l.map f) E := by
  have key := lc_pure (vs := [i]) (g := dName i) (t := mYes) (m := K) (E := E) (p := fun _ => true) (h := fun d => match d with
      | .int q => f q.toNat
      | d => d) (nats l) [] (by rw [nats_len]; simpa using hl) (fun d hd => by
      obtain ⟨q, hq, rfl⟩ := List.mem_map.mp hd
      have w' : (E.set i (.int (q : Int))).set i .hole = E := by rw [List.set_set]; exact hw
      refine ⟨E.set i (.int q), E.set i (.int q), ?_, rfl, fun z => (nomatch z), fun _ => ⟨E.set i (.int q), hK q hq, w'⟩⟩
      show (match E[i]? with
          | some _ => O.ok () (E.set i (.int (q : Int)))
          | none => O.no) = _
      rw [List.getElem?_eq_getElem hi])
  rw [key, List.nil_append, List.filter_eq_self.mpr (fun _ _ => rfl)]
  unfold nats
  rw [List.map_map]
  rfl
theorem sum_nats (o : Bool) (l : List Nat) : fInts sumI [.lst o (nats l)] = some (.int (l.sum : Nat)) := by
  have h : ∀ l : List Nat, (l.map fun k : Nat => (k : Int)).sum = ((l.sum : Nat) : Int) := by
    intro l
    induction l with
    | nil => rfl
    | cons x l ih => rw [List.map_cons, List.sum_cons, ih, List.sum_cons]; rfl
  show (asInts (.lst o (nats l))).bind sumI = _
  rw [nats_ints]
  show (intsL _).bind sumI = _
  rw [intsL_map]
  show some (D.int (l.map fun k : Nat => (k : Int)).sum) = _
  rw [h]
end Z
namespace Z
/-- a loop that may return: it goes on while p holds -/
theorem loop_ret {α : Type} {g : D → M Unit} {b : M Fl} (φ : α → D) (R : Env → Prop) (p : α → Bool) (d : D) : ∀ (L : List α) (ρ : Env), R ρ →
    (∀ x ∈ L, ∀ ρ, R ρ → ∃ ρ1 ρ2, g (φ x) ρ = .ok () ρ1 ∧ b ρ1 = (if p x = true then .ok .nx ρ2 else .ok (.rt d) ρ2) ∧ R ρ2) →
    ∃ ρ', R ρ' ∧ mLoop g b (L.map φ) ρ = if L.all p = true then .ok .nx ρ' else .ok (.rt d) ρ'
  | [], ρ, h, _ => ⟨ρ, h, rfl⟩
  | x :: L, ρ, h, H => by
    obtain ⟨ρ1, ρ2, e1, e2, h2⟩ := H x (by simp) ρ h
    by_cases hp : p x = true
    · rw [if_pos hp] at e2
      obtain ⟨ρ', h3, e3⟩ := loop_ret φ R p d L ρ2 h2 fun y hy => H y (by simp [hy])
      refine ⟨ρ', h3, ?_⟩
      rw [List.map_cons, mLoop_cons, e1, goG_ok, e2, lpK_nx, e3, List.all_cons, hp, Bool.true_and]
    · rw [if_neg hp] at e2
      rw [Bool.not_eq_true] at hp
      refine ⟨ρ2, h2, ?_⟩
      rw [List.map_cons, mLoop_cons, e1, goG_ok, e2, List.all_cons, hp, Bool.false_and, if_neg (by decide)]
      rfl
theorem xorL_bit : ∀ (l : List Nat), l.Nodup → ∀ q, (xorL l 0).testBit q = decide (q ∈ l)
  | [], _, q => by simp [xorL]
  | k :: l, h, q => by
    have hk := List.nodup_cons.mp h
    show (xorL l (0 ^^^ 2 ^ k)).testBit q = _
    rw [xorL_acc, Nat.zero_xor, Nat.testBit_xor, xorL_bit l hk.2 q, Nat.testBit_two_pow]
    by_cases e : k = q
    · subst e
      have : decide (k ∈ l) = false := decide_eq_false hk.1
      rw [this]
      simp
    · have e' : q ≠ k := fun z => e z.symm
      rw [decide_eq_false e, Bool.false_xor]
      simp [e']
theorem sub_bits (m M : Nat) : (m &&& M = m) ↔ ∀ q, m.testBit q = true → M.testBit q = true := by
  constructor
  · intro h q hq
    have := congrArg (fun x => x.testBit q) h
    simp only [Nat.testBit_and, hq, Bool.true_and] at this
    exact this
  · intro h
    apply Nat.eq_of_testBit_eq
    intro q
    rw [Nat.testBit_and]
    by_cases hq : m.testBit q = true
    · rw [hq, h q hq]; rfl
    · rw [Bool.not_eq_true] at hq
      rw [hq]; rfl
theorem testBit_bl {m q : Nat} (h : m.testBit q = true) : q < bl m := by
  by_cases c : q < bl m
  · exact c
  · have := Nat.lt_of_lt_of_le (bl_lt m) (Nat.pow_le_pow_right (show 0 < 2 by decide) (Nat.le_of_not_lt c))
    rw [Nat.testBit_lt_two_pow this] at h
    cases h
theorem and_inv (m M : Nat) : (dAnd (.int (m : Int)) (.int (PySem.Builtin.bitNot (M : Int)))) = some (.int ((m : Int) - ((m &&& M : Nat) : Int))) := by
  show some (D.int (PySem.Builtin.bitAnd m (PySem.Builtin.bitNot M))) = _
  rw [PyProof.Rows.bitAnd_not, PyProof.Rows.bitAnd_pp (by omega) (by omega)]; rfl
end Z
namespace Z
theorem notIn_nats (q : Nat) (ns : List Nat) : dNotInA (.int (q : Int)) (.tup (nats ns)) = some (.bl (!decide (q ∈ ns))) := by
  rw [nats_ints, notInA_tup]
  congr 2
  rw [List.any_map]
  congr 1
  rw [Bool.eq_iff_iff, List.any_eq_true, decide_eq_true_eq]
  constructor
  · rintro ⟨x, hx, e⟩
    have e2 : x = q := by simp at e; omega
    rw [← e2]
    exact hx
  · intro h
    exact ⟨q, h, by simp⟩
/-! ### comparison of lists of whole numbers and of tuples of three -/
theorem pyL_ints : ∀ ns : List Int, toPyL (ns.map .int) = some (ns.map PySem.PyData.int)
  | [] => rfl
  | n :: ns => by rw [List.map_cons, toPyL, pyL_ints ns]; rfl
theorem eqvAll_ints : ∀ A B : List Int, PySem.PyData.eqvAll (A.map .int) (B.map .int) = decide (A = B)
  | [], [] => rfl
  | [], _ :: _ => rfl
  | _ :: _, [] => rfl
  | a :: A, b :: B => by
    rw [List.map_cons, List.map_cons, PySem.PyData.eqvAll, eqvAll_ints A B]
    rw [Bool.eq_iff_iff]
    simp [PySem.PyData.eqv]
theorem eqB_ints (o u : Bool) (A B : List Int) (hA : A.length ≤ 16777216) (hB : B.length ≤ 16777216) : eqB (.lst o (A.map .int)) (.lst u (B.map .int)) = some (decide (A = B)) := by
  have sh : ∀ (C : List Int), C.length ≤ 16777216 → PySem.SeqAt.shaped (.list (C.map .int)) = true := by
    intro C hC
    obtain ⟨p, e1, e2, e3, e4⟩ := okT_py 1 _ (okT_ints true 0 C hC)
    rw [toPy, pyL_ints] at e1
    cases e1
    unfold PySem.SeqAt.shaped
    rw [e2, decide_eq_true (by omega)]; rfl
  unfold eqB
  rw [toPy, toPy, pyL_ints, pyL_ints]
  simp only [Option.map_some, sh A hA, sh B hB, Bool.and_self, if_true]
  rw [PySem.PyData.eqv, eqvAll_ints]
theorem eq_ints (o u : Bool) (A B : List Int) (hA : A.length ≤ 16777216) (hB : B.length ≤ 16777216) : dEq (.lst o (A.map .int)) (.lst u (B.map .int)) = some (.bl (decide (A = B))) := by
  unfold dEq; rw [eqB_ints o u A B hA hB]; rfl
theorem ne_ints (o u : Bool) (A B : List Int) (hA : A.length ≤ 16777216) (hB : B.length ≤ 16777216) : dNe (.lst o (A.map .int)) (.lst u (B.map .int)) = some (.bl (!decide (A = B))) := by
  unfold dNe; rw [eqB_ints o u A B hA hB]; rfl
theorem cast_inj : ∀ A B : List Nat, (A.map fun k : Nat => (k : Int)) = (B.map fun k : Nat => (k : Int)) ↔ A = B
  | [], [] => by simp
  | [], _ :: _ => by simp
  | _ :: _, [] => by simp
  | a :: A, b :: B => by
    rw [List.map_cons, List.map_cons, List.cons.injEq, List.cons.injEq, cast_inj A B, Int.natCast_inj]
theorem eq_nats (o u : Bool) (A B : List Nat) (hA : A.length ≤ 16777216) (hB : B.length ≤ 16777216) : dEq (.lst o (nats A)) (.lst u (nats B)) = some (.bl (decide (A = B))) := by
  rw [nats_ints, nats_ints, eq_ints _ _ _ _ (by rw [List.length_map]; exact hA) (by rw [List.length_map]; exact hB), decide_eq_decide.mpr (cast_inj A B)]
theorem ne_nats (o u : Bool) (A B : List Nat) (hA : A.length ≤ 16777216) (hB : B.length ≤ 16777216) : dNe (.lst o (nats A)) (.lst u (nats B)) = some (.bl (!decide (A = B))) := by
  rw [nats_ints, nats_ints, ne_ints _ _ _ _ (by rw [List.length_map]; exact hA) (by rw [List.length_map]; exact hB), decide_eq_decide.mpr (cast_inj A B)]
theorem lc_natf {i : Nat} {t : M Bool} {E : Env} (p : Nat → Bool) (ns : List Nat) (hl : ns.length ≤ 16777216) (hi : i < E.length) (hw : E.set i .hole = E) (ht : ∀ n ∈ ns, t (E.set i (.int (n : Int))) = .ok (p n) (E.set i (.int (n : Int)))) :
    loopC [i] (dName i) t (mVar i) (nats ns) [] E = .ok (nats (ns.filter p)) E := by
  have e := lc_int (i := i) (t := t) (E := E) (fun z => p z.toNat) (ns.map fun k : Nat => (k : Int)) (by rw [List.length_map]; exact hl) hi hw (fun n hn => by
    obtain ⟨q, hq, rfl⟩ := List.mem_map.mp hn
    rw [Int.toNat_natCast]; exact ht q hq)
  rw [nats_ints, e, nats_ints, List.filter_map]
  rfl
theorem lc_rngf {i : Nat} {t : M Bool} {E : Env} (p : Nat → Bool) (n : Nat) (hl : n ≤ 16777216) (hi : i < E.length) (hw : E.set i .hole = E) (ht : ∀ k, k < n → t (E.set i (.int (k : Int))) = .ok (p k) (E.set i (.int (k : Int)))) :
    loopC [i] (dName i) t (mVar i) ((List.range n).map fun q : Nat => .int (q : Int)) [] E = .ok (nats ((List.range n).filter p)) E :=
  lc_natf p (List.range n) (by rw [List.length_range]; exact hl) hi hw (fun k hk => ht k (List.mem_range.mp hk))
theorem abs_e (n : Int) : fInt1 iAbs [.int n] = some (.int (n.natAbs : Nat)) := by
  show some (D.int (iAbs n)) = _
  unfold iAbs
  congr 2
  split <;> omega
theorem iMin_nat (a b : Nat) : iMin (a : Int) (b : Int) = ((min a b : Nat) : Int) := by unfold iMin; split <;> omega
theorem iMax_nat (a b : Nat) : iMax (a : Int) (b : Int) = ((max a b : Nat) : Int) := by unfold iMax; split <;> omega
/-! ### edges of graphs: tuples of three -/
abbrev Ed := Nat × Nat × Nat
def eI (e : Ed) : List Int := [(e.1 : Int), (e.2.1 : Int), (e.2.2 : Int)]
def edD (e : Ed) : D := .tup [.int e.1, .int e.2.1, .int e.2.2]
theorem edD_tupI (e : Ed) : edD e = tupI (eI e) := rfl
theorem edD_map (L : List Ed) : L.map edD = (L.map eI).map tupI := by rw [List.map_map]; rfl
theorem eI_inj (e f : Ed) : eI e = eI f ↔ e = f := by
  obtain ⟨a, b, c⟩ := e
  obtain ⟨a', b', c'⟩ := f
  unfold eI
  simp only [List.cons.injEq, Prod.mk.injEq, Int.natCast_inj, and_true]
theorem shr_edD (e : Ed) : shr (edD e) = true := rfl
theorem hole_edD (e : Ed) : isHole (edD e) = false := rfl
theorem frzL_edD (L : List Ed) : frzL (L.map edD) = L.map edD := by rw [edD_map]; exact frzL_tupI _
theorem shrL_edD (L : List Ed) : shrL (L.map edD) = true := by
  rw [shrL_eq, List.all_eq_true]
  intro d hd
  obtain ⟨e, _, rfl⟩ := List.mem_map.mp hd
  rfl
def pyE (e : Ed) : PySem.PyData := .tuple [.int e.1, .int e.2.1, .int e.2.2]
theorem pyL_edD : ∀ L : List Ed, toPyL (L.map edD) = some (L.map pyE)
  | [] => rfl
  | e :: L => by rw [List.map_cons, toPyL, pyL_edD L]; rfl
theorem eqv_pyE (e f : Ed) : PySem.PyData.eqv (pyE e) (pyE f) = decide (e = f) := by
  obtain ⟨a, b, c⟩ := e
  obtain ⟨a', b', c'⟩ := f
  rw [Bool.eq_iff_iff]
  simp [pyE, PySem.PyData.eqv, PySem.PyData.eqvAll]
  omega
theorem okT_edD (k : Nat) (e : Ed) : okT (k + 1) (edD e) = true := by
  unfold edD
  simp only [okT, List.all_cons, List.all_nil, okT_int, List.length_cons, List.length_nil]
  rfl
theorem okT_eds (o : Bool) (k : Nat) (L : List Ed) (hL : L.length ≤ 16777216) : okT (k + 2) (.lst o (L.map edD)) = true := by
  simp only [okT, List.length_map, decide_eq_true hL, Bool.true_and, List.all_map]
  rw [List.all_eq_true]
  exact fun e _ => okT_edD k e
theorem notIn_eds (e : Ed) (o : Bool) (L : List Ed) (hL : L.length ≤ 16777216) : dNotInA (edD e) (.lst o (L.map edD)) = some (.bl (!decide (e ∈ L))) := by
  have sh : PySem.SeqAt.shaped (.list (L.map pyE)) = true := by
    obtain ⟨p, e1, e2, e3, e4⟩ := okT_py 2 _ (okT_eds true 0 L hL)
    rw [toPy, pyL_edD] at e1
    cases e1
    unfold PySem.SeqAt.shaped
    rw [e2, decide_eq_true (by omega)]; rfl
  have i : inB (edD e) (.lst o (L.map edD)) = none := rfl
  unfold dNotInA
  rw [i]
  unfold inD
  rw [show toPy (edD e) = some (pyE e) from rfl, toPy, pyL_edD]
  simp only [Option.map_some]
  rw [sh, Bool.and_true, if_pos (show PySem.SeqAt.shaped (pyE e) = true from rfl), Option.map_some, List.any_map]
  congr 3
  rw [Bool.eq_iff_iff, List.any_eq_true, decide_eq_true_eq]
  constructor
  · rintro ⟨f, hf, h⟩
    have h : PySem.PyData.eqv (pyE f) (pyE e) = true := h
    rw [eqv_pyE, decide_eq_true_eq] at h
    rw [← h]; exact hf
  · intro h
    exact ⟨e, h, by show PySem.PyData.eqv (pyE e) (pyE e) = true; rw [eqv_pyE, decide_eq_true rfl]⟩
/-- the sorted tuple of edges -/
theorem sort_eds (o : Bool) (L : List Ed) (hL : L.length < 64) (h0 : L ≠ []) : ∃ L' : List Ed, fSortA [.lst o (L.map edD)] = some (.lst true (L'.map edD)) ∧ L'.Perm L := by
  have ev : evenL (L.map eI) = true := by
    obtain ⟨e, r, rfl⟩ : ∃ e r, L = e :: r := by cases L with
      | nil => exact absurd rfl h0
      | cons e r => exact ⟨e, r, rfl⟩
    unfold evenL
    rw [List.length_map, decide_eq_true hL]
    simp only [List.map_cons, List.headD_cons, Bool.true_and]
    have l3 : ∀ f : Ed, (eI f).length = 3 := fun _ => rfl
    rw [l3, decide_eq_true (by decide), Bool.true_and, ← List.map_cons, List.all_map, List.all_eq_true]
    intro f _
    show (decide ((eI f).length = 3) && (eI f).all fun i => decide (0 ≤ i)) = true
    rw [l3, decide_eq_true rfl, Bool.true_and]
    unfold eI
    simp
  have ni : intsL (L.map edD) = none := by
    obtain ⟨e, r, rfl⟩ : ∃ e r, L = e :: r := by cases L with
      | nil => exact absurd rfl h0
      | cons e r => exact ⟨e, r, rfl⟩
    rfl
  have pm := sortLx_perm (L.map eI)
  obtain ⟨L', e1, e2⟩ : ∃ L' : List Ed, sortLx (L.map eI) = L'.map eI ∧ L'.Perm L := by
    refine ⟨(sortLx (L.map eI)).map fun n => ((n.getD 0 0).toNat, (n.getD 1 0).toNat, (n.getD 2 0).toNat), ?_, ?_⟩
    · rw [List.map_map]
      symm
      have : ∀ n ∈ sortLx (L.map eI), (eI ∘ fun n : List Int => ((n.getD 0 0).toNat, (n.getD 1 0).toNat, (n.getD 2 0).toNat)) n = n := by
        intro n hn
        obtain ⟨f, _, rfl⟩ := List.mem_map.mp (pm.mem_iff.mp hn)
        rfl
      rw [List.map_congr_left this, List.map_id'']
      exact fun _ => rfl
    · have := pm.map fun n : List Int => ((n.getD 0 0).toNat, (n.getD 1 0).toNat, (n.getD 2 0).toNat)
      refine this.trans ?_
      rw [List.map_map]
      have : ∀ f ∈ L, ((fun n : List Int => ((n.getD 0 0).toNat, (n.getD 1 0).toNat, (n.getD 2 0).toNat)) ∘ eI) f = f := fun f _ => rfl
      rw [List.map_congr_left this, List.map_id'']
      exact fun _ => rfl
  refine ⟨L', ?_, e2⟩
  unfold fSortA
  simp only [ni]
  rw [edD_map, tupsL_map]
  simp only [ev, if_true]
  rw [e1, ← edD_map]
theorem sort_none (o : Bool) : fSortA [.lst o []] = some (.lst true []) := rfl
theorem get_ed0 (e : Ed) : Z.getS (edD e) (.at 0) = some (.int e.1) := rfl
theorem get_ed1 (e : Ed) : Z.getS (edD e) (.at 1) = some (.int e.2.1) := rfl
theorem get_ed2 (e : Ed) : Z.getS (edD e) (.at 2) = some (.int e.2.2) := rfl
theorem get_eds (es : List Ed) (k : Nat) (h : k < es.length) : Z.getS (.tup (es.map edD)) (.at (k : Int)) = some (edD es[k]) := by
  rw [getS_tup _ _ (by omega) (by rw [List.length_map]; omega), Int.toNat_natCast, List.getElem?_map, List.getElem?_eq_getElem h]; rfl
/-- a graph: how many nodes, and the edges -/
def grD (N : Nat) (es : List Ed) : D := .tup [.int N, .tup (es.map edD)]
theorem get_gr0 (N : Nat) (es : List Ed) : Z.getS (grD N es) (.at 0) = some (.int N) := rfl
theorem get_gr1 (N : Nat) (es : List Ed) : Z.getS (grD N es) (.at 1) = some (.tup (es.map edD)) := rfl
theorem hole_gr (N : Nat) (es : List Ed) : isHole (grD N es) = false := rfl
theorem shr_gr (N : Nat) (es : List Ed) : shr (grD N es) = true := by
  show (shr (.int N) && (shr (.tup (es.map edD)) && true)) = true
  rw [show shr (.tup (es.map edD)) = shrL (es.map edD) from rfl, shrL_edD]; rfl
theorem flat_gr (N : Nat) (es : List Ed) : isFlat (grD N es) = false := rfl
/-! ### bits tested, tables -/
theorem bit_D (x q : Nat) : dAnd (.int ((x / 2 ^ q : Nat) : Int)) (.int 1) = some (.int (bt x q : Nat)) := by
  have e := dAnd_nat (x / 2 ^ q) 1
  rw [bit_of] at e
  exact e
theorem bitT (x q : Nat) : (((bt x q : Nat) : Int) == 1) = x.testBit q := by
  unfold bt
  cases x.testBit q <;> rfl
theorem shr_T (x q : Nat) : dShr (.int x) (.int q) = some (.int ((x / 2 ^ q : Nat) : Int)) := dShr_nat x q
def tab (n : Nat) (c : Nat → Int) : List D := (List.range n).map fun v => .int (c v)
theorem tab_len (n : Nat) (c : Nat → Int) : (tab n c).length = n := by unfold tab; rw [List.length_map, List.length_range]
theorem tab_ints (n : Nat) (c : Nat → Int) : tab n c = ((List.range n).map c).map .int := by unfold tab; rw [List.map_map]; rfl
theorem tab_shr (n : Nat) (c : Nat → Int) : shrL (tab n c) = true := by rw [tab_ints]; exact shrL_ints _
theorem tab_frz (n : Nat) (c : Nat → Int) : frzL (tab n c) = tab n c := frzL_shr (tab_shr n c)
theorem tab_get (o : Bool) (n : Nat) (c : Nat → Int) (v : Nat) (h : v < n) : Z.getS (.lst o (tab n c)) (.at (v : Int)) = some (.int (c v)) := by
  rw [getS_lst _ _ _ (by omega) (by rw [tab_len]; omega), Int.toNat_natCast]
  unfold tab
  rw [List.getElem?_map, List.getElem?_range h]; rfl
theorem tab_set (n : Nat) (c : Nat → Int) (v : Nat) (x : Int) (_h : v < n) : (tab n c).set v (.int x) = tab n fun u => if u = v then x else c u := by
  unfold tab
  apply List.ext_getElem
  · simp
  · intro i h1 h2
    rw [List.getElem_set]
    simp only [List.getElem_map, List.getElem_range]
    by_cases e : v = i
    · rw [if_pos e, if_pos e.symm]
    · rw [if_neg e, if_neg (fun z => e z.symm)]
theorem tab_rep (n : Nat) (a : Int) (h : n ≤ 16777216) : dMul (.lst true [.int a]) (.int (n : Int)) = some (.lst true (tab n fun _ => a)) := by
  have e : (List.replicate n [D.int a]).flatten = tab n fun _ => a := by
    unfold tab
    rw [List.map_const', List.length_range]
    induction n with
    | zero => rfl
    | succ n ih => rw [List.replicate_succ, List.flatten_cons, ih (by omega), List.replicate_succ]; rfl
  have h3 : [D.int a].length * n ≤ PySem.sizeLine := by rw [List.length_singleton, Nat.one_mul]; exact h
  have h4 : dMul (.lst true [.int a]) (.int (n : Int)) = dRep (.lst true [.int a]) (.int (n : Int)) := by unfold dMul; rfl
  rw [h4]
  unfold dRep
  simp only [Int.toNat_natCast]
  rw [if_pos ⟨by omega, by omega, h3, rfl⟩, e]
theorem xorL_cnt : ∀ (l : List Nat) (v : Nat), (xorL l 0).testBit v = decide (l.count v % 2 = 1)
  | [], v => by simp [xorL]
  | x :: l, v => by
    rw [show xorL (x :: l) 0 = xorL l (0 ^^^ 2 ^ x) from rfl, xorL_acc, Nat.testBit_xor, xorL_cnt l v, Nat.zero_xor, Nat.testBit_two_pow, List.count_cons]
    by_cases e : x = v
    · rw [decide_eq_true e, if_pos (by simp [e])]
      by_cases h : l.count v % 2 = 1
      · rw [decide_eq_true h, decide_eq_false (by omega)]; rfl
      · rw [decide_eq_false h, decide_eq_true (by omega)]; rfl
    · rw [decide_eq_false e, if_neg (by simp [e])]
      simp
/-- the edge with a number -/
def eAt (es : List Ed) (k : Nat) : Ed := es.getD k (0, 0, 0)
theorem eAt_mem (es : List Ed) (k : Nat) (h : k < es.length) : eAt es k ∈ es := by
  unfold eAt
  rw [List.getD_eq_getElem?_getD, List.getElem?_eq_getElem h]
  exact List.getElem_mem h
theorem get_eAt (es : List Ed) (k : Nat) (h : k < es.length) : Z.getS (.tup (es.map edD)) (.at (k : Int)) = some (edD (eAt es k)) := by
  rw [get_eds es k h]
  unfold eAt
  rw [List.getD_eq_getElem?_getD, List.getElem?_eq_getElem h]; rfl
theorem in_nats (q : Nat) (o : Bool) (ns : List Nat) : dInA (.int (q : Int)) (.lst o (nats ns)) = some (.bl (decide (q ∈ ns))) := by
  rw [nats_ints, inA_lst]
  congr 2
  rw [List.any_map, Bool.eq_iff_iff, List.any_eq_true, decide_eq_true_eq]
  constructor
  · rintro ⟨x, hx, e⟩
    have e2 : x = q := by simp at e; omega
    rw [← e2]
    exact hx
  · intro h
    exact ⟨q, h, by simp⟩
theorem nin_nats (q : Nat) (o : Bool) (ns : List Nat) : dNotInA (.int (q : Int)) (.lst o (nats ns)) = some (.bl (!decide (q ∈ ns))) := by
  have h := in_nats q o ns
  rw [nats_ints, inA_lst] at h
  rw [nats_ints, notInA_lst]
  have h2 := Option.some.inj h
  injection h2 with h2
  rw [h2]
/-- enumerate of edges -/
theorem enum_eds (es : List Ed) : enumD 0 (es.map edD) = (List.range es.length).map fun k : Nat => .tup [.int (k : Int), edD (eAt es k)] := by
  apply List.ext_getElem?
  intro k
  rw [enumD_get, List.getElem?_map, List.getElem?_map]
  by_cases h : k < es.length
  · rw [List.getElem?_eq_getElem h, List.getElem?_range h]
    have e : eAt es k = es[k] := by
      unfold eAt
      rw [List.getD_eq_getElem?_getD, List.getElem?_eq_getElem h]; rfl
    simp only [Option.map_some, e, Nat.zero_add]
  · rw [List.getElem?_eq_none (by omega), List.getElem?_eq_none (by rw [List.length_range]; omega)]
    rfl
/-! ### joined texts -/
theorem strsL_map : ∀ L : List PySem.Str, strsL (L.map D.str) = some L
  | [] => rfl
  | x :: L => by rw [List.map_cons, strsL, strsL_map L]; rfl
theorem join_one : ∀ L : List Nat, PySem.Str.join (SC []) (L.map fun c => SC [c]) = SC L
  | [] => rfl
  | [c] => rfl
  | c :: e :: r => by
    have ih := join_one (e :: r)
    show SC [c] ++ SC [] ++ PySem.Str.join (SC []) ((e :: r).map fun c => SC [c]) = _
    rw [ih, SC_app, SC_app]; rfl
theorem join_SC (o : Bool) (L : List Nat) (hL : L.length ≤ 16777216) : dJoin (SC []) (.lst o (L.map fun c => .str (SC [c]))) = some (.str (SC L)) := by
  have e : (L.map fun c => D.str (SC [c])) = (L.map fun c => SC [c]).map D.str := by rw [List.map_map]; rfl
  unfold dJoin
  simp only [e, strsL_map, Option.bind_some, joinS]
  have l1 : ((L.map fun c => SC [c]).map fun x : PySem.Str => x.length).sum = L.length := by
    rw [List.map_map]
    induction L with
    | nil => rfl
    | cons c L ih =>
      rw [List.map_cons, List.sum_cons, ih (by simp at hL; omega) (by rw [List.map_map]; rfl), List.length_cons]
      show (SC [c]).length + _ = _
      rw [SC_len, List.length_singleton]; omega
  rw [if_pos (by rw [l1, SC_len]; simp; omega)]
  show some (D.str (PySem.Builtin.Str.glued (SC []) _)) = _
  rw [PySem.StrLaws.glued_eq_join, join_one]
/-! ### raise, try -/
theorem mRaise_e (k : Nat) (ρ : Env) : mRaise k ρ = .ex k ρ := id rfl
def tzK (o : Option (Option (M Fl))) (k : Nat) (ρ1 : Env) : O Fl := match o with
  | none => .no
  | some none => .ex k ρ1
  | some (some m) => m ρ1
def tyK (hd : Hd) (o : O Fl) : O Fl := match o with
  | .ex k ρ1 => tzK (hd k) k ρ1
  | o => o
theorem mTry_e (mb : M Fl) (hd : Hd) (ρ : Env) : mTry mb hd ρ = tyK hd (mb ρ) := by
  unfold mTry tyK tzK
  cases mb ρ <;> rfl
theorem tyK_ok (hd : Hd) (f : Fl) (ρ : Env) : tyK hd (.ok f ρ) = .ok f ρ := id rfl
theorem tyK_ex (hd : Hd) (k : Nat) (ρ : Env) : tyK hd (.ex k ρ) = tzK (hd k) k ρ := id rfl
theorem tzK_c (m : M Fl) (k : Nat) (ρ : Env) : tzK (some (some m)) k ρ = m ρ := id rfl
theorem tzK_p (k : Nat) (ρ : Env) : tzK (some none) k ρ = .ex k ρ := id rfl
theorem hdC_eq (j : Nat) (o : Option (M Fl)) (r : Hd) : hdC j o r j = some o := id (if_pos rfl)
theorem hdC_ne (j k : Nat) (o : Option (M Fl)) (r : Hd) (h : k ≠ j) : hdC j o r k = r k := id (if_neg h)
def rtK (o : O Fl) : O Fl := match o with
  | .ok (.rt d) ρ2 => .ok (.rt d) ρ2
  | _ => .no
theorem rtK_rt (d : D) (ρ : Env) : rtK (.ok (.rt d) ρ) = .ok (.rt d) ρ := id rfl
def taZ (i : Nat) (o : Option (Option (M Fl))) (k : Nat) (ρ1 : Env) : O Fl := match o with
  | none => .no
  | some none => .ex k ρ1
  | some (some m) => (match ρ1[i]? with
    | some .hole => rtK (m ρ1)
    | _ => .no)
def taK (i : Nat) (hd : Hd) (o : O Fl) : O Fl := match o with
  | .ex k ρ1 => taZ i (hd k) k ρ1
  | o => o
theorem mTryAs_e (i : Nat) (mb : M Fl) (hd : Hd) (ρ : Env) : mTryAs i mb hd ρ = taK i hd (mb ρ) := by
  unfold mTryAs taK taZ rtK
  cases mb ρ <;> rfl
theorem taK_ok (i : Nat) (hd : Hd) (f : Fl) (ρ : Env) : taK i hd (.ok f ρ) = .ok f ρ := id rfl
theorem taK_ex (i : Nat) (hd : Hd) (k : Nat) (ρ : Env) : taK i hd (.ex k ρ) = taZ i (hd k) k ρ := id rfl
theorem taZ_c (i : Nat) (m : M Fl) (k : Nat) (ρ : Env) (h : ρ[i]? = some .hole) : taZ i (some (some m)) k ρ = rtK (m ρ) := by unfold taZ; simp only [h]
theorem taZ_p (i : Nat) (k : Nat) (ρ : Env) : taZ i (some none) k ρ = .ex k ρ := id rfl
end Z

end
section
set_option maxRecDepth 100000
/-! S3: while loops by a measure, tables of anything -/
namespace Z
open PySem (Str)
/-- a while loop: a measure falls -/
theorem while_any {t : M Bool} {b : M Fl} (I : Nat → Env → Prop) (Q : Env → Prop) (H : ∀ n ρ, I n ρ → (∃ ρ1, t ρ = .ok false ρ1 ∧ Q ρ1) ∨ ∃ ρ1 ρ2 n', t ρ = .ok true ρ1 ∧ (b ρ1 = .ok .nx ρ2 ∨ b ρ1 = .ok .ct ρ2) ∧ I n' ρ2 ∧ n' < n) :
    ∀ (k n : Nat) (ρ : Env), n < k → I n ρ → ∃ ρ', mWhile t b k ρ = .ok .nx ρ' ∧ Q ρ'
  | 0, n, ρ, h, _ => absurd h (Nat.not_lt_zero n)
  | k + 1, n, ρ, h, i => by
    rcases H n ρ i with ⟨ρ1, e, q⟩ | ⟨ρ1, ρ2, n', e, e2, i2, l⟩
    · exact ⟨ρ1, by rw [mWhile_s, e, bind_ok, iK_f], q⟩
    · obtain ⟨ρ', e3, q⟩ := while_any I Q H k n' ρ2 (by omega) i2
      refine ⟨ρ', ?_, q⟩
      rw [mWhile_s, e, bind_ok, iK_t]
      rcases e2 with e2 | e2
      · rw [e2, lpK_nx, e3]
      · rw [e2, lpK_ct, e3]
/-! ### tables of trees -/
def tabD (n : Nat) (φ : Nat → D) : List D := (List.range n).map φ
theorem tab_tabD (n : Nat) (c : Nat → Int) : tab n c = tabD n fun v => .int (c v) := rfl
theorem tabD_len (n : Nat) (φ : Nat → D) : (tabD n φ).length = n := by unfold tabD; rw [List.length_map, List.length_range]
theorem tabD_get (o : Bool) (n : Nat) (φ : Nat → D) (v : Nat) (h : v < n) : Z.getS (.lst o (tabD n φ)) (.at (v : Int)) = some (φ v) := by
  rw [getS_lst _ _ _ (by omega) (by rw [tabD_len]; omega), Int.toNat_natCast]
  unfold tabD
  rw [List.getElem?_map, List.getElem?_range h]; rfl
theorem tabD_set (n : Nat) (φ : Nat → D) (v : Nat) (x : D) (_h : v < n) : (tabD n φ).set v x = tabD n fun u => if u = v then x else φ u := by
  unfold tabD
  apply List.ext_getElem
  · simp
  · intro i h1 h2
    rw [List.getElem_set]
    simp only [List.getElem_map, List.getElem_range]
    by_cases e : v = i
    · rw [if_pos e, if_pos e.symm]
    · rw [if_neg e, if_neg (fun z => e z.symm)]
theorem tabD_congr (n : Nat) (φ ψ : Nat → D) (h : ∀ v, v < n → φ v = ψ v) : tabD n φ = tabD n ψ := by
  unfold tabD
  exact List.map_congr_left fun v hv => h v (List.mem_range.mp hv)
theorem tabD_shr (n : Nat) (φ : Nat → D) (h : ∀ v, v < n → shr (φ v) = true) : shrL (tabD n φ) = true := by
  rw [shrL_eq, List.all_eq_true]
  intro d hd
  obtain ⟨v, hv, rfl⟩ := List.mem_map.mp hd
  exact h v (List.mem_range.mp hv)
theorem tabD_frz (n : Nat) (φ : Nat → D) : frzL (tabD n φ) = tabD n fun v => frz (φ v) := by
  rw [frzL_eq]
  unfold tabD
  rw [List.map_map]; rfl
/-! ### pairs of numbers -/
def prD (p : Nat × Nat) : D := .tup [.int p.1, .int p.2]
theorem shrL_prD (L : List (Nat × Nat)) : shrL (L.map prD) = true := by
  rw [shrL_eq, List.all_eq_true]
  intro d hd
  obtain ⟨e, _, rfl⟩ := List.mem_map.mp hd
  rfl
theorem frzL_prD (L : List (Nat × Nat)) : frzL (L.map prD) = L.map prD := frzL_shr (shrL_prD L)
theorem foldl_at {α κ β : Type} (h : κ → α → List β) : ∀ (L : List α) (c : κ → List β) (v : κ), L.foldl (fun (c : κ → List β) x v => c v ++ h v x) c v = c v ++ L.flatMap (h v)
  | [], c, v => by simp
  | x :: L, c, v => by rw [List.foldl_cons, foldl_at h L, List.flatMap_cons, List.append_assoc]
end Z
namespace Z
open PySem (Str)
/-! ### lists of whole numbers by place -/
def sg (S : List Int) (v : Nat) : Int := S.getD v 0
theorem ints_get (o : Bool) (S : List Int) (v : Nat) (h : v < S.length) : Z.getS (.lst o (S.map .int)) (.at (v : Int)) = some (.int (sg S v)) := by
  rw [getS_lst _ _ _ (by omega) (by rw [List.length_map]; omega), Int.toNat_natCast, List.getElem?_map, List.getElem?_eq_getElem h]
  unfold sg
  rw [List.getD_eq_getElem?_getD, List.getElem?_eq_getElem h]; rfl
theorem nin01 (i : Int) : dNotInA (.int i) (.tup [.int 0, .int 1]) = some (.bl (!(decide (i = 0) || decide (i = 1)))) := by
  have := notInA_tup i [0, 1]
  simp only [List.map_cons, List.map_nil, List.any_cons, List.any_nil, Bool.or_false] at this
  rw [this]
  congr 3
  rw [decide_eq_decide.mpr (show (0 = i) ↔ i = 0 by omega), decide_eq_decide.mpr (show (1 = i) ↔ i = 1 by omega)]
theorem zipD_ints : ∀ (S L : List Int) (N : Nat), S.length = N → L.length = N → zipD (S.map .int) (L.map .int) = (List.range N).map fun v => .tup [.int (sg S v), .int (sg L v)]
  | S, L, N, h1, h2 => by
    have key : ∀ (S L : List Int), S.length = L.length → zipD (S.map .int) (L.map .int) = (S.zip L).map fun p => .tup [.int p.1, .int p.2] := by
      intro S
      induction S with
      | nil => intro L h; cases L with
        | nil => rfl
        | cons _ _ => simp at h
      | cons s S ih => intro L h; cases L with
        | nil => simp at h
        | cons l L => rw [List.map_cons, List.map_cons, zipD, ih L (by simpa using h)]; rfl
    rw [key S L (by omega)]
    apply List.ext_getElem
    · simp; omega
    · intro i a b
      simp at a b ⊢
      unfold sg
      rw [List.getD_eq_getElem?_getD, List.getD_eq_getElem?_getD, List.getElem?_eq_getElem (by omega), List.getElem?_eq_getElem (by omega)]
      exact ⟨rfl, rfl⟩
/-- a comprehension whose first turn shares a list -/
theorem lc_two {vs : List Nat} {g : D → M Unit} {t : M Bool} {m : M D} {E0 E1 : Env} {p : D → Bool} {h : D → D} : ∀ (ds acc : List D) (E : Env), E = E0 ∨ E = E1 → acc.length + ds.length ≤ 16777216 →
    (∀ d ∈ ds, ∀ E, E = E0 ∨ E = E1 → ∃ ρ1 ρ2, g d E = .ok () ρ1 ∧ t ρ1 = .ok (p d) ρ2 ∧ (p d = false → wipeR vs ρ2 = E1) ∧ (p d = true → ∃ ρ3, m ρ2 = .ok (h d) ρ3 ∧ wipeR vs ρ3 = E1)) →
    ∃ E', (E' = E0 ∨ E' = E1) ∧ loopC vs g t m ds acc E = .ok (acc ++ (ds.filter p).map h) E'
  | [], acc, E, hE, _, _ => ⟨E, hE, by simp [loopC]⟩
  | d :: ds, acc, E, hE, hl, H => by
    obtain ⟨ρ1, ρ2, e1, e2, e3, e4⟩ := H d (by simp) E hE
    rw [List.length_cons] at hl
    cases hp : p d with
    | false =>
      obtain ⟨E', h1, h2⟩ := lc_two ds acc E1 (.inr rfl) (by omega) fun x hx => H x (by simp [hx])
      refine ⟨E', h1, ?_⟩
      rw [loopC, e1]
      simp only [e2, hp, e3 hp, h2]
      simp [hp]
    | true =>
      obtain ⟨ρ3, e5, e6⟩ := e4 hp
      obtain ⟨E', h1, h2⟩ := lc_two ds (acc ++ [h d]) E1 (.inr rfl) (by simp; omega) fun x hx => H x (by simp [hx])
      refine ⟨E', h1, ?_⟩
      have hlt : acc.length < PySem.sizeLine := by
        have : acc.length < 16777216 := by omega
        exact this
      rw [loopC, e1]
      simp only [e2, hp, e5, e6]
      rw [if_pos hlt, h2, List.filter_cons_of_pos hp, List.map_cons, List.append_assoc, List.cons_append, List.nil_append]
end Z

end
section
set_option maxRecDepth 100000
/-! S4: reckoning with classes, dicts in place -/
namespace Z
open PySem (Str)
open L2 (Key)
def pfK (cs : List Nat) (f : Str) (p : Pth) (ρ1 : Env) (o : Option D) : O Pth := match o with
  | some (.ins o c fs ds) => if cs.contains c = true then (match findF f fs with
      | some j => match ds[j]? with
        | some d => if isHole d = true then .no else .ok (p.1, p.2 ++ [.fld f]) ρ1
        | none => .no
      | none => .no) else .no
  | _ => .no
theorem pFld_e (cs : List Nat) (f : Str) (q : M Pth) (ρ : Env) : pFld cs f q ρ = (q ρ).bind fun p ρ1 => pfK cs f p ρ1 (getR ρ1 p) := id rfl
/-- the place of a field: told by the tree -/
def pf2K (f : Str) (p : Pth) (ρ1 : Env) (o : Option D) : O Pth := match o with
  | some d => if isHole d = true then .no else .ok (p.1, p.2 ++ [.fld f]) ρ1
  | none => .no
theorem pfK_ins (cs : List Nat) (f : Str) (p : Pth) (ρ1 : Env) (o : Bool) (c : Nat) (fs : List Str) (ds : List D) (h : cs.contains c = true) : pfK cs f p ρ1 (some (.ins o c fs ds)) = pf2K f p ρ1 (Z.getS (.ins o c fs ds) (.fld f)) := by
  unfold pfK
  simp only [h, if_true]
  show _ = pf2K f p ρ1 ((findF f fs).bind fun j => ds[j]?)
  cases findF f fs with
  | none => rfl
  | some j => rfl
theorem pf2K_some (f : Str) (p : Pth) (ρ1 : Env) (d : D) (h : isHole d = false) : pf2K f p ρ1 (some d) = .ok (p.1, p.2 ++ [.fld f]) ρ1 := by unfold pf2K; simp only [h]; rfl
/-- the parts of an instance: at place j -/
theorem getS_ins (o : Bool) (c : Nat) (fs : List Str) (ds : List D) (f : Str) : Z.getS (.ins o c fs ds) (.fld f) = (findF f fs).bind fun j => ds[j]? := id rfl
theorem setS_ins (o : Bool) (c : Nat) (fs : List Str) (ds : List D) (f : Str) (x : D) (j : Nat) (h : findF f fs = some j) : Z.setS (.ins o c fs ds) (.fld f) x = .ins o c fs (ds.set j x) := by
  unfold Z.setS
  show (match findF f fs with
    | some j => withParts (.ins o c fs ds) ((partsD (.ins o c fs ds)).set j x)
    | none => .ins o c fs ds) = _
  rw [h]; rfl
def sfK (cs : List Nat) (f : Str) (d : D) (p : Pth) (ρ2 : Env) (o : Option D) : O Fl := match o with
  | some (.ins true c fs ds) => if (cs.contains c && decide (fs.length < 1000)) = true then .ok .nx (setR ρ2 p (.ins true c (insPut f d fs ds).1 (insPut f d fs ds).2)) else .no
  | _ => .no
def sf0K (cs : List Nat) (f : Str) (d : D) (o : O Pth) : O Fl := match o with
  | .ok p ρ2 => sfK cs f d p ρ2 (getR ρ2 p)
  | _ => .no
theorem mSetF_e (cs : List Nat) (f : Str) (q : M Pth) (m : M D) (ρ : Env) : mSetF cs f q m ρ = (m ρ).bind fun d ρ1 => sf0K cs f d (q ρ1) := id rfl
theorem sf0K_ok (cs : List Nat) (f : Str) (d : D) (p : Pth) (ρ2 : Env) : sf0K cs f d (.ok p ρ2) = sfK cs f d p ρ2 (getR ρ2 p) := id rfl
theorem sfK_ins (cs : List Nat) (f : Str) (d : D) (p : Pth) (ρ2 : Env) (c : Nat) (fs : List Str) (ds : List D) (h : (cs.contains c && decide (fs.length < 1000)) = true) : sfK cs f d p ρ2 (some (.ins true c fs ds)) = .ok .nx (setR ρ2 p (.ins true c (insPut f d fs ds).1 (insPut f d fs ds).2)) := id (if_pos h)
def slK (k : Nat) (x : Str) (i : Nat) (r : M (List Ar)) (ρ : Env) (o : Option D) : O (List Ar) := match o with
  | some d => if isCls k x d = true then aLend i r ρ else .no
  | none => .no
theorem aSelf_e (k : Nat) (x : Str) (i : Nat) (r : M (List Ar)) (ρ : Env) : aSelf k x i r ρ = slK k x i r ρ (ρ[i]?) := id rfl
theorem slK_some (k : Nat) (x : Str) (i : Nat) (r : M (List Ar)) (ρ : Env) (d : D) (h : isCls k x d = true) : slK k x i r ρ (some d) = aLend i r ρ := id (if_pos h)
theorem mGuard_e (k : Nat) (x : Str) (m : M D) (ρ : Env) : mGuard k x m ρ = (m ρ).bind fun d ρ1 => if isCls k x d = true then .ok d ρ1 else .no := id rfl
def neK (o : O3) : O3 := match o with
  | .ex _ _ => .no
  | o => o
theorem noEx_e (r : List D → O3) (ds : List D) : noEx r ds = neK (r ds) := by unfold noEx neK; cases r ds <;> rfl
theorem neK_ok (d : D) (as : List D) : neK (.ok d as) = .ok d as := id rfl
def mk3 (bs : Bks) (ρ2 : Env) (o : O3) : O D := match o with
  | .ok .non (x :: as) => (match putAll bs as ρ2 with
    | some ρ3 => .ok x ρ3
    | none => .no)
  | .ex k (_ :: as) => (match putAll bs as ρ2 with
    | some ρ3 => .ex k ρ3
    | none => .no)
  | _ => .no
def mk2 (k : Nat) (r : List D → O3) (o : Option (List D × Bks × Env)) : O D := match o with
  | some (ds, bs, ρ2) => mk3 bs ρ2 (r (.ins true k [] [] :: ds))
  | none => .no
theorem mMake_e (k : Nat) (r : List D → O3) (ma : M (List Ar)) (ρ : Env) : mMake k r ma ρ = (ma ρ).bind fun as ρ1 => mk2 k r (gath as ρ1) := by
  unfold mMake mk2 mk3
  cases ma ρ with
  | no => rfl
  | ex k ρ' => rfl
  | ok as ρ1 =>
    show (match gath as ρ1 with | _ => _) = _
    cases gath as ρ1 with
    | none => rfl
    | some x => obtain ⟨ds, bs, ρ2⟩ := x; rfl
theorem mk2_some (k : Nat) (r : List D → O3) (ds : List D) (bs : Bks) (ρ2 : Env) : mk2 k r (some (ds, bs, ρ2)) = mk3 bs ρ2 (r (.ins true k [] [] :: ds)) := id rfl
def mk4 (x : D) (o : Option Env) : O D := match o with
  | some ρ3 => .ok x ρ3
  | none => .no
theorem mk3_ok (bs : Bks) (ρ2 : Env) (x : D) (as : List D) : mk3 bs ρ2 (.ok .non (x :: as)) = mk4 x (putAll bs as ρ2) := id rfl
theorem mk4_some (x : D) (ρ3 : Env) : mk4 x (some ρ3) = .ok x ρ3 := id rfl
def mk5 (k : Nat) (o : Option Env) : O D := match o with
  | some ρ3 => .ex k ρ3
  | none => .no
theorem mk3_ex (bs : Bks) (ρ2 : Env) (k : Nat) (x : D) (as : List D) : mk3 bs ρ2 (.ex k (x :: as)) = mk5 k (putAll bs as ρ2) := id rfl
theorem mk5_some (k : Nat) (ρ3 : Env) : mk5 k (some ρ3) = .ex k ρ3 := id rfl
/-! dicts in place -/
def pyK (p : Pth) (ρ2 : Env) (o : Option Key) : O Pth := match o with
  | some k => (match getR ρ2 (p.1, p.2 ++ [.key k]) with
    | some d => if isHole d = true then .no else .ok (p.1, p.2 ++ [.key k]) ρ2
    | none => .no)
  | none => .no
theorem pKey_e (q : M Pth) (m : M D) (ρ : Env) : pKey q m ρ = (q ρ).bind fun p ρ1 => (m ρ1).bind fun e ρ2 => pyK p ρ2 (keyD e) := id rfl
def py2K (p : Pth) (k : Key) (ρ2 : Env) (o : Option D) : O Pth := match o with
  | some d => if isHole d = true then .no else .ok (p.1, p.2 ++ [.key k]) ρ2
  | none => .no
theorem pyK_some (p : Pth) (ρ2 : Env) (k : Key) : pyK p ρ2 (some k) = py2K p k ρ2 (getR ρ2 (p.1, p.2 ++ [.key k])) := id rfl
theorem py2K_some (p : Pth) (k : Key) (ρ2 : Env) (d : D) (h : isHole d = false) : py2K p k ρ2 (some d) = .ok (p.1, p.2 ++ [.key k]) ρ2 := by unfold py2K; simp only [h]; rfl
theorem keyD_int (i : Int) : keyD (.int i) = some (.inl i) := id rfl
theorem keyD_str (x : Str) : keyD (.str x) = some (.inr x) := id rfl
theorem getS_dic (o : Bool) (ks : List Key) (ds : List D) (k : Key) : Z.getS (.dic o ks ds) (.key k) = (findK k ks).bind fun j => ds[j]? := id rfl
theorem setS_dic (o : Bool) (ks : List Key) (ds : List D) (k : Key) (x : D) (j : Nat) (h : findK k ks = some j) : Z.setS (.dic o ks ds) (.key k) x = .dic o ks (ds.set j x) := by
  unfold Z.setS
  show (match findK k ks with
    | some j => withParts (.dic o ks ds) ((partsD (.dic o ks ds)).set j x)
    | none => .dic o ks ds) = _
  rw [h]; rfl
def sk2 (d e : D) (p : Pth) (ρ3 : Env) (o : Option D) : O Fl := match o with
  | some (.dic true ks ds) => (match keyD e with
    | some k => if (onceQ k ks && decide (ks.length < PySem.sizeLine)) = true then .ok .nx (setR ρ3 p (.dic true (dicPut k d ks ds).1 (dicPut k d ks ds).2)) else .no
    | none => .no)
  | some (.dit true ks ds) => (match tkD e with
    | some k => if (onceQ k ks && decide (ks.length < PySem.sizeLine)) = true then .ok .nx (setR ρ3 p (.dit true (dicPut k d ks ds).1 (dicPut k d ks ds).2)) else .no
    | none => .no)
  | _ => .no
def sk1 (d : D) (p : Pth) (o : O D) : O Fl := match o with
  | .ok e ρ3 => sk2 d e p ρ3 (getR ρ3 p)
  | _ => .no
def sk0 (d : D) (mi : M D) (o : O Pth) : O Fl := match o with
  | .ok p ρ2 => sk1 d p (mi ρ2)
  | _ => .no
theorem mSetK_e (q : M Pth) (mi m : M D) (ρ : Env) : mSetK q mi m ρ = (m ρ).bind fun d ρ1 => sk0 d mi (q ρ1) := id rfl
theorem sk0_ok (d : D) (mi : M D) (p : Pth) (ρ2 : Env) : sk0 d mi (.ok p ρ2) = sk1 d p (mi ρ2) := id rfl
theorem sk1_ok (d e : D) (p : Pth) (ρ3 : Env) : sk1 d p (.ok e ρ3) = sk2 d e p ρ3 (getR ρ3 p) := id rfl
theorem sk2_dic (d e : D) (p : Pth) (ρ3 : Env) (ks : List Key) (ds : List D) (k : Key) (hk : keyD e = some k) (h : (onceQ k ks && decide (ks.length < PySem.sizeLine)) = true) : sk2 d e p ρ3 (some (.dic true ks ds)) = .ok .nx (setR ρ3 p (.dic true (dicPut k d ks ds).1 (dicPut k d ks ds).2)) := by
  unfold sk2
  simp only [hk]
  rw [if_pos h]
def taK2 (ρ : Env) (p : Pth) (d : D) (j : Nat) (o : Option D) : O D := match o with
  | some e => .ok (frz e) (setR ρ p (withParts d ((partsD d).set j (frz e))))
  | none => .no
def gp3 (z : D) (p : Pth) (d : D) (ρ2 : Env) (o : Option (Option Nat)) : O D := match o with
  | some none => .ok z ρ2
  | some (some j) => taK2 ρ2 p d j ((partsD d)[j]?)
  | none => .no
def gp2 (k z : D) (p : Pth) (ρ2 : Env) (o : Option D) : O D := match o with
  | some d => gp3 z p d ρ2 (dFind d k)
  | none => .no
def gp1 (p : Pth) (as : List D) (ρ2 : Env) : O D := match as with
  | [k, z] => gp2 k z p ρ2 (getR ρ2 p)
  | _ => .no
def gp0 (mk mz : M D) (p : Pth) (ρ1 : Env) (o : Option D) : O D := match o with
  | some d0 => if isDct d0 = true then (mCons mk (mCons mz mNil) ρ1).bind fun as ρ2 => gp1 p as ρ2 else .no
  | none => .no
theorem mGetP_e (q : M Pth) (mk mz : M D) (ρ : Env) : mGetP q mk mz ρ = (q ρ).bind fun p ρ1 => gp0 mk mz p ρ1 (getR ρ1 p) := id rfl
theorem gp0_some (mk mz : M D) (p : Pth) (ρ1 : Env) (d0 : D) (h : isDct d0 = true) : gp0 mk mz p ρ1 (some d0) = (mCons mk (mCons mz mNil) ρ1).bind fun as ρ2 => gp1 p as ρ2 := id (if_pos h)
theorem gp1_two (p : Pth) (k z : D) (ρ2 : Env) : gp1 p [k, z] ρ2 = gp2 k z p ρ2 (getR ρ2 p) := id rfl
theorem gp2_some (k z : D) (p : Pth) (ρ2 : Env) (d : D) : gp2 k z p ρ2 (some d) = gp3 z p d ρ2 (dFind d k) := id rfl
theorem gp3_none (z : D) (p : Pth) (d : D) (ρ2 : Env) : gp3 z p d ρ2 (some none) = .ok z ρ2 := id rfl
theorem gp3_some (z : D) (p : Pth) (d : D) (ρ2 : Env) (j : Nat) : gp3 z p d ρ2 (some (some j)) = taK2 ρ2 p d j ((partsD d)[j]?) := id rfl
theorem taK2_some (ρ : Env) (p : Pth) (d : D) (j : Nat) (e : D) : taK2 ρ p d j (some e) = .ok (frz e) (setR ρ p (withParts d ((partsD d).set j (frz e)))) := id rfl
def ap1 (k : D) (p : Pth) (d : D) (ρ2 : Env) (o : Option (Option Nat)) : O D := match o with
  | some (some j) => taK2 ρ2 p d j ((partsD d)[j]?)
  | _ => .no
def ap0 (k : D) (p : Pth) (ρ2 : Env) (o : Option D) : O D := match o with
  | some d => ap1 k p d ρ2 (dFind d k)
  | none => .no
theorem mAtP_e (q : M Pth) (mk : M D) (ρ : Env) : mAtP q mk ρ = (q ρ).bind fun p ρ1 => (mk ρ1).bind fun k ρ2 => ap0 k p ρ2 (getR ρ2 p) := by
  unfold mAtP ap0 ap1
  cases q ρ with
  | no => rfl
  | ex k ρ' => rfl
  | ok p ρ1 =>
    show (mk ρ1).bind _ = (mk ρ1).bind _
    cases mk ρ1 with
    | no => rfl
    | ex k ρ' => rfl
    | ok k ρ2 =>
      show (match getR ρ2 p with | _ => _) = _
      cases getR ρ2 p with
      | none => rfl
      | some d =>
        show (match dFind d k with | _ => _) = (match dFind d k with | _ => _)
        cases dFind d k with
        | none => rfl
        | some o => cases o <;> rfl
theorem ap0_some (k : D) (p : Pth) (ρ2 : Env) (d : D) : ap0 k p ρ2 (some d) = ap1 k p d ρ2 (dFind d k) := id rfl
theorem ap1_some (k : D) (p : Pth) (d : D) (ρ2 : Env) (j : Nat) : ap1 k p d ρ2 (some (some j)) = taK2 ρ2 p d j ((partsD d)[j]?) := id rfl
theorem isHole_insV (o : Bool) (c : Nat) (fs : List Str) (ds : List D) : isHole (.ins o c fs ds) = false := id rfl
theorem shrV_insT (c : Nat) (fs : List Str) (ds : List D) : shr (.ins true c fs ds) = false := id rfl
theorem shrV_insF (c : Nat) (fs : List Str) (ds : List D) : shr (.ins false c fs ds) = shrL ds := by show (!false && shrL ds) = _; rfl
theorem frz_ins (o : Bool) (c : Nat) (fs : List Str) (ds : List D) : frz (.ins o c fs ds) = .ins false c fs (frzL ds) := id rfl
theorem shrV_dicT (ks : List Key) (ds : List D) : shr (.dic true ks ds) = false := id rfl
theorem shrV_dicF (ks : List Key) (ds : List D) : shr (.dic false ks ds) = shrL ds := by show (!false && shrL ds) = _; rfl
theorem frz_dic (o : Bool) (ks : List Key) (ds : List D) : frz (.dic o ks ds) = .dic false ks (frzL ds) := id rfl
theorem isDct_dic (o : Bool) (ks : List Key) (ds : List D) : isDct (.dic o ks ds) = true := id rfl
theorem isDct_dit (o : Bool) (ks : List (List Key)) (ds : List D) : isDct (.dit o ks ds) = true := id rfl
theorem dRev_lst (o : Bool) (ds : List D) : dRev (.lst o ds) = some (.lst true (frzL ds).reverse) := id rfl
theorem isCls_ins (k : Nat) (x : Str) (o : Bool) (c : Nat) (fs : List Str) (ds : List D) (h : c = k) (h2 : findF x fs = none) : isCls k x (.ins o c fs ds) = true := by
  show (decide (c = k) && (findF x fs).isNone) = true
  rw [h2, decide_eq_true h]; rfl
end Z

end
section
set_option maxRecDepth 100000
/-! S5: trees compared by running -/
namespace Z
open PySem (Str)
def eqKs : List L2.Key → List L2.Key → Bool
  | [], [] => true
  | a :: r, b :: s => decide (a = b) && eqKs r s
  | _, _ => false
theorem eqKs_ok : ∀ {a b : List L2.Key}, eqKs a b = true → a = b
  | [], [], _ => rfl
  | x :: r, y :: s, h => by
    rw [eqKs, Bool.and_eq_true, decide_eq_true_eq] at h
    rw [h.1, eqKs_ok h.2]
  | [], _ :: _, h => by cases h
  | _ :: _, [], h => by cases h
def eqKss : List (List L2.Key) → List (List L2.Key) → Bool
  | [], [] => true
  | a :: r, b :: s => eqKs a b && eqKss r s
  | _, _ => false
theorem eqKss_ok : ∀ {a b : List (List L2.Key)}, eqKss a b = true → a = b
  | [], [], _ => rfl
  | x :: r, y :: s, h => by
    rw [eqKss, Bool.and_eq_true] at h
    rw [eqKs_ok h.1, eqKss_ok h.2]
  | [], _ :: _, h => by cases h
  | _ :: _, [], h => by cases h
def eqSs : List Str → List Str → Bool
  | [], [] => true
  | a :: r, b :: s => decide (a = b) && eqSs r s
  | _, _ => false
theorem eqSs_ok : ∀ {a b : List Str}, eqSs a b = true → a = b
  | [], [], _ => rfl
  | x :: r, y :: s, h => by
    rw [eqSs, Bool.and_eq_true, decide_eq_true_eq] at h
    rw [h.1, eqSs_ok h.2]
  | [], _ :: _, h => by cases h
  | _ :: _, [], h => by cases h
mutual
def eqD : D → D → Bool
  | .hole, e => match e with | .hole => true | _ => false
  | .non, e => match e with | .non => true | _ => false
  | .bl a, e => match e with | .bl b => a == b | _ => false
  | .int a, e => match e with | .int b => decide (a = b) | _ => false
  | .str a, e => match e with | .str b => decide (a = b) | _ => false
  | .tup a, e => match e with | .tup b => eqDL a b | _ => false
  | .lst o a, e => match e with | .lst u b => o == u && eqDL a b | _ => false
  | .out a, e => match e with | .out b => eqDL a b | _ => false
  | .dic o k a, e => match e with | .dic u l b => o == u && (eqKs k l && eqDL a b) | _ => false
  | .dit o k a, e => match e with | .dit u l b => o == u && (eqKss k l && eqDL a b) | _ => false
  | .dnk o a, e => match e with | .dnk u b => o == u && eqDL a b | _ => false
  | .ins o c f a, e => match e with | .ins u d g b => o == u && (decide (c = d) && (eqSs f g && eqDL a b)) | _ => false
def eqDL : List D → List D → Bool
  | [], e => match e with | [] => true | _ => false
  | d :: r, e => match e with | x :: s => eqD d x && eqDL r s | _ => false
end
mutual
theorem eqD_ok : ∀ {a b : D}, eqD a b = true → a = b
  | .hole, b, h => by cases b <;> first | rfl | (simp [eqD] at h; done)
  | .non, b, h => by cases b <;> first | rfl | (simp [eqD] at h; done)
  | .bl x, b, h => by
    cases b <;> first | (simp [eqD] at h; done) | skip
    simp only [eqD, beq_iff_eq] at h; rw [h]
  | .int x, b, h => by
    cases b <;> first | (simp [eqD] at h; done) | skip
    simp only [eqD, decide_eq_true_eq] at h; rw [h]
  | .str x, b, h => by
    cases b <;> first | (simp [eqD] at h; done) | skip
    simp only [eqD, decide_eq_true_eq] at h; rw [h]
  | .tup x, b, h => by
    cases b <;> first | (simp [eqD] at h; done) | skip
    simp only [eqD] at h; rw [eqDL_ok h]
  | .lst o x, b, h => by
    cases b <;> first | (simp [eqD] at h; done) | skip
    simp only [eqD, Bool.and_eq_true, beq_iff_eq] at h; rw [h.1, eqDL_ok h.2]
  | .out x, b, h => by
    cases b <;> first | (simp [eqD] at h; done) | skip
    simp only [eqD] at h; rw [eqDL_ok h]
  | .dic o k x, b, h => by
    cases b <;> first | (simp [eqD] at h; done) | skip
    simp only [eqD, Bool.and_eq_true, Bool.and_eq_true, beq_iff_eq] at h; rw [h.1, eqKs_ok h.2.1, eqDL_ok h.2.2]
  | .dit o k x, b, h => by
    cases b <;> first | (simp [eqD] at h; done) | skip
    simp only [eqD, Bool.and_eq_true, Bool.and_eq_true, beq_iff_eq] at h; rw [h.1, eqKss_ok h.2.1, eqDL_ok h.2.2]
  | .dnk o x, b, h => by
    cases b <;> first | (simp [eqD] at h; done) | skip
    simp only [eqD, Bool.and_eq_true, beq_iff_eq] at h; rw [h.1, eqDL_ok h.2]
  | .ins o c f x, b, h => by
    cases b <;> first | (simp [eqD] at h; done) | skip
    simp only [eqD, Bool.and_eq_true, Bool.and_eq_true, Bool.and_eq_true, beq_iff_eq, decide_eq_true_eq] at h; rw [h.1, h.2.1, eqSs_ok h.2.2.1, eqDL_ok h.2.2.2]
theorem eqDL_ok : ∀ {a b : List D}, eqDL a b = true → a = b
  | [], b, h => by cases b <;> first | rfl | (simp [eqDL] at h; done)
  | d :: r, b, h => by
    cases b <;> first | (simp [eqDL] at h; done) | skip
    simp only [eqDL, Bool.and_eq_true] at h
    rw [eqD_ok h.1, eqDL_ok h.2]
end
/-- a call's answer and what its arguments hold -/
def eqO (o : O3) (d : D) (as : List D) : Bool := match o with
  | .ok e bs => eqD e d && eqDL bs as
  | _ => false
theorem eqO_ok {o : O3} {d : D} {as : List D} (h : eqO o d as = true) : o = .ok d as := by
  cases o with
  | ok e bs =>
    have h : (eqD e d && eqDL bs as) = true := h
    rw [Bool.and_eq_true] at h
    rw [eqD_ok h.1, eqDL_ok h.2]
  | ex _ _ => cases h
  | no => cases h
def valO : O3 → D
  | .ok d _ => d
  | _ => .hole
def argO (k : Nat) : O3 → D
  | .ok _ as => as.getD k .hole
  | _ => .hole
end Z

end
section
set_option maxRecDepth 100000
set_option maxHeartbeats 4000000
namespace Pk47
open PySem PySem.Spec L2 Z
open PyProof.Rows hiding St
def topS (i : Nat) : Stmt := PySem.Challenge.pw_bastion_k47_fault_distances.main.body.getD i (.Pass ⟨0, 0, 0, 0⟩)
/-- turns of a while -/
def wN : Nat := 1000000000000
abbrev s_links_of : Stmt := topS 4
theorem sc_links_of : FnScope ["graph", "nodes", "edges", "links", "_", "at", "a", "b"] ["graph"] (defScope s_links_of) := ⟨rfl, rfl, rfl, by decide +kernel, rfl, by decide +kernel, by decide +kernel⟩
abbrev s_odd_walk : Stmt := topS 6
theorem sc_odd_walk : FnScope ["graph", "links", "start", "edges", "before", "front", "reached", "vertex", "side", "other", "at", "step", "walk", "here"] ["graph", "links", "start"] (defScope s_odd_walk) := ⟨rfl, rfl, rfl, by decide +kernel, rfl, by decide +kernel, by decide +kernel⟩
abbrev s_least_flip : Stmt := topS 7
theorem sc_least_flip : FnScope ["graph", "links", "best", "start", "walk", "at"] ["graph"] (defScope s_least_flip) := ⟨rfl, rfl, rfl, by decide +kernel, rfl, by decide +kernel, by decide +kernel⟩
abbrev s_fault_distance : Stmt := topS 8
theorem sc_fault_distance : FnScope ["graph"] ["graph"] (defScope s_fault_distance) := ⟨rfl, rfl, rfl, by decide +kernel, rfl, by decide +kernel, by decide +kernel⟩
abbrev s__law_cell : Stmt := topS 10
theorem sc__law_cell : FnScope ["_law_script", "_law_k"] ["_law_script", "_law_k"] (defScope s__law_cell) := ⟨rfl, rfl, rfl, by decide +kernel, rfl, by decide +kernel, by decide +kernel⟩
abbrev s__law_numbers : Stmt := topS 11
theorem sc__law_numbers : FnScope ["_law_script", "_law_first", "_law_most", "_law_found", "_law_at", "_law_cell_here", "_law_k", "_law_mixed"] ["_law_script", "_law_first", "_law_most"] (defScope s__law_numbers) := ⟨rfl, rfl, rfl, by decide +kernel, rfl, by decide +kernel, by decide +kernel⟩
abbrev s__law_is_integer : Stmt := topS 12
theorem sc__law_is_integer : FnScope ["_law_actual"] ["_law_actual"] (defScope s__law_is_integer) := ⟨rfl, rfl, rfl, by decide +kernel, rfl, by decide +kernel, by decide +kernel⟩
abbrev s__law_graph : Stmt := topS 13
theorem sc__law_graph : FnScope ["_law_numbers_here", "_law_nodes", "_law_edges", "_law_number", "_law_a", "_law_b", "_law_edge"] ["_law_numbers_here", "_law_nodes"] (defScope s__law_graph) := ⟨rfl, rfl, rfl, by decide +kernel, rfl, by decide +kernel, by decide +kernel⟩
abbrev s__law_least_flip : Stmt := topS 14
theorem sc__law_least_flip : FnScope ["_law_graph_here", "_law_best", "_law_pick", "_law_many", "_law_flip", "_law_ends", "_law_at"] ["_law_graph_here"] (defScope s__law_least_flip) := ⟨rfl, rfl, rfl, by decide +kernel, rfl, by decide +kernel, by decide +kernel⟩
abbrev s_law : Stmt := topS 15
theorem sc_law : FnScope ["_law_script", "_law_digit", "_law_graph_here", "_law_least", "_law_actual", "e"] ["_law_script"] (defScope s_law) := ⟨rfl, rfl, rfl, by decide +kernel, rfl, by decide +kernel, by decide +kernel⟩
/-- the classes by number -/
def clK (K : PySem.W.Frag) : Nat → Addr
  | 0 => addrOf K "BastionError"
  | 1 => addrOf K "NoSolution"
  | _ => 0
/-- what the top has written -/
structure TT (w : World) (K : PySem.W.Frag) (mg : Str → Option Value) where
  g_BastionError : mg "BastionError" = some (.ref (clK K 0))
  g_NoSolution : mg "NoSolution" = some (.ref (clK K 1))
  x_NoSolution : XC K (clK K 1) [.type "ValueError", .type "Exception", .type "BaseException", .type "object"] "ValueError.__new__"
  e_NoSolution_BastionError : PySem.W.exmOne K (.ref (clK K 1)) (.ref (clK K 0)) = some true
  kit_NoSolution_NoSolution : PySem.W.kitOne K (.ref (clK K 1)) (.ref (clK K 1)) = some true
  c_NoSolution : L2.ExcC K (clK K 1)
  f_links_of : Addr
  fd_links_of : FuncData
  F_links_of : Fun K "links_of" "links_of" s_links_of f_links_of fd_links_of
  g_links_of : mg "links_of" = some (.ref f_links_of)
  b_links_of : Binds K fd_links_of ["graph"] []
  f_odd_walk : Addr
  fd_odd_walk : FuncData
  F_odd_walk : Fun K "odd_walk" "odd_walk" s_odd_walk f_odd_walk fd_odd_walk
  g_odd_walk : mg "odd_walk" = some (.ref f_odd_walk)
  b_odd_walk : Binds K fd_odd_walk ["graph", "links", "start"] []
  f_least_flip : Addr
  fd_least_flip : FuncData
  F_least_flip : Fun K "least_flip" "least_flip" s_least_flip f_least_flip fd_least_flip
  g_least_flip : mg "least_flip" = some (.ref f_least_flip)
  b_least_flip : Binds K fd_least_flip ["graph"] []
  f_fault_distance : Addr
  fd_fault_distance : FuncData
  F_fault_distance : Fun K "fault_distance" "fault_distance" s_fault_distance f_fault_distance fd_fault_distance
  g_fault_distance : mg "fault_distance" = some (.ref f_fault_distance)
  b_fault_distance : Binds K fd_fault_distance ["graph"] []
  f__law_cell : Addr
  fd__law_cell : FuncData
  F__law_cell : Fun K "_law_cell" "_law_cell" s__law_cell f__law_cell fd__law_cell
  g__law_cell : mg "_law_cell" = some (.ref f__law_cell)
  b__law_cell : Binds K fd__law_cell ["_law_script", "_law_k"] []
  f__law_numbers : Addr
  fd__law_numbers : FuncData
  F__law_numbers : Fun K "_law_numbers" "_law_numbers" s__law_numbers f__law_numbers fd__law_numbers
  g__law_numbers : mg "_law_numbers" = some (.ref f__law_numbers)
  b__law_numbers : Binds K fd__law_numbers ["_law_script", "_law_first", "_law_most"] []
  f__law_is_integer : Addr
  fd__law_is_integer : FuncData
  F__law_is_integer : Fun K "_law_is_integer" "_law_is_integer" s__law_is_integer f__law_is_integer fd__law_is_integer
  g__law_is_integer : mg "_law_is_integer" = some (.ref f__law_is_integer)
  b__law_is_integer : Binds K fd__law_is_integer ["_law_actual"] []
  f__law_graph : Addr
  fd__law_graph : FuncData
  F__law_graph : Fun K "_law_graph" "_law_graph" s__law_graph f__law_graph fd__law_graph
  g__law_graph : mg "_law_graph" = some (.ref f__law_graph)
  b__law_graph : Binds K fd__law_graph ["_law_numbers_here", "_law_nodes"] []
  f__law_least_flip : Addr
  fd__law_least_flip : FuncData
  F__law_least_flip : Fun K "_law_least_flip" "_law_least_flip" s__law_least_flip f__law_least_flip fd__law_least_flip
  g__law_least_flip : mg "_law_least_flip" = some (.ref f__law_least_flip)
  b__law_least_flip : Binds K fd__law_least_flip ["_law_graph_here"] []
  f_law : Addr
  fd_law : FuncData
  F_law : Fun K "law" "law" s_law f_law fd_law
  g_law : mg "law" = some (.ref f_law)
  b_law : Binds K fd_law ["_law_script"] []
  n_abs : mg "abs" = none
  n_bool : mg "bool" = none
  n_enumerate : mg "enumerate" = none
  n_int : mg "int" = none
  n_isinstance : mg "isinstance" = none
  n_len : mg "len" = none
  n_max : mg "max" = none
  n_min : mg "min" = none
  n_range : mg "range" = none
  n_set : mg "set" = none
  n_sorted : mg "sorted" = none
  n_tuple : mg "tuple" = none
def K1_links_of : M D := (mLst mNil)
def L1_links_of : M Fl := (mSeq (mDo (mMethL true lAppend (pIx (pVar 3) (mVar 6)) (mCons (mTup (mCons (mVar 7) (mCons (mVar 5) mNil))) mNil))) (mDo (mMethL true lAppend (pIx (pVar 3) (mVar 7)) (mCons (mTup (mCons (mVar 6) (mCons (mVar 5) mNil))) mNil))))
def b_links_of : M Fl := (mSeq (mAsg (dTup 2 (dCons (dName 1) (dCons (dName 2) dNil))) (mVar 0)) (mSeq (mAsg (dName 3) (mLc [4] (mRng1 (mCons (mBin dAdd (mVar 1) (mK (.int 1))) mNil)) (dName 4) mYes K1_links_of)) (mSeq (mFor (mEnumV 2) (dTup 2 (dCons (dName 5) (dCons (dTup 3 (dCons (dName 6) (dCons (dName 7) (dCons (dName 4) dNil)))) dNil))) L1_links_of) (mRet (mMov 3)))))
def r_links_of : List D → O3 := fnR [true] 7 b_links_of
theorem ok_links_of {P : Program} {w : World} {K : PySem.W.Frag} {mg : Str → Option Value} {base : Heap} (T : TT w K mg) : FnOk P w K mg base (L2.CX P w) 1 T.f_links_of T.fd_links_of ["graph"] (spR ⟨K, clK K⟩ r_links_of 1) :=
  fnZ T.F_links_of sc_links_of [true] 7 rfl rfl fun cdv A outer s H vs E hv κ => (rss_cons (rs_asg (c := false) (re_var (pv 0)) (rg_tup κ (rgs_cons (rg_name κ (i := 1) rfl (.inl rfl) (keep_set (by rfl))) (rgs_cons (rg_name κ (i := 2) rfl (.inl rfl) (keep_set (by rfl))) rgs_nil)))) (rss_cons (rs_setLc (i := 3) rfl rfl (keep_set (by rfl)) (sw_true rfl rfl rfl (by decide +kernel)) (own := [("_", 4)]) (c1 := true) (c2 := false) κ (ri_rng1 (c := false) T.n_range (aCons (xAdd (re_var (pv 1)) re_int) ra_nil)) (blkOk_by (N := ["graph", "nodes", "edges", "links", "_", "at", "a", "b"]) (sc := defScope s_links_of) (by decide +kernel)) (fun _ _ _ _ _ _ κ => (rg_name κ (i := 4) rfl (.inl rfl) (wp_set (by rfl)))) (fun _ _ _ _ _ _ κ => rt_nil) (fun _ _ _ _ _ _ κ => (re_lst ra_nil))) (rss_cons (rs_hold 2 fun v0 => rs_for κ (ri_enumV hold_same (pv 2) T.n_enumerate) (rg_tup κ (rgs_cons (rg_name κ (i := 5) rfl (.inl rfl) (keep_and (keep_set (by rfl)) (by decide))) (rgs_cons (rg_tup κ (rgs_cons (rg_name κ (i := 6) rfl (.inl rfl) (keep_and (keep_set (by rfl)) (by decide))) (rgs_cons (rg_name κ (i := 7) rfl (.inl rfl) (keep_and (keep_set (by rfl)) (by decide))) (rgs_cons (rg_name κ (i := 4) rfl (.inl rfl) (keep_and (keep_set (by rfl)) (by decide))) rgs_nil)))) rgs_nil))) (rss_cons (rs_expr (c := false) (re_append (c := true) (rp_ix (rp_var (pv 3)) (re_var (pv 6))) (aCons (re_tup (aCons (re_var (pv 7)) (aCons (re_var (pv 5)) ra_nil))) ra_nil))) (rss_one (rs_expr (c := false) (re_append (c := true) (rp_ix (rp_var (pv 3)) (re_var (pv 7))) (aCons (re_tup (aCons (re_var (pv 6)) (aCons (re_var (pv 5)) ra_nil))) ra_nil)))))) (rss_one (rs_ret (c := false) (re_mov (pv 3)))))))
def L1_odd_walk : M Fl := (mSeq (mAsg (dName 11) (mTup (mCons (mVar 9) (mCons (mBin dXor (mVar 8) (mTake (pIx (pIx (pVar 3) (mVar 10)) (mK (.int 2))))) mNil)))) (mIf (mTst (mBinP dKNot (mVar 11) (pVar 4))) (mSeq (mSetK (pVar 4) (mVar 11) (mTup (mCons (mVar 7) (mCons (mVar 8) (mCons (mVar 10) mNil))))) (mDo (mMethL true lAppend (pVar 6) (mCons (mVar 11) mNil)))) mSkip))
def L2_odd_walk : M Fl := (mFor (mItems (mTake (pIx (pVar 1) (mVar 7)))) (dTup 2 (dCons (dName 9) (dCons (dName 10) dNil))) L1_odd_walk)
def L3_odd_walk : M Fl := (mSeq (mAsg (dName 6) (mLst mNil)) (mSeq (mFor (mLend 5) (dTup 2 (dCons (dName 7) (dCons (dName 8) dNil))) L2_odd_walk) (mAsg (dName 5) (mVar 6))))
def W1_odd_walk : M Bool := (mAnd (mTst (mBin dGt (mPeek (pVar 5) dLen) (mK (.int 0)))) (mTst (mBinP dKNot (mTup (mCons (mVar 2) (mCons (mK (.int 1)) mNil))) (pVar 4))))
def L4_odd_walk : M Fl := (mSeq (mDo (mMethL true lAppend (pVar 12) (mCons (mTake (pIx (pVar 13) (mK (.int 2)))) mNil))) (mAsg (dName 13) (mAtP (pVar 4) (mTup (mCons (mTake (pIx (pVar 13) (mK (.int 0)))) (mCons (mTake (pIx (pVar 13) (mK (.int 1)))) mNil))))))
def W2_odd_walk : M Bool := (mTst (mPeek (pVar 13) oNotN))
def b_odd_walk : M Fl := (mSeq (mAsg (dName 3) (mTake (pIx (pVar 0) (mK (.int 1))))) (mSeq (mAsg (dName 4) (mDicT (mCons (mTup (mCons (mVar 2) (mCons (mK (.int 0)) mNil))) (mCons (mK .non) mNil)))) (mSeq (mAsg (dName 5) (mLst (mCons (mTup (mCons (mVar 2) (mCons (mK (.int 0)) mNil))) mNil))) (mSeq (mWhile W1_odd_walk L3_odd_walk wN) (mSeq (mIf (mTst (mBinP dKNot (mTup (mCons (mVar 2) (mCons (mK (.int 1)) mNil))) (pVar 4))) (mRet (mK .non)) mSkip) (mSeq (mAsg (dName 12) (mLst mNil)) (mSeq (mAsg (dName 13) (mAtP (pVar 4) (mTup (mCons (mVar 2) (mCons (mK (.int 1)) mNil))))) (mSeq (mWhile W2_odd_walk L4_odd_walk wN) (mRet (mMov 12))))))))))
def r_odd_walk : List D → O3 := fnR [true, true, true] 11 b_odd_walk
theorem ok_odd_walk {P : Program} {w : World} {K : PySem.W.Frag} {mg : Str → Option Value} {base : Heap} (T : TT w K mg) : FnOk P w K mg base (L2.CX P w) 1 T.f_odd_walk T.fd_odd_walk ["graph", "links", "start"] (spR ⟨K, clK K⟩ r_odd_walk 3) :=
  fnZ T.F_odd_walk sc_odd_walk [true, true, true] 11 rfl rfl fun cdv A outer s H vs E hv κ => (rss_cons (rs_set (c := false) κ (i := 3) rfl (.inl rfl) (keep_set (by rfl)) (xTake (rp_ix (rp_var (pv 0)) re_int))) (rss_cons (rs_set (c := false) κ (i := 4) rfl (.inl rfl) (keep_set (by rfl)) (re_dicT κ (rpp_cons (re_tup (aCons (re_var (pv 2)) (aCons re_int ra_nil))) re_non rpp_nil))) (rss_cons (rs_set (c := false) κ (i := 5) rfl (.inl rfl) (keep_set (by rfl)) (re_lst (aCons (re_tup (aCons (re_var (pv 2)) (aCons re_int ra_nil))) ra_nil))) (rss_cons (rs_while (c := false) wN κ (rb_w (wAnd (bGt (xLenP (rp_var (pv 5)) T.n_len) re_int) (rw_and1 (bKNot κ (re_tup (aCons (re_var (pv 2)) (aCons re_int ra_nil))) (rp_var (pv 4)))))) (rss_cons (rs_set (c := false) κ (i := 6) rfl (.inl rfl) (keep_set (by rfl)) (re_lst ra_nil)) (rss_cons (rs_hold 5 fun v0 => rs_for κ (ri_lend hold_same (pv 5)) (rg_tup κ (rgs_cons (rg_name κ (i := 7) rfl (.inl rfl) (keep_and (keep_set (by rfl)) (by decide))) (rgs_cons (rg_name κ (i := 8) rfl (.inl rfl) (keep_and (keep_set (by rfl)) (by decide))) rgs_nil))) (rss_one (rs_for κ (ri_items (c := false) (xTake (rp_ix (rp_var (pv 1)) (re_var (pv 7))))) (rg_tup κ (rgs_cons (rg_name κ (i := 9) rfl (.inl rfl) (keep_and (keep_set (by rfl)) (by decide))) (rgs_cons (rg_name κ (i := 10) rfl (.inl rfl) (keep_and (keep_set (by rfl)) (by decide))) rgs_nil))) (rss_cons (rs_set (c := false) κ (i := 11) rfl (.inl rfl) (keep_and (keep_set (by rfl)) (by decide)) (re_tup (aCons (re_var (pv 9)) (aCons (xXor (re_var (pv 8)) (xTake (rp_ix (rp_ix (rp_var (pv 3)) (re_var (pv 10))) re_int))) ra_nil)))) (rss_one (rs_if (c := false) (bKNot κ (re_var (pv 11)) (rp_var (pv 4))) (rss_cons (rs_setK (c := false) κ (re_tup (aCons (re_var (pv 7)) (aCons (re_var (pv 8)) (aCons (re_var (pv 10)) ra_nil)))) (rp_var (pv 4)) (re_var (pv 11))) (rss_one (rs_expr (c := false) (re_append (c := true) (rp_var (pv 6)) (aCons (re_var (pv 11)) ra_nil))))) rss_nil)))))) (rss_one (rs_set (c := false) κ (i := 5) rfl (.inl rfl) (keep_set (by rfl)) (re_var (pv 6))))))) (rss_cons (rs_if (c := false) (bKNot κ (re_tup (aCons (re_var (pv 2)) (aCons re_int ra_nil))) (rp_var (pv 4))) (rss_one (rs_ret (c := false) re_non)) rss_nil) (rss_cons (rs_set (c := false) κ (i := 12) rfl (.inl rfl) (keep_set (by rfl)) (re_lst ra_nil)) (rss_cons (rs_set (c := false) κ (i := 13) rfl (.inl rfl) (keep_set (by rfl)) (re_atP κ (rp_var (pv 4)) (re_tup (aCons (re_var (pv 2)) (aCons re_int ra_nil))))) (rss_cons (rs_while (c := false) wN κ (bNotNP (rp_var (pv 13))) (rss_cons (rs_expr (c := false) (re_append (c := true) (rp_var (pv 12)) (aCons (xTake (rp_ix (rp_var (pv 13)) re_int)) ra_nil))) (rss_one (rs_set (c := false) κ (i := 13) rfl (.inl rfl) (keep_set (by rfl)) (re_atP κ (rp_var (pv 4)) (re_tup (aCons (xTake (rp_ix (rp_var (pv 13)) re_int)) (aCons (xTake (rp_ix (rp_var (pv 13)) re_int)) ra_nil)))))))) (rss_one (rs_ret (c := false) (re_mov (pv 12))))))))))))
def L1_least_flip : M Fl := (mSeq (mAsg (dName 4) (mCall r_odd_walk (aLend 0 (aLend 1 (aLend 3 aNil))))) (mIf (mAnd (mTst (mPeek (pVar 4) oNotN)) (mOr (mTst (mPeek (pVar 2) oIsN)) (mTst (mBin dLt (mPeek (pVar 4) dLen) (mPeek (pVar 2) dLen))))) (mAsg (dName 2) (mVar 4)) mSkip))
def U1_least_flip : M Bool := (mTst (mBin dEq (mBin dMod (mLstI fCount (mVar 2) (mVar 5)) (mK (.int 2))) (mK (.int 1))))
def b_least_flip : M Fl := (mSeq (mAsg (dName 1) (mCall r_links_of (aLend 0 aNil))) (mSeq (mAsg (dName 2) (mK .non)) (mSeq (mFor (mRng1 (mCons (mBin dAdd (mTake (pIx (pVar 0) (mK (.int 0)))) (mK (.int 1))) mNil)) (dName 3) L1_least_flip) (mSeq (mIf (mTst (mPeek (pVar 2) oIsN)) (mRaise 1) mSkip) (mRet (mLc [5] (mItems (mFun fSortSet (mCons (mVar 2) mNil))) (dName 5) U1_least_flip (mVar 5)))))))
def r_least_flip : List D → O3 := fnR [true] 5 b_least_flip
theorem ok_least_flip {P : Program} {w : World} {K : PySem.W.Frag} {mg : Str → Option Value} {base : Heap} (T : TT w K mg) : FnOk P w K mg base (L2.CX P w) 2 T.f_least_flip T.fd_least_flip ["graph"] (spR ⟨K, clK K⟩ r_least_flip 1) :=
  fnZ T.F_least_flip sc_least_flip [true] 5 rfl rfl fun cdv A outer s H vs E hv κ => (rss_cons (rs_set (c := false) κ (i := 1) rfl (.inl rfl) (keep_set (by rfl)) (re_call κ (ok_links_of T) (by decide) T.g_links_of T.F_links_of.kp T.b_links_of (fnR_len rfl) (rc_lend (pv 0) rc_nil))) (rss_cons (rs_set (c := false) κ (i := 2) rfl (.inr rfl) (keep_set (by rfl)) re_non) (rss_cons (rs_for κ (ri_rng1 (c := false) T.n_range (aCons (xAdd (xTake (rp_ix (rp_var (pv 0)) re_int)) re_int) ra_nil)) (rg_name κ (i := 3) rfl (.inl rfl) (keep_set (by rfl))) (rss_cons (rs_set (c := false) κ (i := 4) rfl (.inl rfl) (keep_set (by rfl)) (re_call κ (ok_odd_walk T) (by decide) T.g_odd_walk T.F_odd_walk.kp T.b_odd_walk (fnR_len rfl) (rc_lend (pv 0) (rc_lend (pv 1) (rc_lend (pv 3) rc_nil))))) (rss_one (rs_if (c := false) (rb_w (wAnd (bNotNP (rp_var (pv 4))) (rw_and1 (rb_w (wOr (bIsNP (rp_var (pv 2))) (rw_or1 (bLt (xLenP (rp_var (pv 4)) T.n_len) (xLenP (rp_var (pv 2)) T.n_len)))))))) (rss_one (rs_set (c := false) κ (i := 2) rfl (.inr rfl) (keep_set (by rfl)) (re_var (pv 4)))) rss_nil)))) (rss_cons (rs_if (c := false) (bIsNP (rp_var (pv 2))) (rss_one (rs_raise κ PySem.F.excBase_ValueError T.g_NoSolution T.x_NoSolution)) rss_nil) (rss_one (rs_ret (c := false) (re_lc (own := [("at", 5)]) (c1 := false) (c2 := false) κ (ri_items (c := false) (re_sortSet κ (aCons (re_var (pv 2)) ra_nil) T.n_sorted T.n_set)) (blkOk_by (N := ["graph", "links", "best", "start", "walk", "at"]) (sc := defScope s_least_flip) (by decide +kernel)) (fun _ _ _ _ _ _ κ => (rg_name κ (i := 5) rfl (.inl rfl) (wp_set (by rfl)))) (fun _ _ _ _ _ _ κ => (rt_one (bEq κ (xMod (re_count (c1 := false) (c2 := false) (re_var (pv 2)) (re_var (pv 5))) re_int) re_int))) (fun _ _ _ _ _ _ κ => (re_var (pv 5))))))))))
def b_fault_distance : M Fl := (mRet (mFun (one1 dLen) (mCons (mCall r_least_flip (aLend 0 aNil)) mNil)))
def r_fault_distance : List D → O3 := fnR [true] 0 b_fault_distance
theorem ok_fault_distance {P : Program} {w : World} {K : PySem.W.Frag} {mg : Str → Option Value} {base : Heap} (T : TT w K mg) : FnOk P w K mg base (L2.CX P w) 3 T.f_fault_distance T.fd_fault_distance ["graph"] (spR ⟨K, clK K⟩ r_fault_distance 1) :=
  fnZ T.F_fault_distance sc_fault_distance [true] 0 rfl rfl fun cdv A outer s H vs E hv κ => (rss_one (rs_ret (c := false) (re_len (aCons (re_call κ (ok_least_flip T) (by decide) T.g_least_flip T.F_least_flip.kp T.b_least_flip (fnR_len rfl) (rc_lend (pv 0) rc_nil)) ra_nil) T.n_len)))
def b__law_cell : M Fl := (mSeq (mIf (mTst (mBin dLt (mVar 1) (mPeek (pVar 0) dLen))) (mRet (mTake (pIx (pVar 0) (mVar 1)))) mSkip) (mRet (mK (.int 0))))
def r__law_cell : List D → O3 := fnR [true, true] 0 b__law_cell
theorem ok__law_cell {P : Program} {w : World} {K : PySem.W.Frag} {mg : Str → Option Value} {base : Heap} (T : TT w K mg) : FnOk P w K mg base (L2.CX P w) 1 T.f__law_cell T.fd__law_cell ["_law_script", "_law_k"] (spR ⟨K, clK K⟩ r__law_cell 2) :=
  fnZ T.F__law_cell sc__law_cell [true, true] 0 rfl rfl fun cdv A outer s H vs E hv κ => (rss_cons (rs_if (c := false) (bLt (re_var (pv 1)) (xLenP (rp_var (pv 0)) T.n_len)) (rss_one (rs_ret (c := false) (xTake (rp_ix (rp_var (pv 0)) (re_var (pv 1)))))) rss_nil) (rss_one (rs_ret (c := false) re_int)))
def L1__law_numbers : M Fl := (mIf (mAnd (mTst (mBin dGt (mVar 5) (mK (.int 0)))) (mTst (mBin dLt (mPeek (pVar 3) dLen) (mVar 2)))) (mSeq (mDo (mMethL true lAppend (pVar 3) (mCons (mBin dMod (mFun fInt (mCons (mVar 5) mNil)) (mK (.int 4096))) mNil))) (mAsg (dName 5) (mBin dDiv (mVar 5) (mK (.int 4096))))) mSkip)
def L2__law_numbers : M Fl := (mSeq (mAsg (dName 5) (mFun (fInt1 iAbs) (mCons (mTake (pIx (pVar 0) (mVar 4))) mNil))) (mIf (mTst (mBin dGe (mVar 5) (mK (.int 1000000000000000000)))) (mFor (mRng1 (mCons (mK (.int 60)) mNil)) (dName 6) L1__law_numbers) (mIf (mTst (mBin dLt (mPeek (pVar 3) dLen) (mVar 2))) (mSeq (mAsg (dName 7) (mBin dMod (mFun fInt (mCons (mBin dAdd (mBin dAdd (mBin dMul (mVar 5) (mK (.int 48271))) (mBin dMul (mVar 4) (mK (.int 69621)))) (mK (.int 12345))) mNil)) (mK (.int 2147483647)))) (mSeq (mAsg (dName 7) (mBin dMod (mFun fInt (mCons (mBin dAdd (mBin dMul (mVar 7) (mK (.int 69621))) (mBin dDiv (mVar 7) (mK (.int 1009)))) mNil)) (mK (.int 1000003)))) (mDo (mMethL true lAppend (pVar 3) (mCons (mBin dMod (mFun fInt (mCons (mVar 7) mNil)) (mK (.int 4096))) mNil))))) mSkip)))
def b__law_numbers : M Fl := (mSeq (mAsg (dName 3) (mLst mNil)) (mSeq (mFor (mRng2 (mCons (mVar 1) (mCons (mPeek (pVar 0) dLen) mNil))) (dName 4) L2__law_numbers) (mRet (mMov 3))))
def r__law_numbers : List D → O3 := fnR [true, true, true] 5 b__law_numbers
theorem ok__law_numbers {P : Program} {w : World} {K : PySem.W.Frag} {mg : Str → Option Value} {base : Heap} (T : TT w K mg) : FnOk P w K mg base (L2.CX P w) 1 T.f__law_numbers T.fd__law_numbers ["_law_script", "_law_first", "_law_most"] (spR ⟨K, clK K⟩ r__law_numbers 3) :=
  fnZ T.F__law_numbers sc__law_numbers [true, true, true] 5 rfl rfl fun cdv A outer s H vs E hv κ => (rss_cons (rs_set (c := false) κ (i := 3) rfl (.inl rfl) (keep_set (by rfl)) (re_lst ra_nil)) (rss_cons (rs_for κ (ri_rng2 (c := false) T.n_range (aCons (re_var (pv 1)) (aCons (xLenP (rp_var (pv 0)) T.n_len) ra_nil))) (rg_name κ (i := 4) rfl (.inl rfl) (keep_set (by rfl))) (rss_cons (rs_set (c := false) κ (i := 5) rfl (.inl rfl) (keep_set (by rfl)) (re_abs (aCons (xTake (rp_ix (rp_var (pv 0)) (re_var (pv 4)))) ra_nil) T.n_abs)) (rss_one (rs_if (c := false) (bGe (re_var (pv 5)) re_int) (rss_one (rs_for κ (ri_rng1 (c := false) T.n_range (aCons re_int ra_nil)) (rg_name κ (i := 6) rfl (.inl rfl) (keep_set (by rfl))) (rss_one (rs_if (c := false) (rb_w (wAnd (bGt (re_var (pv 5)) re_int) (rw_and1 (bLt (xLenP (rp_var (pv 3)) T.n_len) (re_var (pv 2)))))) (rss_cons (rs_expr (c := false) (re_append (c := true) (rp_var (pv 3)) (aCons (xMod (xInt (aCons (re_var (pv 5)) ra_nil) T.n_int) re_int) ra_nil))) (rss_one (rs_set (c := false) κ (i := 5) rfl (.inl rfl) (keep_set (by rfl)) (xDiv (re_var (pv 5)) re_int)))) rss_nil)))) (rss_one (rs_if (c := false) (bLt (xLenP (rp_var (pv 3)) T.n_len) (re_var (pv 2))) (rss_cons (rs_set (c := false) κ (i := 7) rfl (.inl rfl) (keep_set (by rfl)) (xMod (xInt (aCons (xAdd (xAdd (xMul (re_var (pv 5)) re_int) (xMul (re_var (pv 4)) re_int)) re_int) ra_nil) T.n_int) re_int)) (rss_cons (rs_set (c := false) κ (i := 7) rfl (.inl rfl) (keep_set (by rfl)) (xMod (xInt (aCons (xAdd (xMul (re_var (pv 7)) re_int) (xDiv (re_var (pv 7)) re_int)) ra_nil) T.n_int) re_int)) (rss_one (rs_expr (c := false) (re_append (c := true) (rp_var (pv 3)) (aCons (xMod (xInt (aCons (re_var (pv 7)) ra_nil) T.n_int) re_int) ra_nil)))))) rss_nil)))))) (rss_one (rs_ret (c := false) (re_mov (pv 3))))))
def b__law_is_integer : M Fl := (mRet (mAndV (mPeek (pVar 0) (dIsi "int")) (mNotV (mPeek (pVar 0) (dIsi "bool")))))
def r__law_is_integer : List D → O3 := fnR [true] 0 b__law_is_integer
theorem ok__law_is_integer {P : Program} {w : World} {K : PySem.W.Frag} {mg : Str → Option Value} {base : Heap} (T : TT w K mg) : FnOk P w K mg base (L2.CX P w) 1 T.f__law_is_integer T.fd__law_is_integer ["_law_actual"] (spR ⟨K, clK K⟩ r__law_is_integer 1) :=
  fnZ T.F__law_is_integer sc__law_is_integer [true] 0 rfl rfl fun cdv A outer s H vs E hv κ => (rss_one (rs_ret (c := false) (xAndV (xIsi (rp_var (pv 0)) T.n_isinstance (ty_name (u := .type "int") T.n_int (by decide +kernel))) (re_one (re_not (xIsi (rp_var (pv 0)) T.n_isinstance (ty_name (u := .type "bool") T.n_bool (by decide +kernel))))))))
def L1__law_graph : M Fl := (mSeq (mAsg (dName 4) (mBin dMod (mFun fInt (mCons (mVar 3) mNil)) (mBin dAdd (mVar 1) (mK (.int 1))))) (mSeq (mAsg (dName 5) (mBin dMod (mBin dDiv (mVar 3) (mK (.int 16))) (mBin dAdd (mVar 1) (mK (.int 1))))) (mSeq (mAsg (dName 6) (mTup (mCons (mFun (fInt2 iMin) (mCons (mVar 4) (mCons (mVar 5) mNil))) (mCons (mFun (fInt2 iMax) (mCons (mVar 4) (mCons (mVar 5) mNil))) (mCons (mBin dMod (mBin dDiv (mVar 3) (mK (.int 256))) (mK (.int 2))) mNil))))) (mIf (mAnd (mTst (mBin dNe (mVar 4) (mVar 5))) (mTst (mBinP dNotInA (mVar 6) (pVar 2)))) (mDo (mMethL true lAppend (pVar 2) (mCons (mVar 6) mNil))) mSkip))))
def b__law_graph : M Fl := (mSeq (mAsg (dName 2) (mLst mNil)) (mSeq (mFor (mLend 0) (dName 3) L1__law_graph) (mRet (mTup (mCons (mVar 1) (mCons (mFun fTuple (mCons (mFun fSortA (mCons (mVar 2) mNil)) mNil)) mNil))))))
def r__law_graph : List D → O3 := fnR [true, true] 5 b__law_graph
theorem ok__law_graph {P : Program} {w : World} {K : PySem.W.Frag} {mg : Str → Option Value} {base : Heap} (T : TT w K mg) : FnOk P w K mg base (L2.CX P w) 1 T.f__law_graph T.fd__law_graph ["_law_numbers_here", "_law_nodes"] (spR ⟨K, clK K⟩ r__law_graph 2) :=
  fnZ T.F__law_graph sc__law_graph [true, true] 5 rfl rfl fun cdv A outer s H vs E hv κ => (rss_cons (rs_set (c := false) κ (i := 2) rfl (.inl rfl) (keep_set (by rfl)) (re_lst ra_nil)) (rss_cons (rs_hold 0 fun v0 => rs_for κ (ri_lend hold_same (pv 0)) (rg_name κ (i := 3) rfl (.inl rfl) (keep_and (keep_set (by rfl)) (by decide))) (rss_cons (rs_set (c := false) κ (i := 4) rfl (.inl rfl) (keep_and (keep_set (by rfl)) (by decide)) (xMod (xInt (aCons (re_var (pv 3)) ra_nil) T.n_int) (xAdd (re_var (pv 1)) re_int))) (rss_cons (rs_set (c := false) κ (i := 5) rfl (.inl rfl) (keep_and (keep_set (by rfl)) (by decide)) (xMod (xDiv (re_var (pv 3)) re_int) (xAdd (re_var (pv 1)) re_int))) (rss_cons (rs_set (c := false) κ (i := 6) rfl (.inl rfl) (keep_and (keep_set (by rfl)) (by decide)) (re_tup (aCons (re_min2 κ (aCons (re_var (pv 4)) (aCons (re_var (pv 5)) ra_nil)) T.n_min) (aCons (re_max2 κ (aCons (re_var (pv 4)) (aCons (re_var (pv 5)) ra_nil)) T.n_max) (aCons (xMod (xDiv (re_var (pv 3)) re_int) re_int) ra_nil))))) (rss_one (rs_if (c := false) (rb_w (wAnd (bNe κ (re_var (pv 4)) (re_var (pv 5))) (rw_and1 (bNotInP κ (re_var (pv 6)) (rp_var (pv 2)))))) (rss_one (rs_expr (c := false) (re_append (c := true) (rp_var (pv 2)) (aCons (re_var (pv 6)) ra_nil)))) rss_nil)))))) (rss_one (rs_ret (c := false) (re_tup (aCons (re_var (pv 1)) (aCons (xTuple (aCons (re_sortA (aCons (re_var (pv 2)) ra_nil) T.n_sorted) ra_nil) T.n_tuple) ra_nil)))))))
def L1__law_least_flip : M Fl := (mIf (mTst (mBin dEq (mBin dAnd (mBin dShr (mVar 2) (mVar 6)) (mK (.int 1))) (mK (.int 1)))) (mSeq (mAsg (dName 3) (mBin dAdd (mVar 3) (mK (.int 1)))) (mSeq (mAsg (dName 4) (mBin dXor (mVar 4) (mTake (pIx (pIx (pIx (pVar 0) (mK (.int 1))) (mVar 6)) (mK (.int 2)))))) (mAsg (dName 5) (mBin dXor (mBin dXor (mVar 5) (mBin dShl (mK (.int 1)) (mTake (pIx (pIx (pIx (pVar 0) (mK (.int 1))) (mVar 6)) (mK (.int 0)))))) (mBin dShl (mK (.int 1)) (mTake (pIx (pIx (pIx (pVar 0) (mK (.int 1))) (mVar 6)) (mK (.int 1))))))))) mSkip)
def L2__law_least_flip : M Fl := (mSeq (mAsg (dName 3) (mK (.int 0))) (mSeq (mAsg (dName 4) (mK (.int 0))) (mSeq (mAsg (dName 5) (mK (.int 0))) (mSeq (mFor (mRng1 (mCons (mPeek (pIx (pVar 0) (mK (.int 1))) dLen) mNil)) (dName 6) L1__law_least_flip) (mIf (mAnd (mTst (mBin dEq (mVar 4) (mK (.int 1)))) (mAnd (mTst (mBin dEq (mBin dAnd (mVar 5) (mBin dSub (mBin dShl (mK (.int 1)) (mTake (pIx (pVar 0) (mK (.int 0))))) (mK (.int 1)))) (mK (.int 0)))) (mOr (mTst (mBin dLt (mVar 1) (mK (.int 0)))) (mTst (mBin dLt (mVar 3) (mVar 1)))))) (mAsg (dName 1) (mVar 3)) mSkip)))))
def b__law_least_flip : M Fl := (mSeq (mAsg (dName 1) (mUn dNeg (mK (.int 1)))) (mSeq (mFor (mRng1 (mCons (mBin dShl (mK (.int 1)) (mPeek (pIx (pVar 0) (mK (.int 1))) dLen)) mNil)) (dName 2) L2__law_least_flip) (mRet (mMov 1))))
def r__law_least_flip : List D → O3 := fnR [true] 6 b__law_least_flip
theorem ok__law_least_flip {P : Program} {w : World} {K : PySem.W.Frag} {mg : Str → Option Value} {base : Heap} (T : TT w K mg) : FnOk P w K mg base (L2.CX P w) 1 T.f__law_least_flip T.fd__law_least_flip ["_law_graph_here"] (spR ⟨K, clK K⟩ r__law_least_flip 1) :=
  fnZ T.F__law_least_flip sc__law_least_flip [true] 6 rfl rfl fun cdv A outer s H vs E hv κ => (rss_cons (rs_set (c := false) κ (i := 1) rfl (.inl rfl) (keep_set (by rfl)) (xNeg re_int)) (rss_cons (rs_for κ (ri_rng1 (c := false) T.n_range (aCons (xShl re_int (xLenP (rp_ix (rp_var (pv 0)) re_int) T.n_len)) ra_nil)) (rg_name κ (i := 2) rfl (.inl rfl) (keep_set (by rfl))) (rss_cons (rs_set (c := false) κ (i := 3) rfl (.inl rfl) (keep_set (by rfl)) re_int) (rss_cons (rs_set (c := false) κ (i := 4) rfl (.inl rfl) (keep_set (by rfl)) re_int) (rss_cons (rs_set (c := false) κ (i := 5) rfl (.inl rfl) (keep_set (by rfl)) re_int) (rss_cons (rs_for κ (ri_rng1 (c := false) T.n_range (aCons (xLenP (rp_ix (rp_var (pv 0)) re_int) T.n_len) ra_nil)) (rg_name κ (i := 6) rfl (.inl rfl) (keep_set (by rfl))) (rss_one (rs_if (c := false) (bEq κ (xAnd (xShr (re_var (pv 2)) (re_var (pv 6))) re_int) re_int) (rss_cons (rs_set (c := false) κ (i := 3) rfl (.inl rfl) (keep_set (by rfl)) (xAdd (re_var (pv 3)) re_int)) (rss_cons (rs_set (c := false) κ (i := 4) rfl (.inl rfl) (keep_set (by rfl)) (xXor (re_var (pv 4)) (xTake (rp_ix (rp_ix (rp_ix (rp_var (pv 0)) re_int) (re_var (pv 6))) re_int)))) (rss_one (rs_set (c := false) κ (i := 5) rfl (.inl rfl) (keep_set (by rfl)) (xXor (xXor (re_var (pv 5)) (xShl re_int (xTake (rp_ix (rp_ix (rp_ix (rp_var (pv 0)) re_int) (re_var (pv 6))) re_int)))) (xShl re_int (xTake (rp_ix (rp_ix (rp_ix (rp_var (pv 0)) re_int) (re_var (pv 6))) re_int)))))))) rss_nil))) (rss_one (rs_if (c := false) (rb_w (wAnd (bEq κ (re_var (pv 4)) re_int) (wAnd (bEq κ (xAnd (re_var (pv 5)) (xSub (xShl re_int (xTake (rp_ix (rp_var (pv 0)) re_int))) re_int)) re_int) (rw_and1 (rb_w (wOr (bLt (re_var (pv 1)) re_int) (rw_or1 (bLt (re_var (pv 3)) (re_var (pv 1)))))))))) (rss_one (rs_set (c := false) κ (i := 1) rfl (.inl rfl) (keep_set (by rfl)) (re_var (pv 3)))) rss_nil))))))) (rss_one (rs_ret (c := false) (re_mov (pv 1))))))
def b_law : M Fl := (mSeq (mAsg (dName 1) (mFun (fInt1 iAbs) (mCons (mCall r__law_cell (aLend 0 (aTmp (mK (.int 0)) aNil))) mNil))) (mSeq (mAsg (dName 2) (mCall r__law_graph (aTmp (mCall r__law_numbers (aLend 0 (aTmp (mK (.int 1)) (aTmp (mK (.int 9)) aNil)))) (aTmp (mBin dAdd (mK (.int 1)) (mBin dMod (mFun fInt (mCons (mVar 1) mNil)) (mK (.int 8)))) aNil)))) (mSeq (mAsg (dName 3) (mCall r__law_least_flip (aLend 2 aNil))) (mSeq (mTryAs 5 (mAsg (dName 4) (mCall r_fault_distance (aLend 2 aNil))) (hdC 1 (some (mRet (mAndV (mK (.bl true)) (mBin dLt (mVar 3) (mK (.int 0)))))) hdN)) (mRet (mAndV (mCall r__law_is_integer (aLend 4 aNil)) (mBin dEq (mVar 4) (mVar 3))))))))
def r_law : List D → O3 := fnR [true] 5 b_law
def t_law_1 : M Fl := (mAsg (dName 1) (mFun (fInt1 iAbs) (mCons (mCall r__law_cell (aLend 0 (aTmp (mK (.int 0)) aNil))) mNil)))
def t_law_2 : M Fl := (mAsg (dName 2) (mCall r__law_graph (aTmp (mCall r__law_numbers (aLend 0 (aTmp (mK (.int 1)) (aTmp (mK (.int 9)) aNil)))) (aTmp (mBin dAdd (mK (.int 1)) (mBin dMod (mFun fInt (mCons (mVar 1) mNil)) (mK (.int 8)))) aNil))))
def t_law_3 : M Fl := (mAsg (dName 3) (mCall r__law_least_flip (aLend 2 aNil)))
def t_law_4 : M Fl := (mTryAs 5 (mAsg (dName 4) (mCall r_fault_distance (aLend 2 aNil))) (hdC 1 (some (mRet (mAndV (mK (.bl true)) (mBin dLt (mVar 3) (mK (.int 0)))))) hdN))
def t_law_5 : M Fl := (mRet (mAndV (mCall r__law_is_integer (aLend 4 aNil)) (mBin dEq (mVar 4) (mVar 3))))
theorem b_law_e : b_law = (mSeq t_law_1 (mSeq t_law_2 (mSeq t_law_3 (mSeq t_law_4 t_law_5)))) := rfl
theorem ok_law {P : Program} {w : World} {K : PySem.W.Frag} {mg : Str → Option Value} {base : Heap} (T : TT w K mg) : FnOk P w K mg base (L2.CX P w) 4 T.f_law T.fd_law ["_law_script"] (spR ⟨K, clK K⟩ r_law 1) :=
  fnZ T.F_law sc_law [true] 5 rfl rfl fun cdv A outer s H vs E hv κ => (rss_cons (rs_set (c := false) κ (i := 1) rfl (.inl rfl) (keep_set (by rfl)) (re_abs (aCons (re_call κ (ok__law_cell T) (by decide) T.g__law_cell T.F__law_cell.kp T.b__law_cell (fnR_len rfl) (rc_lend (pv 0) (rc_tmp (c := false) re_int rc_nil))) ra_nil) T.n_abs)) (rss_cons (rs_set (c := false) κ (i := 2) rfl (.inl rfl) (keep_set (by rfl)) (re_call κ (ok__law_graph T) (by decide) T.g__law_graph T.F__law_graph.kp T.b__law_graph (fnR_len rfl) (rc_tmp (c := false) (re_call κ (ok__law_numbers T) (by decide) T.g__law_numbers T.F__law_numbers.kp T.b__law_numbers (fnR_len rfl) (rc_lend (pv 0) (rc_tmp (c := false) re_int (rc_tmp (c := false) re_int rc_nil)))) (rc_tmp (c := false) (xAdd re_int (xMod (xInt (aCons (re_var (pv 1)) ra_nil) T.n_int) re_int)) rc_nil)))) (rss_cons (rs_set (c := false) κ (i := 3) rfl (.inl rfl) (keep_set (by rfl)) (re_call κ (ok__law_least_flip T) (by decide) T.g__law_least_flip T.F__law_least_flip.kp T.b__law_least_flip (fnR_len rfl) (rc_lend (pv 2) rc_nil))) (rss_cons (rs_tryAs (i := 5) κ rfl rfl rfl rfl ⟨by rfl, by decide, .inl T.g_BastionError⟩ (keep_set (by rfl)) (fun pn xe E2 κ => (rss_one (rs_set (c := false) κ (i := 4) rfl (.inl rfl) (keep_set (by rfl)) (re_call κ (ok_fault_distance T) (by decide) T.g_fault_distance T.F_fault_distance.kp T.b_fault_distance (fnR_len rfl) (rc_lend (pv 2) rc_nil))))) (hx_cons T.e_NoSolution_BastionError hx_nil) (hs_catch (fun a oe pn hz hv => (rss_one (rs_ret (c := false) (xAndV (re_isE T.c_NoSolution hz hv (pv 5) T.g_NoSolution T.kit_NoSolution_NoSolution T.n_isinstance) (re_one (xLt (re_var (pv 3)) re_int)))))) hs_nil)) (rss_one (rs_ret (c := false) (xAndV (re_call κ (ok__law_is_integer T) (by decide) T.g__law_is_integer T.F__law_is_integer.kp T.b__law_is_integer (fnR_len rfl) (rc_lend (pv 4) rc_nil)) (re_one (xEq κ (re_var (pv 4)) (re_var (pv 3)))))))))))
theorem all_mk {P : Program} {w : World} {K : PySem.W.Frag} {h : Heap} {mg : Str → Option Value} {fa : Addr} (X : K.In h) (G : h.Ns mainGlobals mg) (hfa : mg "law" = some (.ref fa))
    {f0 : Addr} {od0 an0 : Option Addr} {sl0 : Array (Option Value)} {oc0 kV0 dc0 pm0 cd0 ct0 : Value}
    {f1 : Addr} {od1 an1 : Option Addr} {sl1 : Array (Option Value)} {oc1 kV1 dc1 pm1 cd1 ct1 : Value}
    {f2 : Addr} {od2 an2 : Option Addr} {sl2 : Array (Option Value)} {oc2 kV2 dc2 pm2 cd2 ct2 : Value}
    {f3 : Addr} {od3 an3 : Option Addr} {sl3 : Array (Option Value)} {oc3 kV3 dc3 pm3 cd3 ct3 : Value}
    {f4 : Addr} {od4 an4 : Option Addr} {sl4 : Array (Option Value)} {oc4 kV4 dc4 pm4 cd4 ct4 : Value}
    {f5 : Addr} {od5 an5 : Option Addr} {sl5 : Array (Option Value)} {oc5 kV5 dc5 pm5 cd5 ct5 : Value}
    {f6 : Addr} {od6 an6 : Option Addr} {sl6 : Array (Option Value)} {oc6 kV6 dc6 pm6 cd6 ct6 : Value}
    {f7 : Addr} {od7 an7 : Option Addr} {sl7 : Array (Option Value)} {oc7 kV7 dc7 pm7 cd7 ct7 : Value}
    {f8 : Addr} {od8 an8 : Option Addr} {sl8 : Array (Option Value)} {oc8 kV8 dc8 pm8 cd8 ct8 : Value}
    {f9 : Addr} {od9 an9 : Option Addr} {sl9 : Array (Option Value)} {oc9 kV9 dc9 pm9 cd9 ct9 : Value}
    {p0 : Addr}
    {p1 : Addr}
    (a0 : PySem.W.nsIn K mainGlobals "links_of" = some (some (.ref f0))) (l0 : K.lookup f0 = some ⟨oc0, od0, .func (PySem.W.fnOf "links_of" "links_of" (defArgs s_links_of) (defBody s_links_of) (defScope s_links_of) .none kV0 dc0 pm0 an0 cd0 ct0), sl0⟩) (c0 : PySem.W.codeIn K cd0 "links_of" = true) (k0 : PySem.W.keepIn K (.ref f0) = true)
    (a1 : PySem.W.nsIn K mainGlobals "odd_walk" = some (some (.ref f1))) (l1 : K.lookup f1 = some ⟨oc1, od1, .func (PySem.W.fnOf "odd_walk" "odd_walk" (defArgs s_odd_walk) (defBody s_odd_walk) (defScope s_odd_walk) .none kV1 dc1 pm1 an1 cd1 ct1), sl1⟩) (c1 : PySem.W.codeIn K cd1 "odd_walk" = true) (k1 : PySem.W.keepIn K (.ref f1) = true)
    (a2 : PySem.W.nsIn K mainGlobals "least_flip" = some (some (.ref f2))) (l2 : K.lookup f2 = some ⟨oc2, od2, .func (PySem.W.fnOf "least_flip" "least_flip" (defArgs s_least_flip) (defBody s_least_flip) (defScope s_least_flip) .none kV2 dc2 pm2 an2 cd2 ct2), sl2⟩) (c2 : PySem.W.codeIn K cd2 "least_flip" = true) (k2 : PySem.W.keepIn K (.ref f2) = true)
    (a3 : PySem.W.nsIn K mainGlobals "fault_distance" = some (some (.ref f3))) (l3 : K.lookup f3 = some ⟨oc3, od3, .func (PySem.W.fnOf "fault_distance" "fault_distance" (defArgs s_fault_distance) (defBody s_fault_distance) (defScope s_fault_distance) .none kV3 dc3 pm3 an3 cd3 ct3), sl3⟩) (c3 : PySem.W.codeIn K cd3 "fault_distance" = true) (k3 : PySem.W.keepIn K (.ref f3) = true)
    (a4 : PySem.W.nsIn K mainGlobals "_law_cell" = some (some (.ref f4))) (l4 : K.lookup f4 = some ⟨oc4, od4, .func (PySem.W.fnOf "_law_cell" "_law_cell" (defArgs s__law_cell) (defBody s__law_cell) (defScope s__law_cell) .none kV4 dc4 pm4 an4 cd4 ct4), sl4⟩) (c4 : PySem.W.codeIn K cd4 "_law_cell" = true) (k4 : PySem.W.keepIn K (.ref f4) = true)
    (a5 : PySem.W.nsIn K mainGlobals "_law_numbers" = some (some (.ref f5))) (l5 : K.lookup f5 = some ⟨oc5, od5, .func (PySem.W.fnOf "_law_numbers" "_law_numbers" (defArgs s__law_numbers) (defBody s__law_numbers) (defScope s__law_numbers) .none kV5 dc5 pm5 an5 cd5 ct5), sl5⟩) (c5 : PySem.W.codeIn K cd5 "_law_numbers" = true) (k5 : PySem.W.keepIn K (.ref f5) = true)
    (a6 : PySem.W.nsIn K mainGlobals "_law_is_integer" = some (some (.ref f6))) (l6 : K.lookup f6 = some ⟨oc6, od6, .func (PySem.W.fnOf "_law_is_integer" "_law_is_integer" (defArgs s__law_is_integer) (defBody s__law_is_integer) (defScope s__law_is_integer) .none kV6 dc6 pm6 an6 cd6 ct6), sl6⟩) (c6 : PySem.W.codeIn K cd6 "_law_is_integer" = true) (k6 : PySem.W.keepIn K (.ref f6) = true)
    (a7 : PySem.W.nsIn K mainGlobals "_law_graph" = some (some (.ref f7))) (l7 : K.lookup f7 = some ⟨oc7, od7, .func (PySem.W.fnOf "_law_graph" "_law_graph" (defArgs s__law_graph) (defBody s__law_graph) (defScope s__law_graph) .none kV7 dc7 pm7 an7 cd7 ct7), sl7⟩) (c7 : PySem.W.codeIn K cd7 "_law_graph" = true) (k7 : PySem.W.keepIn K (.ref f7) = true)
    (a8 : PySem.W.nsIn K mainGlobals "_law_least_flip" = some (some (.ref f8))) (l8 : K.lookup f8 = some ⟨oc8, od8, .func (PySem.W.fnOf "_law_least_flip" "_law_least_flip" (defArgs s__law_least_flip) (defBody s__law_least_flip) (defScope s__law_least_flip) .none kV8 dc8 pm8 an8 cd8 ct8), sl8⟩) (c8 : PySem.W.codeIn K cd8 "_law_least_flip" = true) (k8 : PySem.W.keepIn K (.ref f8) = true)
    (a9 : PySem.W.nsIn K mainGlobals "law" = some (some (.ref f9))) (l9 : K.lookup f9 = some ⟨oc9, od9, .func (PySem.W.fnOf "law" "law" (defArgs s_law) (defBody s_law) (defScope s_law) .none kV9 dc9 pm9 an9 cd9 ct9), sl9⟩) (c9 : PySem.W.codeIn K cd9 "law" = true) (k9 : PySem.W.keepIn K (.ref f9) = true)
    (z_abs : PySem.W.nsIn K mainGlobals "abs" = some none)
    (z_bool : PySem.W.nsIn K mainGlobals "bool" = some none)
    (z_enumerate : PySem.W.nsIn K mainGlobals "enumerate" = some none)
    (z_int : PySem.W.nsIn K mainGlobals "int" = some none)
    (z_isinstance : PySem.W.nsIn K mainGlobals "isinstance" = some none)
    (z_len : PySem.W.nsIn K mainGlobals "len" = some none)
    (z_max : PySem.W.nsIn K mainGlobals "max" = some none)
    (z_min : PySem.W.nsIn K mainGlobals "min" = some none)
    (z_range : PySem.W.nsIn K mainGlobals "range" = some none)
    (z_set : PySem.W.nsIn K mainGlobals "set" = some none)
    (z_sorted : PySem.W.nsIn K mainGlobals "sorted" = some none)
    (z_tuple : PySem.W.nsIn K mainGlobals "tuple" = some none)
    (cw0 : PySem.W.nsIn K mainGlobals "BastionError" = some (some (.ref p0)))
    (cw1 : PySem.W.nsIn K mainGlobals "NoSolution" = some (some (.ref p1)))
    (cx1_q : PySem.W.excIn K p1 [.type "ValueError", .type "Exception", .type "BaseException", .type "object"] "ValueError.__new__" = true)
    (cx1_k : PySem.W.keepIn K (.ref p1) = true)
    (cx1_s : PySem.W.subIn K (.ref p1) (.type "BaseException") = some true)
    (cx1_t : PySem.W.typeIn K (.ref p1) = some (.type "type"))
    (ex_1_0a : PySem.W.subIn K (.ref p0) (.type "BaseException") = some true)
    (ex_1_0b : PySem.W.hasDictIn K p0 = true)
    (ex_1_0c : PySem.W.typeIn K (.ref p0) = some (.type "type"))
    (ex_1_0d : PySem.W.subIn K (.ref p1) (.ref p0) = some true)
    (ki_1_1a : PySem.W.isClsIn K p1 = true)
    (ki_1_1b : PySem.W.typeIn K (.ref p1) = some (.type "type"))
    (ki_1_1c : PySem.W.subIn K (.ref p1) (.ref p1) = some true)
    (cc1_hg : PySem.W.findIn K (.ref p1) "__getattribute__" = some (some (.builtin "BaseException.__getattribute__")))
    (cc1_hk : PySem.W.findIn K (.ref p1) "__getattr__" = some none)
    (cc1_hs : PySem.W.subIn K (.ref p1) (.type "BaseException") = some true)
    (cc1_hd : PySem.W.hasDictIn K p1 = true)
    (cc1_ha : PySem.W.findIn K (.ref p1) "__class__" = some (some (.builtin "object.__class__")))
    (cc1_hn : PySem.W.specialIn K (.builtin "object.__class__") "__get__" = some (some (.builtin "getset_descriptor.__get__")))
    (cc1_ht : PySem.W.takesIn K (.builtin "object.__class__") = some true)
    (cc1_hm : PySem.W.mroIn K p1 (.type "object") = some true)
    : ∃ fd : FuncData, (∀ (s : Shared) (v : Value), BindsTo s fd ⟨[v], []⟩ [("_law_script", v)]) ∧ ∀ base : Heap, K.In base → base.Ns mainGlobals mg → FnOk P w K mg base (L2.CX P w) 4 fa fd ["_law_script"] (spR ⟨K, clK K⟩ r_law 1) := by
  have e := hfa.symm.trans (PySem.W.mg_of X G a9)
  cases e
  have F0 := fun_mk (st := s_links_of) l0 c0 k0
  have b0 := F0.binds (ps := ["graph"]) fun _ _ _ _ _ _ us hl => match us, hl with | [_], _ => rfl
  have F1 := fun_mk (st := s_odd_walk) l1 c1 k1
  have b1 := F1.binds (ps := ["graph", "links", "start"]) fun _ _ _ _ _ _ us hl => match us, hl with | [_, _, _], _ => rfl
  have F2 := fun_mk (st := s_least_flip) l2 c2 k2
  have b2 := F2.binds (ps := ["graph"]) fun _ _ _ _ _ _ us hl => match us, hl with | [_], _ => rfl
  have F3 := fun_mk (st := s_fault_distance) l3 c3 k3
  have b3 := F3.binds (ps := ["graph"]) fun _ _ _ _ _ _ us hl => match us, hl with | [_], _ => rfl
  have F4 := fun_mk (st := s__law_cell) l4 c4 k4
  have b4 := F4.binds (ps := ["_law_script", "_law_k"]) fun _ _ _ _ _ _ us hl => match us, hl with | [_, _], _ => rfl
  have F5 := fun_mk (st := s__law_numbers) l5 c5 k5
  have b5 := F5.binds (ps := ["_law_script", "_law_first", "_law_most"]) fun _ _ _ _ _ _ us hl => match us, hl with | [_, _, _], _ => rfl
  have F6 := fun_mk (st := s__law_is_integer) l6 c6 k6
  have b6 := F6.binds (ps := ["_law_actual"]) fun _ _ _ _ _ _ us hl => match us, hl with | [_], _ => rfl
  have F7 := fun_mk (st := s__law_graph) l7 c7 k7
  have b7 := F7.binds (ps := ["_law_numbers_here", "_law_nodes"]) fun _ _ _ _ _ _ us hl => match us, hl with | [_, _], _ => rfl
  have F8 := fun_mk (st := s__law_least_flip) l8 c8 k8
  have b8 := F8.binds (ps := ["_law_graph_here"]) fun _ _ _ _ _ _ us hl => match us, hl with | [_], _ => rfl
  have F9 := fun_mk (st := s_law) l9 c9 k9
  have b9 := F9.binds (ps := ["_law_script"]) fun _ _ _ _ _ _ us hl => match us, hl with | [_], _ => rfl
  have ce_BastionError : clK K 0 = p0 := addrOf_is cw0
  have ce_NoSolution : clK K 1 = p1 := addrOf_is cw1
  have ex_1_0 := PySem.W.exm_ref ex_1_0a ex_1_0b ex_1_0c ex_1_0d
  have ki_1_1 := kit_t ki_1_1a ki_1_1b ki_1_1c
  let T : TT w K mg := { f_links_of := f0, fd_links_of := _, F_links_of := F0, g_links_of := PySem.W.mg_of X G a0, b_links_of := b0, f_odd_walk := f1, fd_odd_walk := _, F_odd_walk := F1, g_odd_walk := PySem.W.mg_of X G a1, b_odd_walk := b1, f_least_flip := f2, fd_least_flip := _, F_least_flip := F2, g_least_flip := PySem.W.mg_of X G a2, b_least_flip := b2, f_fault_distance := f3, fd_fault_distance := _, F_fault_distance := F3, g_fault_distance := PySem.W.mg_of X G a3, b_fault_distance := b3, f__law_cell := f4, fd__law_cell := _, F__law_cell := F4, g__law_cell := PySem.W.mg_of X G a4, b__law_cell := b4, f__law_numbers := f5, fd__law_numbers := _, F__law_numbers := F5, g__law_numbers := PySem.W.mg_of X G a5, b__law_numbers := b5, f__law_is_integer := f6, fd__law_is_integer := _, F__law_is_integer := F6, g__law_is_integer := PySem.W.mg_of X G a6, b__law_is_integer := b6, f__law_graph := f7, fd__law_graph := _, F__law_graph := F7, g__law_graph := PySem.W.mg_of X G a7, b__law_graph := b7, f__law_least_flip := f8, fd__law_least_flip := _, F__law_least_flip := F8, g__law_least_flip := PySem.W.mg_of X G a8, b__law_least_flip := b8, f_law := _, fd_law := _, F_law := F9, g_law := PySem.W.mg_of X G a9, b_law := b9, n_abs := PySem.W.mg_none_of X G z_abs, n_bool := PySem.W.mg_none_of X G z_bool, n_enumerate := PySem.W.mg_none_of X G z_enumerate, n_int := PySem.W.mg_none_of X G z_int, n_isinstance := PySem.W.mg_none_of X G z_isinstance, n_len := PySem.W.mg_none_of X G z_len, n_max := PySem.W.mg_none_of X G z_max, n_min := PySem.W.mg_none_of X G z_min, n_range := PySem.W.mg_none_of X G z_range, n_set := PySem.W.mg_none_of X G z_set, n_sorted := PySem.W.mg_none_of X G z_sorted, n_tuple := PySem.W.mg_none_of X G z_tuple, g_BastionError := by rw [ce_BastionError]; exact PySem.W.mg_of X G cw0, g_NoSolution := by rw [ce_NoSolution]; exact PySem.W.mg_of X G cw1, x_NoSolution := by rw [ce_NoSolution]; exact ⟨cx1_q, cx1_k, cx1_s, cx1_t⟩, e_NoSolution_BastionError := by rw [ce_NoSolution, ce_BastionError]; exact ex_1_0, kit_NoSolution_NoSolution := by rw [ce_NoSolution]; exact ki_1_1, c_NoSolution := by rw [ce_NoSolution]; exact ⟨cc1_hg, cc1_hk, cc1_hs, cc1_hd, cc1_ha, cc1_hn, cc1_ht, cc1_hm⟩ }
  exact ⟨_, fun s v => .of_eq rfl, fun base _ _ => ok_law T⟩
end Pk47

end
section
set_option maxRecDepth 100000
namespace Pk47
open Z
set_option maxHeartbeats 4000000
local macro_rules | `(tactic| walk_at "zs") => `(tactic| (simp only [shrV_int, shrV_bl, shrV_str, shrV_non, shrV_tup, shrV_lstT, shrV_lstF, shrV_out, shrL_nil, shrL_cons, shrL_ints, shrL_nats, nats_len, isHole_non, isHole_bl, isHole_int, isHole_str, isHole_tup, isHole_lst, isHole_out, isHole_dic, isHole_dit, isHole_ins, isHole_hole, PL_hole, PL_flat, isFlat_non, isFlat_bl, isFlat_int, isFlat_str, isFlat_tup, isFlat_lst, isFlat_out, isFlat_dic, isFlat_dit, isFlat_ins, List.length_cons, List.length_nil, List.length_map, List.length_set, Bool.and_self, Bool.and_true, Bool.true_and, List.replicate, List.isEmpty_nil, Bool.true_or, Bool.or_true, List.isEmpty_cons, List.getElem?_cons_zero, List.getElem?_cons_succ]; done))
local macro_rules | `(tactic| walk_at "zl") => `(tactic| (simp only [nats_len, List.length_append, List.length_cons, List.length_nil, List.length_map, List.length_set, List.length_range]; omega))
local macro_rules | `(tactic| walk_at "zd") => `(tactic| first | assumption | (walk_at "zs") | omega | (walk_at "zl") | decide)
local macro_rules | `(tactic| walk_at "zu") => `(tactic| simp only [List.range, List.range.loop, List.map_cons, List.map_nil, mLoop_cons])
local macro_rules | `(tactic| walk_at "zz") => `(tactic| simp (disch := walk_at "zd") only [pFld_e, pf2K_some, mSetF_e, sf0K_ok, aSelf_e, slK_some, mGuard_e, noEx_e, neK_ok, mMake_e, mk2_some, mk3_ok, mk4_some, mk3_ex, mk5_some, pKey_e, pyK_some, py2K_some, keyD_int, keyD_str, mSetK_e, sk0_ok, sk1_ok, mGetP_e, gp0_some, gp1_two, gp2_some, gp3_none, gp3_some, taK2_some, mAtP_e, ap0_some, ap1_some, shrV_insT, shrV_insF, frz_ins, shrV_dicT, shrV_dicF, frz_dic, mSlice_e, mNoPart_e, mPart_e, ptK_int, sLst_lst, sLst_out, fList_lst, fList_out, fList_tup, itemsOf_lst, itemsOf_out, itemsOf_tup, frzL_frzL, mLc_e, lcK_ok, lcK_ok1, mDGet2_e, dgK_d, dgA_2, dgR_some, mDicT_e, diK_some, lbK_ok, wipeR_nil, wipeR_cons, restR_nil, restR_cons, rsK_some, mYes_e, mAug_e, agK_some, oisN_non, onotN_non, oisN_bl, onotN_bl, oisN_int, onotN_int, oisN_str, onotN_str, oisN_tup, onotN_tup, oisN_lst, onotN_lst, oisN_out, onotN_out, eq_str, isi_non_tuple, isi_bl_tuple, isi_int_tuple, isi_str_tuple, isi_tup_tuple, isi_lst_tuple, isi_out_tuple, isi_non_list, isi_bl_list, isi_int_list, isi_str_list, isi_tup_list, isi_lst_list, isi_out_list, isi_non_bool, isi_bl_bool, isi_int_bool, isi_str_bool, isi_tup_bool, isi_lst_bool, isi_out_bool, isi_non_int, isi_bl_int, isi_int_int, isi_str_int, isi_tup_int, isi_lst_int, isi_out_int, isi_non_str, isi_bl_str, isi_int_str, isi_str_str, isi_tup_str, isi_lst_str, isi_out_str, bind_ok, bind_ex, bind_no, ofOpt_some, mK_e, mUn_e, mBin_e, mNil_e, mCons_e, mFun_e, mVar_e, vK_shr, vK_lst, mMov_e, wK_shr, wK_own, mTst_e, tK_bl, iK_t, iK_f, mAnd_e, mOr_e, mNot_e, mIte_e, mIf_e, mAndV_e, aK_t, aK_f, mOrV_e, orK_t, orK_f, mNotV_e, notD_bl, mSeq_e, sK_nx, sK_rt, sK_ex, sK_bk, sK_ct, mSkip_e, mBrk_e, mCnt_e, mAsg_e, goG_ok, mRet_e, mRetN_e, mDo_e, dName_e, nK_some, dTup_e, dNil_e, dCons_e, lpK_nx, mLoop_cons, lpK_ct, lpK_bk, lpK_rt, lpK_ex, mLoop_nil, mFor_e, finB_nx, finB_rt, finB_ex, finB_nx1, finB_rt1, mItems_e, mRng1_e, r1K_int, mRng2_e, r2K_int, mLend_e, ldK_lst, ldK_str, ldK_out, ldK_tup, mTup_e, mLst_e, aNil_e, aTmp_e, aLend_e, lnK_some, ecK_ok, ecK_ex, pcK_some, xcK_some, mCall_e, gcK_some, gath_nil, gath_l, gath_r, gbK_flat, gbK_obj, gaK_some, putAll_nil, putAll_n, putAll_s, fnR_e, fnEnd_nx, fnEnd_rt, fnEnd_ex, ent_t, ent_f, ent_n, outs_t, outs_f, outs_n, mul_int, mod_int, div_int, shr_int, add_int, iadd_int, sub_int, lt_int, le_int, gt_int, ge_int, and_int, or_int, xor_int, neg_int, bits_int, fInt_int, fInt_bl, eq_int, ne_int, eq_bl, ne_bl, shrV_int, shrV_bl, shrV_str, shrV_non, shrV_tup, shrV_lstT, shrV_lstF, shrV_out, shrL_nil, shrL_cons, shrL_ints, shrL_nats, nats_len, isHole_non, isHole_bl, isHole_int, isHole_str, isHole_tup, isHole_lst, isHole_out, isHole_dic, isHole_dit, isHole_ins, isHole_hole, PL_hole, PL_flat, isFlat_non, isFlat_bl, isFlat_int, isFlat_str, isFlat_tup, isFlat_lst, isFlat_out, isFlat_dic, isFlat_dit, isFlat_ins, frz_int, frz_bl, frz_str, frz_lst, frz_tup, frzL_nil, frzL_cons, frzL_ints, frzL_nats, pVar_e, pvK_some, pIx_e, piK_int, pjK_some, mTake_e, tkK_shr, tkK_own, mPeek_e, pkK_some, getR_e, getP_nil, getP_cons, some_bind, setR_e, stK_some, setP_nil, setP_cons, suK_some, getS_lst, getS_tup, getS_out, setS_lst, dIx_tup, dIx_lst, dSetI_e, siK_int, sjK_lst, unG_ok, mMethL_e, mlK_lst, mmK_app, lAppend_e, dLen_lst, dLen_tup, dLen_out, ite_t, ite_f, List.getElem?_cons_zero, List.getElem?_cons_succ, List.set_cons_zero, List.set_cons_succ, List.length_cons, List.length_nil, List.length_map, List.length_set, Bool.and_true, Bool.true_and, Bool.not_true, beq_self_eq_true, beq_tf, beq_ft, Bool.not_false, decide_true, decide_false, List.replicate, List.cons_append, List.nil_append, List.append_eq, if_len, Int.toNat_natCast, Int.toNat_zero, Int.toNat_one, Option.map_some, List.getElem?_map, List.isEmpty_nil, Bool.true_or, Bool.or_true, List.isEmpty_cons, Bool.and_self, Int.reduceToNat, Int.reduceBEq, sorted_nats, fInt2_e, one1_e, mChain_e, chK_t, chK_f, mDrop_e, mEnumL_e, elK_lst, mEnum_e, enK_lst, mZip_e, zpK_lst, zpK_tup, sAny_lst, sAny_out, sAny_tup, sAny_str, fTuple_lst, fTuple_tup, mMeth0_e, m0K_pop, mTab_e, tbK_some, dCon_int, mDicK_e, dkK_some, mBinP_e, bpK_some, mEnumV_e, evK_lst, evK_tup, mRaise_e, mTry_e, tyK_ok, tyK_ex, tzK_c, tzK_p, hdC_eq, hdC_ne, rtK_rt, mTryAs_e, taK_ok, taK_ex, taZ_c, taZ_p])
local macro_rules | `(tactic| walk_at "zh") => `(tactic| simp (disch := walk_at "zd") only [pFld_e, pf2K_some, mSetF_e, sf0K_ok, aSelf_e, slK_some, mGuard_e, noEx_e, neK_ok, mMake_e, mk2_some, mk3_ok, mk4_some, mk3_ex, mk5_some, pKey_e, pyK_some, py2K_some, keyD_int, keyD_str, mSetK_e, sk0_ok, sk1_ok, mGetP_e, gp0_some, gp1_two, gp2_some, gp3_none, gp3_some, taK2_some, mAtP_e, ap0_some, ap1_some, shrV_insT, shrV_insF, frz_ins, shrV_dicT, shrV_dicF, frz_dic, mSlice_e, mNoPart_e, mPart_e, ptK_int, sLst_lst, sLst_out, fList_lst, fList_out, fList_tup, itemsOf_lst, itemsOf_out, itemsOf_tup, frzL_frzL, mLc_e, lcK_ok, lcK_ok1, mDGet2_e, dgK_d, dgA_2, dgR_some, mDicT_e, diK_some, lbK_ok, wipeR_nil, wipeR_cons, restR_nil, restR_cons, rsK_some, mYes_e, mAug_e, agK_some, oisN_non, onotN_non, oisN_bl, onotN_bl, oisN_int, onotN_int, oisN_str, onotN_str, oisN_tup, onotN_tup, oisN_lst, onotN_lst, oisN_out, onotN_out, eq_str, isi_non_tuple, isi_bl_tuple, isi_int_tuple, isi_str_tuple, isi_tup_tuple, isi_lst_tuple, isi_out_tuple, isi_non_list, isi_bl_list, isi_int_list, isi_str_list, isi_tup_list, isi_lst_list, isi_out_list, isi_non_bool, isi_bl_bool, isi_int_bool, isi_str_bool, isi_tup_bool, isi_lst_bool, isi_out_bool, isi_non_int, isi_bl_int, isi_int_int, isi_str_int, isi_tup_int, isi_lst_int, isi_out_int, isi_non_str, isi_bl_str, isi_int_str, isi_str_str, isi_tup_str, isi_lst_str, isi_out_str, bind_ok, bind_ex, bind_no, ofOpt_some, mK_e, mUn_e, mBin_e, mNil_e, mCons_e, mFun_e, mVar_e, vK_shr, vK_lst, mMov_e, wK_shr, wK_own, mTst_e, tK_bl, iK_t, iK_f, mAnd_e, mOr_e, mNot_e, mIte_e, mIf_e, mAndV_e, aK_t, aK_f, mOrV_e, orK_t, orK_f, mNotV_e, notD_bl, mSeq_e, sK_nx, sK_rt, sK_ex, sK_bk, sK_ct, mSkip_e, mBrk_e, mCnt_e, mAsg_e, goG_ok, mRet_e, mRetN_e, mDo_e, dName_e, nK_some, dTup_e, dNil_e, dCons_e, lpK_nx, mLoop_cons, lpK_ct, lpK_bk, lpK_rt, lpK_ex, mLoop_nil, mFor_e, finB_nx, finB_rt, finB_ex, finB_nx1, finB_rt1, mItems_e, mRng1_e, r1K_int, mRng2_e, r2K_int, mLend_e, ldK_lst, ldK_str, ldK_out, ldK_tup, mTup_e, mLst_e, aNil_e, aTmp_e, aLend_e, lnK_some, ecK_ok, ecK_ex, pcK_some, xcK_some, mCall_e, gcK_some, gath_nil, gath_l, gath_r, gbK_flat, gbK_obj, gaK_some, putAll_nil, putAll_n, putAll_s, fnR_e, fnEnd_nx, fnEnd_rt, fnEnd_ex, ent_t, ent_f, ent_n, outs_t, outs_f, outs_n, mul_int, mod_int, div_int, shr_int, add_int, iadd_int, sub_int, lt_int, le_int, gt_int, ge_int, and_int, or_int, xor_int, neg_int, bits_int, fInt_int, fInt_bl, eq_int, ne_int, eq_bl, ne_bl, shrV_int, shrV_bl, shrV_str, shrV_non, shrV_tup, shrV_lstT, shrV_lstF, shrV_out, shrL_nil, shrL_cons, shrL_ints, shrL_nats, nats_len, isHole_non, isHole_bl, isHole_int, isHole_str, isHole_tup, isHole_lst, isHole_out, isHole_dic, isHole_dit, isHole_ins, isHole_hole, PL_hole, PL_flat, isFlat_non, isFlat_bl, isFlat_int, isFlat_str, isFlat_tup, isFlat_lst, isFlat_out, isFlat_dic, isFlat_dit, isFlat_ins, frz_int, frz_bl, frz_str, frz_lst, frz_tup, frzL_nil, frzL_cons, frzL_ints, frzL_nats, pVar_e, pvK_some, pIx_e, piK_int, pjK_some, mTake_e, tkK_shr, tkK_own, mPeek_e, pkK_some, getR_e, getP_nil, getP_cons, some_bind, setR_e, stK_some, setP_nil, setP_cons, suK_some, getS_lst, getS_tup, getS_out, setS_lst, dIx_tup, dIx_lst, dSetI_e, siK_int, sjK_lst, unG_ok, mMethL_e, mlK_lst, mmK_app, lAppend_e, dLen_lst, dLen_tup, dLen_out, ite_t, ite_f, List.getElem?_cons_zero, List.getElem?_cons_succ, List.set_cons_zero, List.set_cons_succ, List.length_cons, List.length_nil, List.length_map, List.length_set, Bool.and_true, Bool.true_and, Bool.not_true, beq_self_eq_true, beq_tf, beq_ft, Bool.not_false, decide_true, decide_false, List.replicate, List.cons_append, List.nil_append, List.append_eq, if_len, Int.toNat_natCast, Int.toNat_zero, Int.toNat_one, Option.map_some, List.getElem?_map, List.isEmpty_nil, Bool.true_or, Bool.or_true, List.isEmpty_cons, Bool.and_self, Int.reduceToNat, Int.reduceBEq, sorted_nats, fInt2_e, one1_e, mChain_e, chK_t, chK_f, mDrop_e, mEnumL_e, elK_lst, mEnum_e, enK_lst, mZip_e, zpK_lst, zpK_tup, sAny_lst, sAny_out, sAny_tup, sAny_str, fTuple_lst, fTuple_tup, mMeth0_e, m0K_pop, mTab_e, tbK_some, dCon_int, mDicK_e, dkK_some, mBinP_e, bpK_some, mEnumV_e, evK_lst, evK_tup, mRaise_e, mTry_e, tyK_ok, tyK_ex, tzK_c, tzK_p, hdC_eq, hdC_ne, rtK_rt, mTryAs_e, taK_ok, taK_ex, taZ_c, taZ_p, *])
theorem shr_hole {d : D} (h : shr d = true) : isHole d = false := by cases d <;> first | rfl | (simp [shr] at h)
theorem frz_same_len {ds es : List D} (h : frzL ds = frzL es) : ds.length = es.length := by
  have := congrArg List.length h
  rwa [frzL_eq, frzL_eq, List.length_map, List.length_map] at this
theorem frz_same_at {ds es : List D} (h : frzL ds = frzL es) {i : Nat} {x y : D} (hx : ds[i]? = some x) (hy : es[i]? = some y) : frz x = frz y := by
  have : (frzL ds)[i]? = (frzL es)[i]? := by rw [h]
  rw [frzL_eq, frzL_eq, List.getElem?_map, List.getElem?_map, hx, hy] at this
  simpa using this
/-- the items are shared -/
def shr1 : D → Bool
  | .lst _ ds => shrL ds
  | .tup ds => shrL ds
  | d => shr d
theorem shrL_at {ds : List D} (h : shrL ds = true) {i : Nat} {x : D} (hx : ds[i]? = some x) : shr x = true := by
  rw [shrL_eq, List.all_eq_true] at h
  exact h x (List.mem_of_getElem? hx)
theorem shr1_of {d : D} (h : shr d = true) : shr1 d = true := by
  cases d <;> simp_all [shr1, shr]
theorem nats_of : ∀ (zs : List D) (n : Nat), (∀ z ∈ zs, ∃ k : Nat, z = .int (k : Int) ∧ k < n) → ∃ l, zs = nats l ∧ ∀ k ∈ l, k < n
  | [], _, _ => ⟨[], rfl, by simp⟩
  | z :: zs, n, h => by
    obtain ⟨k, rfl, hk⟩ := h z (by simp)
    obtain ⟨l, rfl, hl⟩ := nats_of zs n fun z hz => h z (by simp [hz])
    refine ⟨k :: l, rfl, fun x hx => ?_⟩
    rcases List.mem_cons.mp hx with rfl | hx
    · exact hk
    · exact hl x hx
end Pk47

end
section
set_option maxRecDepth 100000
namespace Pk47
open Z
set_option maxHeartbeats 4000000
local macro_rules | `(tactic| walk_at "zs") => `(tactic| (simp only [shrV_int, shrV_bl, shrV_str, shrV_non, shrV_tup, shrV_lstT, shrV_lstF, shrV_out, shrL_nil, shrL_cons, shrL_ints, shrL_nats, nats_len, isHole_non, isHole_bl, isHole_int, isHole_str, isHole_tup, isHole_lst, isHole_out, isHole_dic, isHole_dit, isHole_ins, isHole_hole, PL_hole, PL_flat, isFlat_non, isFlat_bl, isFlat_int, isFlat_str, isFlat_tup, isFlat_lst, isFlat_out, isFlat_dic, isFlat_dit, isFlat_ins, List.length_cons, List.length_nil, List.length_map, List.length_set, Bool.and_self, Bool.and_true, Bool.true_and, List.replicate, List.isEmpty_nil, Bool.true_or, Bool.or_true, List.isEmpty_cons, List.getElem?_cons_zero, List.getElem?_cons_succ]; done))
local macro_rules | `(tactic| walk_at "zl") => `(tactic| (simp only [nats_len, List.length_append, List.length_cons, List.length_nil, List.length_map, List.length_set, List.length_range]; omega))
local macro_rules | `(tactic| walk_at "zd") => `(tactic| first | assumption | (walk_at "zs") | omega | (walk_at "zl") | decide)
local macro_rules | `(tactic| walk_at "zu") => `(tactic| simp only [List.range, List.range.loop, List.map_cons, List.map_nil, mLoop_cons])
local macro_rules | `(tactic| walk_at "zz") => `(tactic| simp (disch := walk_at "zd") only [pFld_e, pf2K_some, mSetF_e, sf0K_ok, aSelf_e, slK_some, mGuard_e, noEx_e, neK_ok, mMake_e, mk2_some, mk3_ok, mk4_some, mk3_ex, mk5_some, pKey_e, pyK_some, py2K_some, keyD_int, keyD_str, mSetK_e, sk0_ok, sk1_ok, mGetP_e, gp0_some, gp1_two, gp2_some, gp3_none, gp3_some, taK2_some, mAtP_e, ap0_some, ap1_some, shrV_insT, shrV_insF, frz_ins, shrV_dicT, shrV_dicF, frz_dic, mSlice_e, mNoPart_e, mPart_e, ptK_int, sLst_lst, sLst_out, fList_lst, fList_out, fList_tup, itemsOf_lst, itemsOf_out, itemsOf_tup, frzL_frzL, mLc_e, lcK_ok, lcK_ok1, mDGet2_e, dgK_d, dgA_2, dgR_some, mDicT_e, diK_some, lbK_ok, wipeR_nil, wipeR_cons, restR_nil, restR_cons, rsK_some, mYes_e, mAug_e, agK_some, oisN_non, onotN_non, oisN_bl, onotN_bl, oisN_int, onotN_int, oisN_str, onotN_str, oisN_tup, onotN_tup, oisN_lst, onotN_lst, oisN_out, onotN_out, eq_str, isi_non_tuple, isi_bl_tuple, isi_int_tuple, isi_str_tuple, isi_tup_tuple, isi_lst_tuple, isi_out_tuple, isi_non_list, isi_bl_list, isi_int_list, isi_str_list, isi_tup_list, isi_lst_list, isi_out_list, isi_non_bool, isi_bl_bool, isi_int_bool, isi_str_bool, isi_tup_bool, isi_lst_bool, isi_out_bool, isi_non_int, isi_bl_int, isi_int_int, isi_str_int, isi_tup_int, isi_lst_int, isi_out_int, isi_non_str, isi_bl_str, isi_int_str, isi_str_str, isi_tup_str, isi_lst_str, isi_out_str, bind_ok, bind_ex, bind_no, ofOpt_some, mK_e, mUn_e, mBin_e, mNil_e, mCons_e, mFun_e, mVar_e, vK_shr, vK_lst, mMov_e, wK_shr, wK_own, mTst_e, tK_bl, iK_t, iK_f, mAnd_e, mOr_e, mNot_e, mIte_e, mIf_e, mAndV_e, aK_t, aK_f, mOrV_e, orK_t, orK_f, mNotV_e, notD_bl, mSeq_e, sK_nx, sK_rt, sK_ex, sK_bk, sK_ct, mSkip_e, mBrk_e, mCnt_e, mAsg_e, goG_ok, mRet_e, mRetN_e, mDo_e, dName_e, nK_some, dTup_e, dNil_e, dCons_e, lpK_nx, mLoop_cons, lpK_ct, lpK_bk, lpK_rt, lpK_ex, mLoop_nil, mFor_e, finB_nx, finB_rt, finB_ex, finB_nx1, finB_rt1, mItems_e, mRng1_e, r1K_int, mRng2_e, r2K_int, mLend_e, ldK_lst, ldK_str, ldK_out, ldK_tup, mTup_e, mLst_e, aNil_e, aTmp_e, aLend_e, lnK_some, ecK_ok, ecK_ex, pcK_some, xcK_some, mCall_e, gcK_some, gath_nil, gath_l, gath_r, gbK_flat, gbK_obj, gaK_some, putAll_nil, putAll_n, putAll_s, fnR_e, fnEnd_nx, fnEnd_rt, fnEnd_ex, ent_t, ent_f, ent_n, outs_t, outs_f, outs_n, mul_int, mod_int, div_int, shr_int, add_int, iadd_int, sub_int, lt_int, le_int, gt_int, ge_int, and_int, or_int, xor_int, neg_int, bits_int, fInt_int, fInt_bl, eq_int, ne_int, eq_bl, ne_bl, shrV_int, shrV_bl, shrV_str, shrV_non, shrV_tup, shrV_lstT, shrV_lstF, shrV_out, shrL_nil, shrL_cons, shrL_ints, shrL_nats, nats_len, isHole_non, isHole_bl, isHole_int, isHole_str, isHole_tup, isHole_lst, isHole_out, isHole_dic, isHole_dit, isHole_ins, isHole_hole, PL_hole, PL_flat, isFlat_non, isFlat_bl, isFlat_int, isFlat_str, isFlat_tup, isFlat_lst, isFlat_out, isFlat_dic, isFlat_dit, isFlat_ins, frz_int, frz_bl, frz_str, frz_lst, frz_tup, frzL_nil, frzL_cons, frzL_ints, frzL_nats, pVar_e, pvK_some, pIx_e, piK_int, pjK_some, mTake_e, tkK_shr, tkK_own, mPeek_e, pkK_some, getR_e, getP_nil, getP_cons, some_bind, setR_e, stK_some, setP_nil, setP_cons, suK_some, getS_lst, getS_tup, getS_out, setS_lst, dIx_tup, dIx_lst, dSetI_e, siK_int, sjK_lst, unG_ok, mMethL_e, mlK_lst, mmK_app, lAppend_e, dLen_lst, dLen_tup, dLen_out, ite_t, ite_f, List.getElem?_cons_zero, List.getElem?_cons_succ, List.set_cons_zero, List.set_cons_succ, List.length_cons, List.length_nil, List.length_map, List.length_set, Bool.and_true, Bool.true_and, Bool.not_true, beq_self_eq_true, beq_tf, beq_ft, Bool.not_false, decide_true, decide_false, List.replicate, List.cons_append, List.nil_append, List.append_eq, if_len, Int.toNat_natCast, Int.toNat_zero, Int.toNat_one, Option.map_some, List.getElem?_map, List.isEmpty_nil, Bool.true_or, Bool.or_true, List.isEmpty_cons, Bool.and_self, Int.reduceToNat, Int.reduceBEq, sorted_nats, fInt2_e, one1_e, mChain_e, chK_t, chK_f, mDrop_e, mEnumL_e, elK_lst, mEnum_e, enK_lst, mZip_e, zpK_lst, zpK_tup, sAny_lst, sAny_out, sAny_tup, sAny_str, fTuple_lst, fTuple_tup, mMeth0_e, m0K_pop, mTab_e, tbK_some, dCon_int, mDicK_e, dkK_some, mBinP_e, bpK_some, mEnumV_e, evK_lst, evK_tup, mRaise_e, mTry_e, tyK_ok, tyK_ex, tzK_c, tzK_p, hdC_eq, hdC_ne, rtK_rt, mTryAs_e, taK_ok, taK_ex, taZ_c, taZ_p])
local macro_rules | `(tactic| walk_at "zh") => `(tactic| simp (disch := walk_at "zd") only [pFld_e, pf2K_some, mSetF_e, sf0K_ok, aSelf_e, slK_some, mGuard_e, noEx_e, neK_ok, mMake_e, mk2_some, mk3_ok, mk4_some, mk3_ex, mk5_some, pKey_e, pyK_some, py2K_some, keyD_int, keyD_str, mSetK_e, sk0_ok, sk1_ok, mGetP_e, gp0_some, gp1_two, gp2_some, gp3_none, gp3_some, taK2_some, mAtP_e, ap0_some, ap1_some, shrV_insT, shrV_insF, frz_ins, shrV_dicT, shrV_dicF, frz_dic, mSlice_e, mNoPart_e, mPart_e, ptK_int, sLst_lst, sLst_out, fList_lst, fList_out, fList_tup, itemsOf_lst, itemsOf_out, itemsOf_tup, frzL_frzL, mLc_e, lcK_ok, lcK_ok1, mDGet2_e, dgK_d, dgA_2, dgR_some, mDicT_e, diK_some, lbK_ok, wipeR_nil, wipeR_cons, restR_nil, restR_cons, rsK_some, mYes_e, mAug_e, agK_some, oisN_non, onotN_non, oisN_bl, onotN_bl, oisN_int, onotN_int, oisN_str, onotN_str, oisN_tup, onotN_tup, oisN_lst, onotN_lst, oisN_out, onotN_out, eq_str, isi_non_tuple, isi_bl_tuple, isi_int_tuple, isi_str_tuple, isi_tup_tuple, isi_lst_tuple, isi_out_tuple, isi_non_list, isi_bl_list, isi_int_list, isi_str_list, isi_tup_list, isi_lst_list, isi_out_list, isi_non_bool, isi_bl_bool, isi_int_bool, isi_str_bool, isi_tup_bool, isi_lst_bool, isi_out_bool, isi_non_int, isi_bl_int, isi_int_int, isi_str_int, isi_tup_int, isi_lst_int, isi_out_int, isi_non_str, isi_bl_str, isi_int_str, isi_str_str, isi_tup_str, isi_lst_str, isi_out_str, bind_ok, bind_ex, bind_no, ofOpt_some, mK_e, mUn_e, mBin_e, mNil_e, mCons_e, mFun_e, mVar_e, vK_shr, vK_lst, mMov_e, wK_shr, wK_own, mTst_e, tK_bl, iK_t, iK_f, mAnd_e, mOr_e, mNot_e, mIte_e, mIf_e, mAndV_e, aK_t, aK_f, mOrV_e, orK_t, orK_f, mNotV_e, notD_bl, mSeq_e, sK_nx, sK_rt, sK_ex, sK_bk, sK_ct, mSkip_e, mBrk_e, mCnt_e, mAsg_e, goG_ok, mRet_e, mRetN_e, mDo_e, dName_e, nK_some, dTup_e, dNil_e, dCons_e, lpK_nx, mLoop_cons, lpK_ct, lpK_bk, lpK_rt, lpK_ex, mLoop_nil, mFor_e, finB_nx, finB_rt, finB_ex, finB_nx1, finB_rt1, mItems_e, mRng1_e, r1K_int, mRng2_e, r2K_int, mLend_e, ldK_lst, ldK_str, ldK_out, ldK_tup, mTup_e, mLst_e, aNil_e, aTmp_e, aLend_e, lnK_some, ecK_ok, ecK_ex, pcK_some, xcK_some, mCall_e, gcK_some, gath_nil, gath_l, gath_r, gbK_flat, gbK_obj, gaK_some, putAll_nil, putAll_n, putAll_s, fnR_e, fnEnd_nx, fnEnd_rt, fnEnd_ex, ent_t, ent_f, ent_n, outs_t, outs_f, outs_n, mul_int, mod_int, div_int, shr_int, add_int, iadd_int, sub_int, lt_int, le_int, gt_int, ge_int, and_int, or_int, xor_int, neg_int, bits_int, fInt_int, fInt_bl, eq_int, ne_int, eq_bl, ne_bl, shrV_int, shrV_bl, shrV_str, shrV_non, shrV_tup, shrV_lstT, shrV_lstF, shrV_out, shrL_nil, shrL_cons, shrL_ints, shrL_nats, nats_len, isHole_non, isHole_bl, isHole_int, isHole_str, isHole_tup, isHole_lst, isHole_out, isHole_dic, isHole_dit, isHole_ins, isHole_hole, PL_hole, PL_flat, isFlat_non, isFlat_bl, isFlat_int, isFlat_str, isFlat_tup, isFlat_lst, isFlat_out, isFlat_dic, isFlat_dit, isFlat_ins, frz_int, frz_bl, frz_str, frz_lst, frz_tup, frzL_nil, frzL_cons, frzL_ints, frzL_nats, pVar_e, pvK_some, pIx_e, piK_int, pjK_some, mTake_e, tkK_shr, tkK_own, mPeek_e, pkK_some, getR_e, getP_nil, getP_cons, some_bind, setR_e, stK_some, setP_nil, setP_cons, suK_some, getS_lst, getS_tup, getS_out, setS_lst, dIx_tup, dIx_lst, dSetI_e, siK_int, sjK_lst, unG_ok, mMethL_e, mlK_lst, mmK_app, lAppend_e, dLen_lst, dLen_tup, dLen_out, ite_t, ite_f, List.getElem?_cons_zero, List.getElem?_cons_succ, List.set_cons_zero, List.set_cons_succ, List.length_cons, List.length_nil, List.length_map, List.length_set, Bool.and_true, Bool.true_and, Bool.not_true, beq_self_eq_true, beq_tf, beq_ft, Bool.not_false, decide_true, decide_false, List.replicate, List.cons_append, List.nil_append, List.append_eq, if_len, Int.toNat_natCast, Int.toNat_zero, Int.toNat_one, Option.map_some, List.getElem?_map, List.isEmpty_nil, Bool.true_or, Bool.or_true, List.isEmpty_cons, Bool.and_self, Int.reduceToNat, Int.reduceBEq, sorted_nats, fInt2_e, one1_e, mChain_e, chK_t, chK_f, mDrop_e, mEnumL_e, elK_lst, mEnum_e, enK_lst, mZip_e, zpK_lst, zpK_tup, sAny_lst, sAny_out, sAny_tup, sAny_str, fTuple_lst, fTuple_tup, mMeth0_e, m0K_pop, mTab_e, tbK_some, dCon_int, mDicK_e, dkK_some, mBinP_e, bpK_some, mEnumV_e, evK_lst, evK_tup, mRaise_e, mTry_e, tyK_ok, tyK_ex, tzK_c, tzK_p, hdC_eq, hdC_ne, rtK_rt, mTryAs_e, taK_ok, taK_ex, taZ_c, taZ_p, *])
def cellI (ns : List Int) (k : Nat) : Int := ns.getD k 0
theorem cell_ok (ns : List Int) (hl : ns.length ≤ 1000) (k : Nat) : r__law_cell [.out (ns.map .int), .int k] = .ok (.int (cellI ns k)) [.out (ns.map .int), .int k] := by
  have dl : dLen (.out (ns.map .int)) = some (.int ((ns.length : Nat) : Int)) := by rw [dLen_out, List.length_map]
  have iX : isHole (.out (ns.map .int)) = false := rfl
  by_cases h : k < ns.length
  · have g : Z.getS (.out (ns.map .int)) (.at (k : Int)) = some (.int (cellI ns k)) := by
      rw [getS_out _ _ (by omega) (by rw [List.length_map]; omega), Int.toNat_natCast, List.getElem?_map, List.getElem?_eq_getElem h]
      unfold cellI
      rw [List.getD_eq_getElem?_getD, List.getElem?_eq_getElem h]; rfl
    have h' : (k : Int) < (ns.length : Int) := by omega
    generalize cellI ns k = c at *
    generalize D.out (ns.map .int) = X at *
    unfold r__law_cell b__law_cell
    rw [fnR_e _ _ _ _ rfl]
    walk_at "zh"
  · have h' : ¬ (k : Int) < (ns.length : Int) := by omega
    have e : cellI ns k = 0 := by unfold cellI; rw [List.getD_eq_getElem?_getD, List.getElem?_eq_none (by omega)]; rfl
    rw [e]
    clear e
    generalize D.out (ns.map .int) = X at *
    unfold r__law_cell b__law_cell
    rw [fnR_e _ _ _ _ rfl]
    walk_at "zh"
theorem ln1_step (a0 a1 a4 a7 : D) (most : Nat) (hm : most ≤ 1000) (L : List Nat) (hL : ∀ x ∈ L, x < 4096) (hl : L.length ≤ most) (C : Nat) (k : D) :
    ∃ (L' : List Nat) (C' : Nat), L1__law_numbers [a0, a1, .int most, .lst true (nats L), a4, .int C, k, a7] = .ok .nx [a0, a1, .int most, .lst true (nats L'), a4, .int C', k, a7] ∧ (∀ x ∈ L', x < 4096) ∧ L'.length ≤ most := by
  by_cases h1 : 0 < C
  · have h1' : (0 : Int) < (C : Int) := by omega
    by_cases h2 : L.length < most
    · have h2' : (L.length : Int) < (most : Int) := by omega
      have e1 : (C : Int) % 4096 = ((C % 4096 : Nat) : Int) := rfl
      have e2 : (C : Int) / 4096 = ((C / 4096 : Nat) : Int) := rfl
      have ap : nats L ++ [.int ((C % 4096 : Nat) : Int)] = nats (L ++ [C % 4096]) := by unfold nats; rw [List.map_append]; rfl
      refine ⟨L ++ [C % 4096], C / 4096, ?_, ?_, by rw [List.length_append]; simp; omega⟩
      · have hlen : (nats L).length < 16777216 := by rw [nats_len]; omega
        unfold L1__law_numbers
        clear hL
        walk_at "zh"
      · intro x hx
        rcases List.mem_append.mp hx with h | h
        · exact hL x h
        · rw [List.mem_singleton.mp h]; omega
    · refine ⟨L, C, ?_, hL, hl⟩
      have h2' : ¬ (L.length : Int) < (most : Int) := by omega
      unfold L1__law_numbers
      clear hL
      walk_at "zh"
  · refine ⟨L, C, ?_, hL, hl⟩
    have h1' : ¬ (0 : Int) < (C : Int) := by omega
    unfold L1__law_numbers
    clear hL
    walk_at "zh"
theorem ln2_step (ns : List Int) (hns : ns.length ≤ 63) (a1 a5 a6 a7 : D) (most : Nat) (hm : most ≤ 1000) (L : List Nat) (hL : ∀ x ∈ L, x < 4096) (hl : L.length ≤ most) (k : Nat) (hk : k < ns.length) :
    ∃ (L' : List Nat) (x5 x6 x7 : D), L2__law_numbers [.out (ns.map .int), a1, .int most, .lst true (nats L), .int k, a5, a6, a7] = .ok .nx [.out (ns.map .int), a1, .int most, .lst true (nats L'), .int k, x5, x6, x7] ∧ (∀ x ∈ L', x < 4096) ∧ L'.length ≤ most := by
  have g : Z.getS (.out (ns.map .int)) (.at (k : Int)) = some (.int ns[k]) := by
    rw [getS_out _ _ (by omega) (by rw [List.length_map]; omega), Int.toNat_natCast, List.getElem?_map, List.getElem?_eq_getElem hk]; rfl
  have ab := abs_e ns[k]
  have iX : isHole (.out (ns.map .int)) = false := rfl
  generalize ns[k] = z at *
  generalize hC : z.natAbs = C at *
  by_cases hb : 1000000000000000000 ≤ C
  · have hb' : (1000000000000000000 : Int) ≤ (C : Int) := by omega
    obtain ⟨ρ', e, L', C', x6, rfl, hL', hl'⟩ := loop_any (g := dName 6) (b := L1__law_numbers) (fun _ ρ => ∃ (L : List Nat) (C : Nat) (x6 : D), ρ = [.out (ns.map .int), a1, .int most, .lst true (nats L), .int k, .int C, x6, a7] ∧ (∀ x ∈ L, x < 4096) ∧ L.length ≤ most) 60 ((List.range 60).map fun q : Nat => .int (q : Int)) 0
      [.out (ns.map .int), a1, .int most, .lst true (nats L), .int k, .int C, a6, a7] (by simp) ⟨L, C, a6, rfl, hL, hl⟩ (fun d hd j ρ _ ⟨L, C, x6, hρ, hL, hl⟩ => by
        obtain ⟨i, hi, rfl⟩ := List.mem_map.mp hd
        obtain ⟨L', C', e, h1, h2⟩ := ln1_step (.out (ns.map .int)) a1 (.int k) a7 most hm L hL hl C (.int i)
        exact ⟨[.out (ns.map .int), a1, .int most, .lst true (nats L), .int k, .int C, .int i, a7], _, by rw [hρ]; rfl, .inl e, L', C', _, rfl, h1, h2⟩)
    refine ⟨L', .int C', x6, a7, ?_, hL', hl'⟩
    generalize D.out (ns.map .int) = X at *
    unfold L2__law_numbers
    clear hL hL' hC
    walk_at "zh"
  · have hb' : ¬ (1000000000000000000 : Int) ≤ (C : Int) := by omega
    by_cases h2 : L.length < most
    · have h2' : (L.length : Int) < (most : Int) := by omega
      generalize D.out (ns.map .int) = X at *
      have hlen : (nats L).length < 16777216 := by rw [nats_len]; omega
      refine ⟨L ++ [((((C : Int) * 48271 + (k : Int) * 69621 + 12345) % 2147483647 * 69621 + ((C : Int) * 48271 + (k : Int) * 69621 + 12345) % 2147483647 / 1009) % 1000003 % 4096).toNat], .int C, a6, .int ((((C : Int) * 48271 + (k : Int) * 69621 + 12345) % 2147483647 * 69621 + ((C : Int) * 48271 + (k : Int) * 69621 + 12345) % 2147483647 / 1009) % 1000003), ?_, ?_, by rw [List.length_append]; simp; omega⟩
      · have ap : nats L ++ [.int ((((C : Int) * 48271 + (k : Int) * 69621 + 12345) % 2147483647 * 69621 + ((C : Int) * 48271 + (k : Int) * 69621 + 12345) % 2147483647 / 1009) % 1000003 % 4096)] = nats (L ++ [((((C : Int) * 48271 + (k : Int) * 69621 + 12345) % 2147483647 * 69621 + ((C : Int) * 48271 + (k : Int) * 69621 + 12345) % 2147483647 / 1009) % 1000003 % 4096).toNat]) := by
          unfold nats
          rw [List.map_append, List.map_cons, List.map_nil, Int.toNat_of_nonneg (by omega)]
        have m1 : dMul (.int C) (.int 48271) = some (.int ((C : Int) * 48271)) := mul_int (.inr (by decide))
        have m2 : dMul (.int k) (.int 69621) = some (.int ((k : Int) * 69621)) := mul_int (.inr (by decide))
        have m3 : dMul (.int (((C : Int) * 48271 + (k : Int) * 69621 + 12345) % 2147483647)) (.int 69621) = some (.int (((C : Int) * 48271 + (k : Int) * 69621 + 12345) % 2147483647 * 69621)) := mul_int (.inr (by decide))
        generalize (C : Int) * 48271 = A1 at *
        generalize (k : Int) * 69621 = A2 at *
        generalize hA3 : (A1 + A2 + 12345) % 2147483647 = A3 at *
        generalize A3 * 69621 = A4 at *
        generalize hA5 : (A4 + A3 / 1009) % 1000003 = A5 at *
        generalize hA6 : A5 % 4096 = A6 at *
        unfold L2__law_numbers
        clear hL hC
        walk_at "zh"
      · intro x hx
        rcases List.mem_append.mp hx with h | h
        · exact hL x h
        · rw [List.mem_singleton.mp h]; omega
    · refine ⟨L, .int C, a6, a7, ?_, hL, hl⟩
      have h2' : ¬ (L.length : Int) < (most : Int) := by omega
      generalize D.out (ns.map .int) = X at *
      unfold L2__law_numbers
      clear hL hC
      walk_at "zh"
theorem numbers_ok (ns : List Int) (hns : ns.length ≤ 63) (first most : Nat) (hf : first ≤ 1000) (hm : most ≤ 1000) :
    ∃ L : List Nat, r__law_numbers [.out (ns.map .int), .int first, .int most] = .ok (.lst true (nats L)) [.out (ns.map .int), .int first, .int most] ∧ (∀ x ∈ L, x < 4096) ∧ L.length ≤ most := by
  obtain ⟨ρ', e, L, x4, x5, x6, x7, rfl, hL, hl⟩ := loop_any (g := dName 4) (b := L2__law_numbers) (fun _ ρ => ∃ (L : List Nat) (x4 x5 x6 x7 : D), ρ = [.out (ns.map .int), .int first, .int most, .lst true (nats L), x4, x5, x6, x7] ∧ (∀ x ∈ L, x < 4096) ∧ L.length ≤ most) ((ns.length : Int) - (first : Int)).toNat
    ((List.range ((ns.length : Int) - (first : Int)).toNat).map fun n : Nat => .int ((first : Int) + (n : Int))) 0 [.out (ns.map .int), .int first, .int most, .lst true (nats []), .hole, .hole, .hole, .hole] (by simp) ⟨[], .hole, .hole, .hole, .hole, rfl, by simp, by simp⟩ (fun d hd j ρ _ ⟨L, x4, x5, x6, x7, hρ, hL, hl⟩ => by
      obtain ⟨i, hi, rfl⟩ := List.mem_map.mp hd
      have hi := List.mem_range.mp hi
      have ei : (first : Int) + (i : Int) = ((first + i : Nat) : Int) := by omega
      obtain ⟨L', y5, y6, y7, e, h1, h2⟩ := ln2_step ns hns (.int first) x5 x6 x7 most hm L hL hl (first + i) (by omega)
      exact ⟨[.out (ns.map .int), .int first, .int most, .lst true (nats L), .int ((first + i : Nat) : Int), x5, x6, x7], _, by rw [hρ, ei]; rfl, .inl e, L', _, y5, y6, y7, rfl, h1, h2⟩)
  refine ⟨L, ?_, hL, hl⟩
  have dl : dLen (.out (ns.map .int)) = some (.int ((ns.length : Nat) : Int)) := by rw [dLen_out, List.length_map]
  have iX : isHole (.out (ns.map .int)) = false := rfl
  have n0 : nats [] = [] := rfl
  rw [n0] at e
  generalize D.out (ns.map .int) = X at *
  unfold r__law_numbers b__law_numbers
  rw [fnR_e _ _ _ _ rfl]
  clear hL
  walk_at "zh"
def EdOk (N : Nat) (e : Ed) : Prop := e.1 < e.2.1 ∧ e.2.1 ≤ N ∧ e.2.2 < 2
theorem lg_step (a0 : D) (N : Nat) (hN : N ≤ 1000) (x5 x6 x7 : D) (L : List Ed) (hL : ∀ e ∈ L, EdOk N e) (hd : L.Nodup) (hl : L.length ≤ 1000) (n : Nat) :
    ∃ (L' : List Ed) (y5 y6 y7 : D), L1__law_graph [a0, .int N, .lst true (L.map edD), .int n, x5, x6, x7] = .ok .nx [a0, .int N, .lst true (L'.map edD), .int n, y5, y6, y7] ∧ (∀ e ∈ L', EdOk N e) ∧ L'.Nodup ∧ L'.length ≤ L.length + 1 := by
  have eN : (N : Int) + 1 = ((N + 1 : Nat) : Int) := by omega
  have e1 : (n : Int) % ((N + 1 : Nat) : Int) = ((n % (N + 1) : Nat) : Int) := rfl
  have e2 : (n : Int) / 16 % ((N + 1 : Nat) : Int) = ((n / 16 % (N + 1) : Nat) : Int) := rfl
  have e3 : (n : Int) / 256 % 2 = ((n / 256 % 2 : Nat) : Int) := rfl
  have a4 : n % (N + 1) ≤ N := by have := Nat.mod_lt n (show 0 < N + 1 by omega); omega
  have b4 : n / 16 % (N + 1) ≤ N := by have := Nat.mod_lt (n / 16) (show 0 < N + 1 by omega); omega
  have p0 : (0 : Int) < ((N + 1 : Nat) : Int) := by omega
  have f2 : n / 256 % 2 < 2 := by omega
  generalize n % (N + 1) = a at *
  generalize n / 16 % (N + 1) = b at *
  generalize n / 256 % 2 = f at *
  have mi := iMin_nat a b
  have ma := iMax_nat a b
  have ni := notIn_eds (min a b, max a b, f) true L (by omega)
  have es : edD (min a b, max a b, f) = .tup [.int (min a b : Nat), .int (max a b : Nat), .int f] := rfl
  rw [es] at ni
  by_cases hab : a = b
  · have hab' : ((a : Int) == (b : Int)) = true := by rw [beq_iff_eq, hab]
    refine ⟨L, .int a, .int b, .tup [.int (min a b : Nat), .int (max a b : Nat), .int f], ?_, hL, hd, by omega⟩
    generalize min a b = i1 at *
    generalize max a b = i2 at *
    unfold L1__law_graph
    clear hL hd hab
    walk_at "zh"
  · have hab' : ((a : Int) == (b : Int)) = false := by rw [beq_eq_false_iff_ne]; omega
    have lt : min a b < max a b := by omega
    have le : max a b ≤ N := by omega
    by_cases hi : (min a b, max a b, f) ∈ L
    · rw [decide_eq_true hi] at ni
      refine ⟨L, .int a, .int b, .tup [.int (min a b : Nat), .int (max a b : Nat), .int f], ?_, hL, hd, by omega⟩
      clear lt le hi
      generalize min a b = i1 at *
      generalize max a b = i2 at *
      unfold L1__law_graph
      clear hL hd hab
      walk_at "zh"
    · rw [decide_eq_false hi] at ni
      refine ⟨L ++ [(min a b, max a b, f)], .int a, .int b, .tup [.int (min a b : Nat), .int (max a b : Nat), .int f], ?_, ?_, ?_, by rw [List.length_append]; simp⟩
      · have ap : L.map edD ++ [.tup [.int (min a b : Nat), .int (max a b : Nat), .int f]] = (L ++ [(min a b, max a b, f)]).map edD := by rw [List.map_append]; rfl
        have hlen : (L.map edD).length < 16777216 := by rw [List.length_map]; omega
        clear lt le hi
        generalize min a b = i1 at *
        generalize max a b = i2 at *
        unfold L1__law_graph
        clear hL hd hab
        walk_at "zh"
      · intro e he
        rcases List.mem_append.mp he with h | h
        · exact hL e h
        · rw [List.mem_singleton.mp h]; exact ⟨lt, le, f2⟩
      · rw [List.nodup_append]
        refine ⟨hd, by simp, ?_⟩
        intro x hx y hy h
        rw [List.mem_singleton.mp hy] at h
        exact hi (h ▸ hx)
theorem graph_ok (o : Bool) (ns : List Nat) (hn : ns.length ≤ 60) (N : Nat) (hN : N ≤ 1000) :
    ∃ es : List Ed, r__law_graph [.lst o (nats ns), .int N] = .ok (grD N es) [.lst o (nats ns), .int N] ∧ (∀ e ∈ es, EdOk N e) ∧ es.Nodup ∧ es.length ≤ ns.length := by
  obtain ⟨ρ', e, L, x3, x4, x5, x6, rfl, hL, hd, hl⟩ := loop_any (g := dName 3) (b := L1__law_graph) (fun k ρ => ∃ (L : List Ed) (x3 x4 x5 x6 : D), ρ = [.hole, .int N, .lst true (L.map edD), x3, x4, x5, x6] ∧ (∀ e ∈ L, EdOk N e) ∧ L.Nodup ∧ L.length ≤ k) ns.length
    (nats ns) 0 [.hole, .int N, .lst true ([].map edD), .hole, .hole, .hole, .hole] (by rw [nats_len]; omega) ⟨[], .hole, .hole, .hole, .hole, rfl, by simp, by simp, by simp⟩ (fun d hd k ρ hk ⟨L, x3, x4, x5, x6, hρ, hL, hnd, hl⟩ => by
      obtain ⟨n, hn, rfl⟩ := List.mem_map.mp hd
      obtain ⟨L', y4, y5, y6, e, h1, h2, h3⟩ := lg_step .hole N hN x4 x5 x6 L hL hnd (by omega) n
      exact ⟨[.hole, .int N, .lst true (L.map edD), .int n, x4, x5, x6], _, by rw [hρ]; rfl, .inl e, L', _, y4, y5, y6, rfl, h1, h2, by omega⟩)
  obtain ⟨es, se, pm⟩ : ∃ es : List Ed, fSortA [.lst false (L.map edD)] = some (.lst true (es.map edD)) ∧ es.Perm L := by
    by_cases h0 : L = []
    · subst h0; exact ⟨[], sort_none false, .refl _⟩
    · exact sort_eds false L (by omega) h0
  refine ⟨es, ?_, fun e he => hL e (pm.mem_iff.mp he), pm.nodup_iff.mpr hd, by rw [pm.length_eq]; exact hl⟩
  have fz := frzL_edD L
  have fz2 := frzL_edD es
  have fn := frzL_nats ns
  have le0 : ([].map edD : List D) = [] := rfl
  have sh := shrL_edD es
  rw [le0] at e
  unfold r__law_graph b__law_graph grD
  rw [fnR_e _ _ _ _ rfl]
  clear hL hd
  walk_at "zh"
theorem isint_ok (n : Int) : r__law_is_integer [.int n] = .ok (.bl true) [.int n] := by
  unfold r__law_is_integer b__law_is_integer
  rw [fnR_e _ _ _ _ rfl]
  walk_at "zh"
/-- how often the edges of a list end at a node -/
def degE (es : List Ed) (ks : List Nat) (v : Nat) : Nat := (ks.map fun k => (eAt es k).1).count v + (ks.map fun k => (eAt es k).2.1).count v
/-- the odd nodes -/
def oddL (N : Nat) (es : List Ed) (ks : List Nat) : List Nat := (List.range N).filter fun v => decide (degE es ks v % 2 = 1)
/-! ### the least undetected flip, by trying all sets -/
def flipS (es : List Ed) (ks : List Nat) : Nat := (ks.map fun k => (eAt es k).2.2).sum
abbrev Lf := Nat × Nat × Nat
def lfst (es : List Ed) (p : Nat) (s : Lf) (k : Nat) : Lf := if p.testBit k = true then (s.1 + 1, s.2.1 ^^^ (eAt es k).2.2, (s.2.2 ^^^ 2 ^ (eAt es k).1) ^^^ 2 ^ (eAt es k).2.1) else s
def LfI (es : List Ed) (ks : List Nat) (s : Lf) : Prop := s.1 = ks.length ∧ s.2.1 = flipS es ks % 2 ∧ ∀ v, s.2.2.testBit v = decide (degE es ks v % 2 = 1)
theorem xor01 (x f : Nat) (hf : f < 2) : (x % 2) ^^^ f = (x + f) % 2 := by
  have h1 : x % 2 = 0 ∨ x % 2 = 1 := by omega
  have h2 : f = 0 ∨ f = 1 := by omega
  rcases h1 with h1 | h1 <;> rcases h2 with h2 | h2 <;> rw [h1, h2]
  · show 0 = _; omega
  · show 1 = _; omega
  · show 1 = _; omega
  · show 0 = _; omega
theorem degE_app (es : List Ed) (ks : List Nat) (k v : Nat) : degE es (ks ++ [k]) v = degE es ks v + (if v = (eAt es k).1 then 1 else 0) + if v = (eAt es k).2.1 then 1 else 0 := by
  unfold degE
  rw [List.map_append, List.map_append, List.count_append, List.count_append]
  simp only [List.map_cons, List.map_nil, List.count_cons, List.count_nil]
  by_cases e1 : v = (eAt es k).1 <;> by_cases e2 : v = (eAt es k).2.1 <;> simp only [e1, e2, if_true, if_false, beq_self_eq_true, beq_iff_eq] <;> (repeat' split) <;> omega
theorem lf_step {N : Nat} {es : List Ed} (hes : ∀ e ∈ es, EdOk N e) {p : Nat} {ks : List Nat} {s : Lf} (h : LfI es ks s) {k : Nat} (hk : k < es.length) : LfI es (ks ++ [k].filter fun q => p.testBit q) (lfst es p s k) := by
  obtain ⟨h1, h2, h3⟩ := h
  obtain ⟨e1, e2, e3⟩ := hes _ (eAt_mem es k hk)
  unfold lfst
  cases hp : p.testBit k with
  | false =>
    simp only [List.filter_cons, hp, Bool.false_eq_true, if_false, List.filter_nil, List.append_nil]
    exact ⟨h1, h2, h3⟩
  | true =>
    simp only [List.filter_cons, hp, if_true, List.filter_nil]
    refine ⟨by simp [h1], ?_, fun v => ?_⟩
    · show s.2.1 ^^^ (eAt es k).2.2 = _
      rw [h2, xor01 _ _ e3]
      unfold flipS
      simp
    · show ((s.2.2 ^^^ 2 ^ (eAt es k).1) ^^^ 2 ^ (eAt es k).2.1).testBit v = _
      rw [Nat.testBit_xor, Nat.testBit_xor, h3 v, Nat.testBit_two_pow, Nat.testBit_two_pow, degE_app]
      by_cases c1 : v = (eAt es k).1
      · have c2 : v ≠ (eAt es k).2.1 := by omega
        rw [if_pos c1, if_neg c2, decide_eq_true c1.symm, decide_eq_false (p := (eAt es k).2.1 = v) (fun z => c2 z.symm)]
        by_cases c3 : degE es ks v % 2 = 1
        · rw [decide_eq_true c3, decide_eq_false (by omega)]; rfl
        · rw [decide_eq_false c3, decide_eq_true (by omega)]; rfl
      · rw [if_neg c1, decide_eq_false (p := (eAt es k).1 = v) (fun z => c1 z.symm)]
        by_cases c2 : v = (eAt es k).2.1
        · rw [if_pos c2, decide_eq_true c2.symm]
          by_cases c3 : degE es ks v % 2 = 1
          · rw [decide_eq_true c3, decide_eq_false (by omega)]; rfl
          · rw [decide_eq_false c3, decide_eq_true (by omega)]; rfl
        · rw [if_neg c2, decide_eq_false (p := (eAt es k).2.1 = v) (fun z => c2 z.symm)]
          by_cases c3 : degE es ks v % 2 = 1
          · rw [decide_eq_true c3, decide_eq_true (by omega)]; rfl
          · rw [decide_eq_false c3, decide_eq_false (by omega)]; rfl
theorem lf_fold {N : Nat} {es : List Ed} (hes : ∀ e ∈ es, EdOk N e) {p : Nat} : ∀ (l ks : List Nat) (s : Lf), (∀ k ∈ l, k < es.length) → LfI es ks s → LfI es (ks ++ l.filter fun q => p.testBit q) (l.foldl (lfst es p) s)
  | [], ks, s, _, h => by simp; exact h
  | k :: l, ks, s, hl, h => by
    have := lf_fold (p := p) hes l _ _ (fun q hq => hl q (by simp [hq])) (lf_step (p := p) hes h (hl k (by simp)))
    rw [List.append_assoc, ← List.filter_append] at this
    exact this
/-- the edges of a number -/
def pks (m p : Nat) : List Nat := (List.range m).filter fun q => p.testBit q
/-- an undetected flip -/
def undet (N : Nat) (es : List Ed) (ks : List Nat) : Bool := decide (flipS es ks % 2 = 1) && decide (oddL N es ks = [])
theorem ends0 (N : Nat) (es : List Ed) (ks : List Nat) (en : Nat) (h : ∀ v, en.testBit v = decide (degE es ks v % 2 = 1)) : ((((en &&& (2 ^ N - 1) : Nat) : Int)) == 0) = decide (oddL N es ks = []) := by
  rw [Bool.eq_iff_iff, beq_iff_eq, decide_eq_true_eq]
  unfold oddL
  rw [List.filter_eq_nil_iff]
  constructor
  · intro z v hv
    have z : en &&& (2 ^ N - 1) = 0 := by omega
    have t := congrArg (fun x => x.testBit v) z
    simp only [Nat.testBit_and, Nat.testBit_two_pow_sub_one, Nat.zero_testBit, decide_eq_true (List.mem_range.mp hv), Bool.and_true, h v] at t
    rw [t]; decide
  · intro z
    have : en &&& (2 ^ N - 1) = 0 := by
      apply Nat.eq_of_testBit_eq
      intro v
      rw [Nat.testBit_and, Nat.testBit_two_pow_sub_one, Nat.zero_testBit]
      by_cases hv : v < N
      · have := z v (List.mem_range.mpr hv)
        rw [h v]
        rw [Bool.not_eq_true] at this
        rw [this]; rfl
      · rw [decide_eq_false hv, Bool.and_false]
    omega
theorem lf1_step (N : Nat) (hN : N ≤ 1000) (es : List Ed) (hes : ∀ e ∈ es, EdOk N e) (B : D) (p : Nat) (s : Lf) (k : Nat) (hk : k < es.length) :
    L1__law_least_flip [grD N es, B, .int p, .int s.1, .int s.2.1, .int s.2.2, .int k] = .ok .nx [grD N es, B, .int p, .int (lfst es p s k).1, .int (lfst es p s k).2.1, .int (lfst es p s k).2.2, .int k] := by
  have g := get_eAt es k hk
  obtain ⟨h1, h2, h3⟩ := hes _ (eAt_mem es k hk)
  unfold lfst
  generalize eAt es k = e at *
  have g1 := get_gr1 N es
  have iG := hole_gr N es
  have iT : isHole (.tup (es.map edD)) = false := rfl
  have ga := get_ed0 e
  have gb := get_ed1 e
  have gc := get_ed2 e
  have iE := hole_edD e
  generalize edD e = E1 at *
  generalize D.tup (es.map edD) = T1 at *
  generalize grD N es = G at *
  have t1 := dShr_nat p k
  have t2 := bit_D p k
  have t3 := bitT p k
  obtain ⟨m, f, en⟩ := s
  simp only
  have s1 := dShl_one e.1 (by omega)
  have s2 := dShl_one e.2.1 (by omega)
  have x1 := dXor_nat f e.2.2
  have x2 := dXor_nat en (2 ^ e.1)
  have x3 := dXor_nat (en ^^^ 2 ^ e.1) (2 ^ e.2.1)
  have ad : (m : Int) + 1 = ((m + 1 : Nat) : Int) := rfl
  generalize (en ^^^ 2 ^ e.1) ^^^ 2 ^ e.2.1 = en2 at *
  generalize en ^^^ 2 ^ e.1 = en1 at *
  generalize 2 ^ e.1 = pa at *
  generalize 2 ^ e.2.1 = pb at *
  generalize f ^^^ e.2.2 = f1 at *
  generalize p / 2 ^ k = pk at *
  generalize bt p k = bk at *
  generalize m + 1 = m1 at *
  cases hp : p.testBit k with
  | false =>
    rw [hp] at t3
    simp only [Bool.false_eq_true, if_false]
    unfold L1__law_least_flip
    clear h1 h2 h3 hes hp
    walk_at "zh"
  | true =>
    rw [hp] at t3
    simp only [if_true]
    unfold L1__law_least_flip
    clear h1 h2 h3 hes hp
    walk_at "zh"
def bst (N : Nat) (es : List Ed) (b : Int) (p : Nat) : Int := if undet N es (pks es.length p) = true ∧ (b < 0 ∨ ((pks es.length p).length : Int) < b) then ((pks es.length p).length : Int) else b
theorem lf2_step (N : Nat) (hN : N ≤ 1000) (es : List Ed) (hes : ∀ e ∈ es, EdOk N e) (hl : es.length ≤ 1000) (b : Int) (p : Nat) (x3 x4 x5 x6 : D) :
    ∃ y3 y4 y5 y6, L2__law_least_flip [grD N es, .int b, .int p, x3, x4, x5, x6] = .ok .nx [grD N es, .int (bst N es b p), .int p, y3, y4, y5, y6] := by
  obtain ⟨ρ', e, y6, rfl⟩ := loop_rel (g := dName 6) (b := L1__law_least_flip) (fun k : Nat => D.int (k : Int)) (fun (s : Lf) ρ => ∃ y6, ρ = [grD N es, .int b, .int p, .int s.1, .int s.2.1, .int s.2.2, y6]) (lfst es p) (List.range es.length) (0, 0, 0) [grD N es, .int b, .int p, .int ((0 : Nat) : Int), .int ((0 : Nat) : Int), .int ((0 : Nat) : Int), x6] ⟨_, rfl⟩ (fun k hk s ρ ⟨y6, hρ⟩ =>
    ⟨[grD N es, .int b, .int p, .int s.1, .int s.2.1, .int s.2.2, .int k], _, by rw [hρ]; rfl, .inl (lf1_step N hN es hes (.int b) p s k (List.mem_range.mp hk)), _, rfl⟩)
  have I0 : LfI es [] (0, 0, 0) := ⟨rfl, rfl, fun v => by unfold degE; simp⟩
  obtain ⟨i1, i2, i3⟩ := lf_fold (p := p) hes (List.range es.length) [] (0, 0, 0) (fun k hk => List.mem_range.mp hk) I0
  rw [List.nil_append] at i1 i2 i3
  change _ = (pks es.length p).length at i1
  change _ = flipS es (pks es.length p) % 2 at i2
  have i4 := ends0 N es (pks es.length p) _ i3
  unfold bst undet
  generalize (List.range es.length).foldl (lfst es p) (0, 0, 0) = s at *
  obtain ⟨m, f, en⟩ := s
  simp only at i1 i2 i4 e ⊢
  rw [← i1, ← i2]
  have g0 := get_gr0 N es
  have g1 := get_gr1 N es
  have iG := hole_gr N es
  have iT : isHole (.tup (es.map edD)) = false := rfl
  have dl : dLen (.tup (es.map edD)) = some (.int (es.length : Nat)) := by rw [dLen_tup, List.length_map]
  generalize D.tup (es.map edD) = T1 at *
  generalize grD N es = G at *
  have hm : (es.length : Int) < 2 ^ 62 := by omega
  have hm3 : -(2 ^ 62) ≤ (es.length : Int) := by omega
  have s1 := dShl_one N (by omega)
  have sb : ((2 ^ N : Nat) : Int) - 1 = ((2 ^ N - 1 : Nat) : Int) := by
    have := Nat.two_pow_pos N; omega
  have an := dAnd_nat en (2 ^ N - 1)
  generalize decide (oddL N es (pks es.length p) = []) = od at *
  generalize en &&& (2 ^ N - 1) = en2 at *
  generalize 2 ^ N - 1 = P1 at *
  generalize 2 ^ N = P at *
  rw [show ((0 : Nat) : Int) = 0 from rfl] at e
  clear i3 i1 i2 I0 hes hl hN
  by_cases h1 : f = 1
  · have h1' : ((f : Int) == 1) = true := by rw [beq_iff_eq]; omega
    rw [decide_eq_true h1, Bool.true_and]
    clear h1
    cases od with
    | false =>
      refine ⟨.int m, .int f, .int en, y6, ?_⟩
      rw [if_neg (by simp)]
      unfold L2__law_least_flip
      walk_at "zh"
    | true =>
      by_cases h2 : b < 0
      · refine ⟨.int m, .int f, .int en, y6, ?_⟩
        rw [if_pos ⟨rfl, .inl h2⟩]
        unfold L2__law_least_flip
        walk_at "zh"
      · by_cases h3 : (m : Int) < b
        · refine ⟨.int m, .int f, .int en, y6, ?_⟩
          rw [if_pos ⟨rfl, .inr h3⟩]
          unfold L2__law_least_flip
          walk_at "zh"
        · refine ⟨.int m, .int f, .int en, y6, ?_⟩
          rw [if_neg (fun z => z.2.elim h2 h3)]
          unfold L2__law_least_flip
          walk_at "zh"
  · have h1' : ((f : Int) == 1) = false := by rw [beq_eq_false_iff_ne]; omega
    refine ⟨.int m, .int f, .int en, y6, ?_⟩
    rw [decide_eq_false h1, Bool.false_and, if_neg (fun z => nomatch z.1)]
    clear h1
    unfold L2__law_least_flip
    walk_at "zh"
/-- what trying all sets finds -/
def LfR (N : Nat) (es : List Ed) (K : Nat) (z : Int) : Prop := (z = -1 ∧ ∀ p, p < K → undet N es (pks es.length p) = false) ∨ ((∃ p, p < K ∧ undet N es (pks es.length p) = true ∧ z = ((pks es.length p).length : Int)) ∧ ∀ p, p < K → undet N es (pks es.length p) = true → z ≤ ((pks es.length p).length : Int))
theorem lfR_step {N : Nat} {es : List Ed} {K : Nat} {z : Int} (h : LfR N es K z) : LfR N es (K + 1) (bst N es z K) := by
  unfold bst
  by_cases c : undet N es (pks es.length K) = true ∧ (z < 0 ∨ ((pks es.length K).length : Int) < z)
  · rw [if_pos c]
    refine .inr ⟨⟨K, by omega, c.1, rfl⟩, fun p hp u => ?_⟩
    by_cases e : p = K
    · rw [e]; omega
    · rcases h with ⟨h1, h2⟩ | ⟨⟨q, hq, h2, h3⟩, h4⟩
      · rw [h2 p (by omega)] at u; cases u
      · have := h4 p (by omega) u
        rcases c.2 with c2 | c2 <;> omega
  · rw [if_neg c]
    rcases h with ⟨h1, h2⟩ | ⟨⟨q, hq, h2, h3⟩, h4⟩
    · refine .inl ⟨h1, fun p hp => ?_⟩
      by_cases e : p = K
      · subst e
        cases hu : undet N es (pks es.length p) with
        | false => rfl
        | true => exact absurd ⟨hu, .inl (by omega)⟩ c
      · exact h2 p (by omega)
    · refine .inr ⟨⟨q, by omega, h2, h3⟩, fun p hp u => ?_⟩
      by_cases e : p = K
      · subst e
        have : ¬ ((pks es.length p).length : Int) < z := fun w => c ⟨u, .inr w⟩
        omega
      · exact h4 p (by omega) u
theorem least_flip_ok (N : Nat) (hN : N ≤ 1000) (es : List Ed) (hes : ∀ e ∈ es, EdOk N e) (hl : es.length ≤ 40) :
    ∃ z : Int, r__law_least_flip [grD N es] = .ok (.int z) [grD N es] ∧ LfR N es (2 ^ es.length) z := by
  obtain ⟨ρ', e, ⟨y2, y3, y4, y5, y6, rfl⟩, hR⟩ := loop_range (g := dName 2) (b := L2__law_least_flip) (fun (b : Int) ρ => ∃ (y2 y3 y4 y5 y6 : D), ρ = [grD N es, .int b, y2, y3, y4, y5, y6]) (fun k b => LfR N es k b) (bst N es) (2 ^ es.length) (-1) [grD N es, .int (-1), .hole, .hole, .hole, .hole, .hole] ⟨_, _, _, _, _, rfl⟩ (.inl ⟨rfl, fun p hp => absurd hp (Nat.not_lt_zero p)⟩) (fun k b ρ hk ⟨y2, y3, y4, y5, y6, hρ⟩ hR => by
      obtain ⟨z3, z4, z5, z6, e⟩ := lf2_step N hN es hes (by omega) b k y3 y4 y5 y6
      exact ⟨[grD N es, .int b, .int k, y3, y4, y5, y6], _, by rw [hρ]; rfl, .inl e, ⟨_, _, _, _, _, rfl⟩, lfR_step hR⟩)
  refine ⟨_, ?_, hR⟩
  have g1 := get_gr1 N es
  have iG := hole_gr N es
  have dl : dLen (.tup (es.map edD)) = some (.int (es.length : Nat)) := by rw [dLen_tup, List.length_map]
  have iT : isHole (.tup (es.map edD)) = false := rfl
  have s1 := dShl_one es.length (by omega)
  have hp2 : 2 ^ es.length ≤ 2 ^ 40 := Nat.pow_le_pow_right (by decide) hl
  have hm : ((2 ^ es.length : Nat) : Int) < 2 ^ 62 := by
    have : (2 : Nat) ^ 40 < 2 ^ 62 := by decide
    omega
  have hm3 : -(2 ^ 62) ≤ ((2 ^ es.length : Nat) : Int) := Int.le_trans (by decide) (Int.natCast_nonneg _)
  generalize (List.range (2 ^ es.length)).foldl (bst N es) (-1) = z at *
  generalize D.tup (es.map edD) = T1 at *
  generalize grD N es = G at *
  clear hp2 hR hes
  generalize 2 ^ es.length = P at *
  unfold r__law_least_flip b__law_least_flip
  rw [fnR_e _ _ _ _ rfl]
  walk_at "zh"
/-- what hangs at a vertex by one edge -/
def nb1 (es : List Ed) (v k : Nat) : List (Nat × Nat) := if v = (eAt es k).2.1 then [((eAt es k).1, k)] else if v = (eAt es k).1 then [((eAt es k).2.1, k)] else []
/-- the links of a vertex -/
def nbrs (es : List Ed) (v : Nat) : List (Nat × Nat) := (List.range es.length).flatMap (nb1 es v)
/-- links: which lists are shared by now -/
def lkD (N : Nat) (es : List Ed) (o : Nat → Bool) : List D := tabD (N + 1) fun v => .lst (o v) ((nbrs es v).map prD)
theorem nb1_len (es : List Ed) (v k : Nat) : (nb1 es v k).length ≤ 1 := by unfold nb1; split <;> (try split) <;> simp
theorem nbrs_len (es : List Ed) (v : Nat) : (nbrs es v).length ≤ es.length := by
  unfold nbrs
  have : ∀ L : List Nat, (L.flatMap (nb1 es v)).length ≤ L.length := by
    intro L
    induction L with
    | nil => simp
    | cons k L ih =>
      rw [List.flatMap_cons, List.length_append, List.length_cons]
      have := nb1_len es v k; omega
  have := this (List.range es.length)
  rwa [List.length_range] at this
theorem mem_nbrs (es : List Ed) (v w k : Nat) : (w, k) ∈ nbrs es v ↔ k < es.length ∧ ((eAt es k).2.1 = v ∧ (eAt es k).1 = w ∨ (eAt es k).1 = v ∧ (eAt es k).2.1 ≠ v ∧ (eAt es k).2.1 = w) := by
  unfold nbrs
  rw [List.mem_flatMap]
  constructor
  · rintro ⟨j, hj, h⟩
    have hj := List.mem_range.mp hj
    unfold nb1 at h
    split at h
    · rename_i e
      have h := List.mem_singleton.mp h
      injection h with h1 h2
      subst h2
      exact ⟨hj, .inl ⟨e.symm, h1.symm⟩⟩
    · split at h
      · rename_i n e
        have h := List.mem_singleton.mp h
        injection h with h1 h2
        subst h2
        exact ⟨hj, .inr ⟨e.symm, fun z => n z.symm, h1.symm⟩⟩
      · cases h
  · rintro ⟨hk, h⟩
    refine ⟨k, List.mem_range.mpr hk, ?_⟩
    unfold nb1
    rcases h with ⟨e1, e2⟩ | ⟨e1, n, e2⟩
    · rw [if_pos e1.symm, e2]; simp
    · rw [if_neg (fun z => n z.symm), if_pos e1.symm, e2]; simp
theorem lk_step (N : Nat) (es : List Ed) (hes : ∀ e ∈ es, EdOk N e) (hle : es.length ≤ 1000) (k : Nat) (hk : k < es.length) (c : Nat → List (Nat × Nat)) (hc : ∀ v, (c v).length ≤ 1000) (T : D) (z : D) :
    L1_links_of [grD N es, .int N, T, .lst true (tabD (N + 1) fun v => .lst true ((c v).map prD)), z, .int k, .int (eAt es k).1, .int (eAt es k).2.1] = .ok .nx [grD N es, .int N, T, .lst true (tabD (N + 1) fun v => .lst true ((c v ++ nb1 es v k).map prD)), z, .int k, .int (eAt es k).1, .int (eAt es k).2.1] := by
  obtain ⟨h1, h2, h3⟩ := hes _ (eAt_mem es k hk)
  unfold nb1
  generalize eAt es k = e at *
  obtain ⟨a, b, f⟩ := e
  simp only at h1 h2 h3 ⊢
  have t1 := tabD_get true (N + 1) (fun v => .lst true ((c v).map prD)) a (by omega)
  have s1 := tabD_set (N + 1) (fun v => .lst true ((c v).map prD)) a (.lst true ((c a).map prD ++ [.tup [.int b, .int k]])) (by omega)
  have tl := tabD_len (N + 1) (fun v => .lst true ((c v).map prD))
  have t2 := tabD_get true (N + 1) (fun u => if u = a then .lst true ((c a).map prD ++ [.tup [.int b, .int k]]) else .lst true ((c u).map prD)) b (by omega)
  have tl2 := tabD_len (N + 1) (fun u => if u = a then .lst true ((c a).map prD ++ [.tup [.int b, .int k]]) else .lst true ((c u).map prD))
  have s2 := tabD_set (N + 1) (fun u => if u = a then .lst true ((c a).map prD ++ [.tup [.int b, .int k]]) else .lst true ((c u).map prD)) b (.lst true ((c b).map prD ++ [.tup [.int a, .int k]])) (by omega)
  rw [if_neg (show b ≠ a by omega)] at t2
  have fin : (fun u => if u = b then D.lst true ((c b).map prD ++ [.tup [.int a, .int k]]) else if u = a then .lst true ((c a).map prD ++ [.tup [.int b, .int k]]) else .lst true ((c u).map prD)) = fun v => .lst true ((c v ++ if v = b then [(a, k)] else if v = a then [(b, k)] else []).map prD) := by
    funext u
    by_cases e1 : u = b
    · rw [if_pos e1, if_pos e1, e1, List.map_append]; rfl
    · rw [if_neg e1, if_neg e1]
      by_cases e2 : u = a
      · rw [if_pos e2, if_pos e2, e2, List.map_append]; rfl
      · rw [if_neg e2, if_neg e2, List.append_nil]
  rw [fin] at s2
  clear fin
  have q1 : ((c a).map prD).length < 16777216 := by rw [List.length_map]; have := hc a; omega
  have q2 : ((c b).map prD).length < 16777216 := by rw [List.length_map]; have := hc b; omega
  generalize (c a).map prD = ca at *
  generalize (c b).map prD = cb at *
  have la : (a : Int) < ((tabD (N + 1) fun v => .lst true ((c v).map prD)).length : Nat) := by rw [tl]; omega
  generalize (tabD (N + 1) fun v => .lst true ((c v).map prD)) = M1 at *
  have lb : (b : Int) < ((tabD (N + 1) (fun u => if u = a then .lst true (ca ++ [.tup [.int b, .int k]]) else .lst true ((c u).map prD))).length : Nat) := by rw [tl2]; omega
  generalize (tabD (N + 1) (fun u => if u = a then D.lst true (ca ++ [.tup [.int b, .int k]]) else .lst true ((c u).map prD))) = M2 at *
  generalize (tabD (N + 1) fun v => D.lst true ((c v ++ if v = b then [(a, k)] else if v = a then [(b, k)] else []).map prD)) = M3 at *
  have p0 : (0 : Int) ≤ (a : Int) := by omega
  have p1 : (0 : Int) ≤ (b : Int) := by omega
  generalize grD N es = G at *
  unfold L1_links_of
  clear h1 h2 h3 hes tl tl2 hc
  walk_at "zh"
theorem links_ok (N : Nat) (hN : N ≤ 1000) (es : List Ed) (hle : es.length ≤ 1000) (hes : ∀ e ∈ es, EdOk N e) : r_links_of [grD N es] = .ok (.lst true (lkD N es fun _ => true)) [grD N es] := by
  obtain ⟨ρ', e, ⟨x4, x5, x6, x7, hρ⟩, _⟩ := loop_cnt (g := dTup 2 (dCons (dName 5) (dCons (dTup 3 (dCons (dName 6) (dCons (dName 7) (dCons (dName 4) dNil)))) dNil))) (b := L1_links_of)
    (fun k : Nat => .tup [.int (k : Int), edD (eAt es k)]) (fun (c : Nat → List (Nat × Nat)) ρ => ∃ x4 x5 x6 x7, ρ = [grD N es, .int N, .tup (es.map edD), .lst true (tabD (N + 1) fun v => .lst true ((c v).map prD)), x4, x5, x6, x7])
    (fun k c => ∀ v, (c v).length ≤ k) (fun c k v => c v ++ nb1 es v k) es.length (List.range es.length) 0 (fun _ => []) [grD N es, .int N, .tup (es.map edD), .lst true (tabD (N + 1) fun v => .lst true ([].map prD)), .hole, .hole, .hole, .hole]
    (by rw [List.length_range]; omega) ⟨_, _, _, _, rfl⟩ (fun v => by simp) (fun k hk j c ρ hj ⟨x4, x5, x6, x7, hx⟩ hp => by
      have hk := List.mem_range.mp hk
      refine ⟨[grD N es, .int N, .tup (es.map edD), .lst true (tabD (N + 1) fun v => .lst true ((c v).map prD)), .int (eAt es k).2.2, .int k, .int (eAt es k).1, .int (eAt es k).2.1], _, by rw [hx]; rfl, .inl (lk_step N es hes hle k hk c (fun v => by have := hp v; omega) _ _), ⟨_, _, _, _, rfl⟩, ?_⟩
      intro v
      rw [List.length_append]
      have := hp v; have := nb1_len es v k; omega)
  have fe : ((List.range es.length).foldl (fun (c : Nat → List (Nat × Nat)) k v => c v ++ nb1 es v k) fun _ => []) = fun v => nbrs es v := by
    funext v; rw [foldl_at]; rfl
  rw [fe] at hρ
  subst hρ
  rw [← enum_eds] at e
  have lc : loopC [4] (dName 4) mYes K1_links_of ((List.range (N + 1)).map fun q : Nat => .int (q : Int)) [] [grD N es, .int N, .tup (es.map edD), .hole, .hole, .hole, .hole, .hole] = .ok (tabD (N + 1) fun _ => .lst true []) [grD N es, .int N, .tup (es.map edD), .hole, .hole, .hole, .hole, .hole] :=
    lc_nat (i := 4) (K := K1_links_of) (fun _ => .lst true []) (List.range (N + 1)) (by rw [List.length_range]; omega) (by simp) rfl (fun q hq => by
      unfold K1_links_of
      generalize grD N es = G at *
      generalize D.tup (es.map edD) = T at *
      walk_at "zh")
  have nn : (N : Int) + 1 = ((N + 1 : Nat) : Int) := by omega
  have hN2 : ((N + 1 : Nat) : Int) < 2 ^ 62 := by omega
  have hN3 : -(2 ^ 62) ≤ ((N + 1 : Nat) : Int) := by omega
  have gG : grD N es = .tup [.int N, .tup (es.map edD)] := rfl
  have fz := frzL_edD es
  have sT : shr (.tup (es.map edD)) = true := shrL_edD es
  have iT : isHole (.tup (es.map edD)) = false := rfl
  have sG := shr_gr N es
  rw [show ([].map prD : List D) = [] from rfl] at e
  unfold lkD
  generalize (tabD (N + 1) fun v => D.lst true ((nbrs es v).map prD)) = LK at *
  generalize (tabD (N + 1) fun _ => D.lst true []) = L0 at *
  have ev : ∀ ρ, evK 2 (some (.tup (es.map edD))) ρ = .ok (enumD 0 (es.map edD), none) (ρ.set 2 (.tup (es.map edD))) := fun ρ => by rw [evK_tup, fz]
  generalize enumD 0 (es.map edD) = ED at *
  clear hes
  have dt : ∀ g ρ, dTup 2 g (grD N es) ρ = g [.int N, .tup (es.map edD)] ρ := fun _ _ => rfl
  generalize D.tup (es.map edD) = T at *
  generalize grD N es = G at *
  clear gG fz
  unfold r_links_of b_links_of
  rw [fnR_e _ _ _ _ rfl]
  walk_at "zh"
/-! walks over nodes with sides -/
abbrev XS := Nat × Nat
def fl2 (es : List Ed) (k : Nat) : Nat := (eAt es k).2.2
def St1 (es : List Ed) (x : XS) (k : Nat) (y : XS) : Prop := (y.1, k) ∈ nbrs es x.1 ∧ y.2 = x.2 ^^^ fl2 es k
def Wk (es : List Ed) : List Nat → XS → XS → Prop
  | [], x, y => x = y
  | k :: ks, x, y => ∃ z, St1 es x k z ∧ Wk es ks z y
theorem nbrs_sym {N : Nat} {es : List Ed} (hes : ∀ e ∈ es, EdOk N e) {v w k : Nat} (h : (w, k) ∈ nbrs es v) : (v, k) ∈ nbrs es w := by
  obtain ⟨hk, h⟩ := (mem_nbrs es v w k).mp h
  obtain ⟨h1, h2, _⟩ := hes _ (eAt_mem es k hk)
  refine (mem_nbrs es w v k).mpr ⟨hk, ?_⟩
  rcases h with ⟨a, b⟩ | ⟨a, b, c⟩
  · exact .inr ⟨b, by omega, a⟩
  · exact .inl ⟨c, a⟩
theorem xor_xor (a b : Nat) : (a ^^^ b) ^^^ b = a := by rw [Nat.xor_assoc, Nat.xor_self, Nat.xor_zero]
theorem St1.sym {N : Nat} {es : List Ed} (hes : ∀ e ∈ es, EdOk N e) {x y : XS} {k : Nat} (h : St1 es x k y) : St1 es y k x :=
  ⟨nbrs_sym hes h.1, by rw [h.2, xor_xor]⟩
theorem St1.sh {es : List Ed} {x y : XS} {k : Nat} (h : St1 es x k y) (d : Nat) : St1 es (x.1, x.2 ^^^ d) k (y.1, y.2 ^^^ d) :=
  ⟨h.1, by show y.2 ^^^ d = (x.2 ^^^ d) ^^^ fl2 es k; rw [h.2, Nat.xor_assoc, Nat.xor_assoc, Nat.xor_comm d]⟩
theorem xor_par (a b : Nat) : (a ^^^ b) % 2 = (a + b) % 2 := by
  have h := Nat.testBit_xor a b 0
  rw [Nat.testBit_zero, Nat.testBit_zero, Nat.testBit_zero] at h
  have ha : a % 2 = 0 ∨ a % 2 = 1 := by omega
  have hb : b % 2 = 0 ∨ b % 2 = 1 := by omega
  have hc : (a ^^^ b) % 2 = 0 ∨ (a ^^^ b) % 2 = 1 := by omega
  rcases ha with ha | ha <;> rcases hb with hb | hb <;> rcases hc with hc | hc <;> rw [ha, hb, hc] at h <;> first | omega | exact absurd h (by decide)
theorem Wk.sh {es : List Ed} (d : Nat) : ∀ {ks : List Nat} {x y : XS}, Wk es ks x y → Wk es ks (x.1, x.2 ^^^ d) (y.1, y.2 ^^^ d)
  | [], x, y, h => by
    have h : x = y := h
    subst h; exact rfl
  | k :: ks, x, y, ⟨z, h1, h2⟩ => ⟨_, h1.sh d, h2.sh d⟩
theorem Wk.snoc {es : List Ed} {k : Nat} : ∀ {ks : List Nat} {x y z : XS}, Wk es ks x y → St1 es y k z → Wk es (ks ++ [k]) x z
  | [], x, y, z, h, s => by
    have h : x = y := h
    subst h; exact ⟨z, s, rfl⟩
  | q :: ks, x, y, z, ⟨u, h1, h2⟩, s => ⟨u, h1, h2.snoc s⟩
theorem Wk.rev {N : Nat} {es : List Ed} (hes : ∀ e ∈ es, EdOk N e) : ∀ {ks : List Nat} {x y : XS}, Wk es ks x y → Wk es ks.reverse y x
  | [], x, y, h => by
    have h : x = y := h
    subst h; exact rfl
  | k :: ks, x, y, ⟨z, h1, h2⟩ => by
    rw [List.reverse_cons]
    exact (h2.rev hes).snoc (h1.sym hes)
theorem Wk.lt {es : List Ed} : ∀ {ks : List Nat} {x y : XS}, Wk es ks x y → ∀ k ∈ ks, k < es.length
  | [], _, _, _, _, hk => nomatch hk
  | q :: ks, x, y, ⟨z, h1, h2⟩, k, hk => by
    rcases List.mem_cons.mp hk with rfl | hk
    · exact ((mem_nbrs es _ _ _).mp h1.1).1
    · exact h2.lt k hk
theorem degE_cons (es : List Ed) (ks : List Nat) (k v : Nat) : degE es (k :: ks) v = degE es ks v + (if v = (eAt es k).1 then 1 else 0) + if v = (eAt es k).2.1 then 1 else 0 := by
  unfold degE
  rw [List.map_cons, List.map_cons, List.count_cons, List.count_cons]
  simp only [beq_iff_eq]
  by_cases h1 : (eAt es k).1 = v <;> by_cases h2 : (eAt es k).2.1 = v
  · rw [if_pos h1, if_pos h2, if_pos h1.symm, if_pos h2.symm]; omega
  · rw [if_pos h1, if_neg h2, if_pos h1.symm, if_neg (Ne.symm h2)]; omega
  · rw [if_neg h1, if_pos h2, if_neg (Ne.symm h1), if_pos h2.symm]; omega
  · rw [if_neg h1, if_neg h2, if_neg (Ne.symm h1), if_neg (Ne.symm h2)]; omega
theorem flipS_cons (es : List Ed) (ks : List Nat) (k : Nat) : flipS es (k :: ks) = fl2 es k + flipS es ks := by
  unfold flipS fl2
  rw [List.map_cons, List.sum_cons]
theorem degE_perm {es : List Ed} {ks ls : List Nat} (p : ks.Perm ls) (v : Nat) : degE es ks v = degE es ls v := by
  unfold degE
  rw [(p.map _).count_eq, (p.map _).count_eq]
theorem flipS_perm {es : List Ed} {ks ls : List Nat} (p : ks.Perm ls) : flipS es ks = flipS es ls := by
  unfold flipS
  exact (p.map _).sum_nat
/-- the ends of a walk are told by the parities, and its sides by the flips -/
theorem wk_par {N : Nat} {es : List Ed} (hes : ∀ e ∈ es, EdOk N e) (u : Nat) : ∀ {ks : List Nat} {x y : XS}, Wk es ks x y → (degE es ks u + (if u = x.1 then 1 else 0) + (if u = y.1 then 1 else 0)) % 2 = 0
  | [], x, y, h => by
    have h : x = y := h
    subst h
    have : degE es [] u = 0 := rfl
    rw [this]; split <;> omega
  | k :: ks, x, y, ⟨z, h1, h2⟩ => by
    have ih := wk_par hes u h2
    rw [degE_cons]
    obtain ⟨hk, h⟩ := (mem_nbrs es _ _ _).mp h1.1
    obtain ⟨e1, _, _⟩ := hes _ (eAt_mem es k hk)
    have key : (if u = (eAt es k).1 then 1 else 0) + (if u = (eAt es k).2.1 then 1 else 0) = (if u = x.1 then 1 else 0) + if u = z.1 then 1 else 0 := by
      rcases h with ⟨a, b⟩ | ⟨a, _, b⟩
      · rw [← a, ← b, Nat.add_comm]
      · rw [← a, ← b]
    omega
theorem wk_flip {N : Nat} {es : List Ed} (hes : ∀ e ∈ es, EdOk N e) : ∀ {ks : List Nat} {x y : XS}, Wk es ks x y → y.2 % 2 = (x.2 + flipS es ks) % 2
  | [], x, y, h => by
    have h : x = y := h
    subst h
    show x.2 % 2 = (x.2 + 0) % 2
    rw [Nat.add_zero]
  | k :: ks, x, y, ⟨z, h1, h2⟩ => by
    have ih := wk_flip hes h2
    have e2 := h1.2
    rw [flipS_cons]
    have : z.2 % 2 = (x.2 + fl2 es k) % 2 := by
      rw [e2]
      exact xor_par _ _
    omega
/-- a set of edges with two odd ends (or none) has a walk from end to end with its flip, or there is a closed odd walk, not longer -/
theorem walk_of {N : Nat} {es : List Ed} (hes : ∀ e ∈ es, EdOk N e) : ∀ (m : Nat) (ks : List Nat) (a b : Nat), ks.length = m → a ≤ N → b ≤ N → (∀ k ∈ ks, k < es.length) →
    (∀ u, u ≤ N → (degE es ks u + (if u = a then 1 else 0) + (if u = b then 1 else 0)) % 2 = 0) →
    (∃ w, Wk es w (a, 0) (b, flipS es ks % 2) ∧ w.length ≤ m) ∨ ∃ v w, v ≤ N ∧ Wk es w (v, 1) (v, 0) ∧ w.length ≤ m
  | 0, ks, a, b, hm, ha, hb, hk, hp => by
    have : ks = [] := List.eq_nil_of_length_eq_zero hm
    subst this
    have h := hp a ha
    have d0 : degE es [] a = 0 := rfl
    rw [d0, if_pos rfl] at h
    have : a = b := by
      by_cases e : a = b
      · exact e
      · rw [if_neg e] at h; omega
    subst this
    exact .inl ⟨[], rfl, Nat.le_refl _⟩
  | m + 1, ks, a, b, hm, ha, hb, hk, hp => by
    by_cases hab : a = b
    · subst hab
      by_cases hf : flipS es ks % 2 = 0
      · rw [hf]
        exact .inl ⟨[], rfl, Nat.zero_le _⟩
      · obtain ⟨k, ks', rfl⟩ : ∃ k ks', ks = k :: ks' := by
          cases ks with
          | nil => simp at hm
          | cons k ks' => exact ⟨k, ks', rfl⟩
        have hk0 := hk k (by simp)
        obtain ⟨e1, e2, e3⟩ := hes _ (eAt_mem es k hk0)
        rcases walk_of hes m ks' (eAt es k).2.1 (eAt es k).1 (by simpa using hm) e2 (by omega) (fun q hq => hk q (by simp [hq])) (fun u hu => by
          have := hp u hu
          rw [degE_cons] at this
          omega) with ⟨w, h1, h2⟩ | ⟨v, w, hv, h1, h2⟩
        · right
          refine ⟨(eAt es k).1, k :: w, by omega, ?_, by rw [List.length_cons]; omega⟩
          have st : St1 es ((eAt es k).1, 0) k ((eAt es k).2.1, 0 ^^^ fl2 es k) := ⟨(mem_nbrs es _ _ _).mpr ⟨hk0, .inr ⟨rfl, by show (eAt es k).2.1 ≠ (eAt es k).1; omega, rfl⟩⟩, rfl⟩
          rw [Nat.zero_xor] at st
          have h3 := h1.sh (fl2 es k)
          rw [show (((eAt es k).2.1, 0) : XS).2 ^^^ fl2 es k = fl2 es k from Nat.zero_xor _] at h3
          have h4 : Wk es (k :: w) ((eAt es k).1, 0) ((eAt es k).1, flipS es ks' % 2 ^^^ fl2 es k) := ⟨_, st, h3⟩
          have h5 := h4.sh 1
          rw [show (((eAt es k).1, 0) : XS).2 ^^^ 1 = 1 from Nat.zero_xor _] at h5
          have h6 : (flipS es ks' % 2 ^^^ fl2 es k) ^^^ 1 = 0 := by
            rw [flipS_cons] at hf
            have l3 : fl2 es k < 2 := e3
            have : flipS es ks' % 2 = 0 ∨ flipS es ks' % 2 = 1 := by omega
            have l4 : fl2 es k = 0 ∨ fl2 es k = 1 := by omega
            rcases this with q | q <;> rcases l4 with q2 | q2 <;> rw [q, q2] <;> first | rfl | omega
          have h7 : ((eAt es k).1, (flipS es ks' % 2 ^^^ fl2 es k) ^^^ 1) = ((eAt es k).1, 0) := by rw [h6]
          rw [← h7]
          exact h5
        · exact .inr ⟨v, w, hv, h1, by omega⟩
    · -- an edge at a
      have da := hp a ha
      rw [if_pos rfl, if_neg hab] at da
      obtain ⟨k, hkm, hinc⟩ : ∃ k ∈ ks, (eAt es k).1 = a ∨ (eAt es k).2.1 = a := by
        apply Classical.byContradiction
        intro hn
        have z : degE es ks a = 0 := by
          unfold degE
          rw [List.count_eq_zero.mpr, List.count_eq_zero.mpr]
          · intro hm2
            obtain ⟨k, hk1, hk2⟩ := List.mem_map.mp hm2
            exact hn ⟨k, hk1, .inr hk2⟩
          · intro hm2
            obtain ⟨k, hk1, hk2⟩ := List.mem_map.mp hm2
            exact hn ⟨k, hk1, .inl hk2⟩
        omega
      have hk0 := hk k hkm
      obtain ⟨e1, e2, e3⟩ := hes _ (eAt_mem es k hk0)
      have pm := List.perm_cons_erase hkm
      have hlen : (ks.erase k).length = m := by
        have := pm.length_eq
        rw [List.length_cons] at this; omega
      obtain ⟨c, hc, hst, hpc⟩ : ∃ c, c ≤ N ∧ (c, k) ∈ nbrs es a ∧ ∀ u, (if u = (eAt es k).1 then 1 else 0) + (if u = (eAt es k).2.1 then 1 else 0) = (if u = a then 1 else 0) + if u = c then 1 else 0 := by
        rcases hinc with h | h
        · exact ⟨(eAt es k).2.1, e2, (mem_nbrs es _ _ _).mpr ⟨hk0, .inr ⟨h, by omega, rfl⟩⟩, fun u => by rw [h]⟩
        · exact ⟨(eAt es k).1, by omega, (mem_nbrs es _ _ _).mpr ⟨hk0, .inl ⟨h, rfl⟩⟩, fun u => by rw [h, Nat.add_comm]⟩
      have fe : flipS es ks = fl2 es k + flipS es (ks.erase k) := by rw [flipS_perm pm, flipS_cons]
      rcases walk_of hes m (ks.erase k) c b hlen hc hb (fun q hq => hk q (List.mem_of_mem_erase hq)) (fun u hu => by
        have h1 := hp u hu
        rw [degE_perm pm, degE_cons] at h1
        have h2 := hpc u
        omega) with ⟨w, h1, h2⟩ | ⟨v, w, hv, h1, h2⟩
      · left
        refine ⟨k :: w, ⟨(c, fl2 es k), ⟨hst, by show fl2 es k = 0 ^^^ fl2 es k; rw [Nat.zero_xor]⟩, ?_⟩, by rw [List.length_cons]; omega⟩
        have h3 := h1.sh (fl2 es k)
        rw [show ((c, 0) : XS).2 ^^^ fl2 es k = fl2 es k from Nat.zero_xor _] at h3
        have h6 : (flipS es (ks.erase k) % 2) ^^^ fl2 es k = flipS es ks % 2 := by
          rw [fe]
          have l3 : fl2 es k < 2 := e3
          have : flipS es (ks.erase k) % 2 = 0 ∨ flipS es (ks.erase k) % 2 = 1 := by omega
          have l4 : fl2 es k = 0 ∨ fl2 es k = 1 := by omega
          rcases this with q | q <;> rcases l4 with q2 | q2 <;> rw [q, q2]
          · show 0 = _; omega
          · show 1 = _; omega
          · show 1 = _; omega
          · show 0 = _; omega
        rw [← h6]
        exact h3
      · exact .inr ⟨v, w, hv, h1, by omega⟩
/-! the odd part of a walk, and the least flip -/
theorem sum_ind (n a : Nat) (f : Nat → Nat) : ((List.range n).map fun u => f u + if u = a then 1 else 0).sum = ((List.range n).map f).sum + if a < n then 1 else 0 := by
  induction n with
  | zero => simp
  | succ n ih =>
    rw [List.range_succ, List.map_append, List.map_append, List.sum_append, List.sum_append, ih]
    simp only [List.map_cons, List.map_nil, List.sum_cons, List.sum_nil]
    by_cases h : n = a
    · rw [if_pos h, if_neg (by omega), if_pos (by omega)]; omega
    · rw [if_neg h]
      by_cases h2 : a < n
      · rw [if_pos h2, if_pos (by omega)]; omega
      · rw [if_neg h2, if_neg (by omega)]; omega
theorem deg_total {N : Nat} {es : List Ed} (hes : ∀ e ∈ es, EdOk N e) : ∀ ks : List Nat, (∀ k ∈ ks, k < es.length) → ((List.range (N + 1)).map (degE es ks)).sum = 2 * ks.length
  | [], _ => by
    have : (List.range (N + 1)).map (degE es []) = (List.range (N + 1)).map fun _ => 0 := rfl
    rw [this, List.map_const', List.sum_replicate_nat]; simp
  | k :: ks, hk => by
    have ih := deg_total hes ks fun q hq => hk q (by simp [hq])
    obtain ⟨e1, e2, _⟩ := hes _ (eAt_mem es k (hk k (by simp)))
    have h : (List.range (N + 1)).map (degE es (k :: ks)) = (List.range (N + 1)).map fun v => (degE es ks v + if v = (eAt es k).1 then 1 else 0) + if v = (eAt es k).2.1 then 1 else 0 := by
      apply List.map_congr_left
      intro v _
      rw [degE_cons]
    rw [h, sum_ind, sum_ind, ih, if_pos (by omega), if_pos (by omega), List.length_cons]
    omega
theorem even_sum : ∀ (n : Nat) (f : Nat → Nat), (∀ u, u < n → f u % 2 = 0) → ((List.range n).map f).sum % 2 = 0
  | 0, _, _ => rfl
  | n + 1, f, h => by
    rw [List.range_succ, List.map_append, List.sum_append]
    simp only [List.map_cons, List.map_nil, List.sum_cons, List.sum_nil]
    have := even_sum n f fun u hu => h u (by omega)
    have := h n (by omega)
    omega
theorem undet_even {N : Nat} {es : List Ed} (hes : ∀ e ∈ es, EdOk N e) {ks : List Nat} (hk : ∀ k ∈ ks, k < es.length) (h : undet N es ks = true) : flipS es ks % 2 = 1 ∧ ∀ u, u ≤ N → degE es ks u % 2 = 0 := by
  unfold undet at h
  rw [Bool.and_eq_true, decide_eq_true_eq, decide_eq_true_eq] at h
  have lo : ∀ u, u < N → degE es ks u % 2 = 0 := fun u hu => by
    have h2 := h.2
    unfold oddL at h2
    rw [List.filter_eq_nil_iff] at h2
    have := h2 u (List.mem_range.mpr hu)
    rw [decide_eq_true_eq] at this
    omega
  refine ⟨h.1, fun u hu => ?_⟩
  by_cases e : u < N
  · exact lo u e
  · have : u = N := by omega
    subst this
    have t := deg_total hes ks hk
    rw [List.range_succ, List.map_append, List.sum_append] at t
    simp only [List.map_cons, List.map_nil, List.sum_cons, List.sum_nil] at t
    have := even_sum u (degE es ks) lo
    omega
theorem undet_of {N : Nat} {es : List Ed} {ks : List Nat} (h : flipS es ks % 2 = 1) (h2 : ∀ u, u ≤ N → degE es ks u % 2 = 0) : undet N es ks = true := by
  unfold undet
  rw [Bool.and_eq_true, decide_eq_true_eq, decide_eq_true_eq]
  refine ⟨h, ?_⟩
  unfold oddL
  rw [List.filter_eq_nil_iff]
  intro u hu
  rw [decide_eq_true_eq]
  have := h2 u (Nat.le_of_lt (List.mem_range.mp hu))
  omega
def oddO (m : Nat) (ks : List Nat) : List Nat := (List.range m).filter fun j => decide (ks.count j % 2 = 1)
theorem sum_count (m : Nat) (g : Nat → Nat) : ∀ ks : List Nat, (∀ k ∈ ks, k < m) → (ks.map g).sum = ((List.range m).map fun j => ks.count j * g j).sum
  | [], _ => by
    have : ((List.range m).map fun j => ([] : List Nat).count j * g j) = (List.range m).map fun _ => 0 := by
      apply List.map_congr_left
      intro j _
      rw [List.count_nil, Nat.zero_mul]
    rw [this, List.map_const', List.sum_replicate_nat]; simp
  | k :: ks, hk => by
    have ih := sum_count m g ks fun q hq => hk q (by simp [hq])
    have key : ∀ n : Nat, ((List.range n).map fun j => (k :: ks).count j * g j).sum = ((List.range n).map fun j => ks.count j * g j).sum + if k < n then g k else 0 := by
      intro n
      induction n with
      | zero => simp
      | succ n ihn =>
        rw [List.range_succ, List.map_append, List.map_append, List.sum_append, List.sum_append, ihn]
        simp only [List.map_cons, List.map_nil, List.sum_cons, List.sum_nil, List.count_cons, beq_iff_eq]
        by_cases h : k = n
        · subst h
          rw [if_pos rfl, if_neg (by omega), if_pos (by omega), Nat.succ_mul]; omega
        · simp only [if_neg h, Nat.add_zero]
          by_cases h2 : k < n
          · rw [if_pos h2, if_pos (by omega)]; omega
          · rw [if_neg h2, if_neg (by omega)]; omega
    rw [List.map_cons, List.sum_cons, ih, key, if_pos (hk k (by simp))]
    omega
theorem sum_odd (c g : Nat → Nat) : ∀ L : List Nat, ((L.filter fun j => decide (c j % 2 = 1)).map g).sum % 2 = (L.map fun j => c j * g j).sum % 2
  | [] => rfl
  | j :: L => by
    have ih := sum_odd c g L
    rw [List.map_cons, List.sum_cons]
    by_cases h : c j % 2 = 1
    · rw [List.filter_cons_of_pos (by simpa using h), List.map_cons, List.sum_cons]
      have : c j * g j % 2 = g j % 2 := by rw [Nat.mul_mod, h, Nat.one_mul, Nat.mod_mod]
      omega
    · rw [List.filter_cons_of_neg (by simpa using h)]
      have h0 : c j % 2 = 0 := by omega
      have : c j * g j % 2 = 0 := by rw [Nat.mul_mod, h0, Nat.zero_mul]
      omega
theorem odd_sum (m : Nat) (g : Nat → Nat) (ks : List Nat) (hk : ∀ k ∈ ks, k < m) : ((oddO m ks).map g).sum % 2 = (ks.map g).sum % 2 := by
  unfold oddO
  rw [sum_odd (fun j => ks.count j) g, sum_count m g ks hk]
theorem degE_sum (es : List Ed) (v : Nat) : ∀ ks : List Nat, degE es ks v = (ks.map fun k => (if v = (eAt es k).1 then 1 else 0) + if v = (eAt es k).2.1 then 1 else 0).sum
  | [] => rfl
  | k :: ks => by rw [degE_cons, List.map_cons, List.sum_cons, degE_sum es v ks]; omega
theorem oddO_le (m : Nat) (ks : List Nat) : (oddO m ks).length ≤ ks.length := by
  apply List.Nodup.length_le_of_subset
  · exact List.Pairwise.filter _ List.nodup_range
  · intro j hj
    have := (List.mem_filter.mp hj).2
    rw [decide_eq_true_eq] at this
    exact List.count_pos_iff.mp (by omega)
theorem odd_undet {N : Nat} {es : List Ed} (hes : ∀ e ∈ es, EdOk N e) {ks : List Nat} {v : Nat} (h : Wk es ks (v, 1) (v, 0)) : undet N es (oddO es.length ks) = true := by
  have lt := h.lt
  refine undet_of ?_ fun u _ => ?_
  · have e := wk_flip hes h
    have : flipS es (oddO es.length ks) % 2 = flipS es ks % 2 := odd_sum es.length (fun k => (eAt es k).2.2) ks lt
    rw [this]
    change 0 % 2 = (1 + flipS es ks) % 2 at e
    omega
  · have e := wk_par hes u h
    rw [degE_sum, odd_sum es.length _ ks lt, ← degE_sum]
    change (degE es ks u + (if u = v then 1 else 0) + (if u = v then 1 else 0)) % 2 = 0 at e
    omega
def mskP (N : Nat) (p : Nat → Bool) : Nat := xorL ((List.range N).filter p) 0
theorem mskP_bit (N : Nat) (p : Nat → Bool) (v : Nat) : (mskP N p).testBit v = (decide (v < N) && p v) := by
  unfold mskP
  rw [xorL_bit _ (List.Pairwise.filter _ List.nodup_range), Bool.eq_iff_iff, decide_eq_true_eq, List.mem_filter, List.mem_range, Bool.and_eq_true, decide_eq_true_eq]
/-- without odd nodes an even number of edges leaves -/
theorem oddO_pks (m : Nat) (ks : List Nat) : ∃ p, p < 2 ^ m ∧ pks m p = oddO m ks := by
  refine ⟨mskP m fun j => decide (ks.count j % 2 = 1), ?_, ?_⟩
  · apply Nat.lt_pow_two_of_testBit
    intro i hi
    rw [mskP_bit, decide_eq_false (by omega)]; rfl
  · unfold pks oddO
    apply List.filter_congr
    intro j hj
    rw [mskP_bit, decide_eq_true (List.mem_range.mp hj), Bool.true_and]
theorem pks_lt {m p k : Nat} (h : k ∈ pks m p) : k < m := List.mem_range.mp (List.mem_filter.mp h).1
theorem undet_walk {N : Nat} {es : List Ed} (hes : ∀ e ∈ es, EdOk N e) {ks : List Nat} (hk : ∀ k ∈ ks, k < es.length) (h : undet N es ks = true) : ∃ v w, v ≤ N ∧ Wk es w (v, 1) (v, 0) ∧ w.length ≤ ks.length := by
  obtain ⟨h1, h2⟩ := undet_even hes hk h
  rcases walk_of hes ks.length ks N N rfl (Nat.le_refl _) (Nat.le_refl _) hk (fun u hu => by have := h2 u hu; omega) with ⟨w, h3, h4⟩ | h3
  · rw [h1] at h3
    have h5 := h3.sh 1
    rw [show ((N, 0) : XS).2 ^^^ 1 = 1 from Nat.zero_xor _, show ((N, 1) : XS).2 ^^^ 1 = 0 from Nat.xor_self _] at h5
    exact ⟨N, w, Nat.le_refl _, h5, h4⟩
  · exact h3
theorem plain_none {N : Nat} {es : List Ed} (hes : ∀ e ∈ es, EdOk N e) (hn : ∀ v w, v ≤ N → ¬ Wk es w (v, 1) (v, 0)) {z : Int} (hz : LfR N es (2 ^ es.length) z) : z = -1 := by
  rcases hz with ⟨h, _⟩ | ⟨⟨p, _, hu, _⟩, _⟩
  · exact h
  · obtain ⟨v, w, hv, hw, _⟩ := undet_walk hes (fun k hk => pks_lt hk) hu
    exact absurd hw (hn v w hv)
theorem plain_some {N : Nat} {es : List Ed} (hes : ∀ e ∈ es, EdOk N e) {b : List Nat} {v : Nat} (hb : Wk es b (v, 1) (v, 0)) (hmin : ∀ v w, v ≤ N → Wk es w (v, 1) (v, 0) → b.length ≤ w.length) {z : Int} (hz : LfR N es (2 ^ es.length) z) : z = ((oddO es.length b).length : Int) := by
  have hu := odd_undet hes hb
  obtain ⟨p, hp, ep⟩ := oddO_pks es.length b
  have hl := oddO_le es.length b
  rw [← ep] at hu hl ⊢
  rcases hz with ⟨_, h⟩ | ⟨⟨q, hq, hq2, hq3⟩, h⟩
  · rw [h p hp] at hu; cases hu
  · have h1 := h p hp hu
    obtain ⟨v2, w, hv2, hw, hw2⟩ := undet_walk hes (fun k hk => pks_lt hk) hq2
    have h2 := hmin v2 w hv2 hw
    omega
/-! breadth first over nodes with sides, with back pointers -/
structure En where
  key : XS
  ptr : Option (XS × Nat)
  lev : Nat
def Rc (es : List Ed) (st : Nat) : Nat → XS → Prop
  | 0, y => y = (st, 0)
  | j + 1, y => ∃ x k, Rc es st j x ∧ St1 es x k y
theorem rc_wk {N : Nat} {es : List Ed} (hes : ∀ e ∈ es, EdOk N e) {st : Nat} : ∀ {ks : List Nat} {y : XS}, Wk es ks y (st, 0) → Rc es st ks.length y
  | [], y, h => h
  | k :: ks, y, ⟨z, h1, h2⟩ => ⟨z, k, rc_wk hes h2, h1.sym hes⟩
abbrev BS := List En × List XS
def nxt (es : List Ed) (u : XS) (p : Nat × Nat) : XS := (p.1, u.2 ^^^ fl2 es p.2)
def inB (B : List En) (x : XS) : Bool := B.any fun b => decide (b.key = x)
def bst1 (es : List Ed) (d : Nat) (s : BS) (q : XS × Nat × Nat) : BS := if inB s.1 (nxt es q.1 q.2) = true then s else (s.1 ++ [⟨nxt es q.1 q.2, some (q.1, q.2.2), d + 1⟩], s.2 ++ [nxt es q.1 q.2])
def lnk (es : List Ed) (u : XS) : List (XS × Nat × Nat) := (nbrs es u.1).map fun p => (u, p)
def blvl (es : List Ed) (d : Nat) (B : List En) (r : List XS) : BS := r.foldl (fun s u => (lnk es u).foldl (bst1 es d) s) (B, [])
theorem inB_iff {B : List En} {x : XS} : inB B x = true ↔ ∃ b ∈ B, b.key = x := by
  unfold inB
  rw [List.any_eq_true]
  exact ⟨fun ⟨b, h, e⟩ => ⟨b, h, of_decide_eq_true e⟩, fun ⟨b, h, e⟩ => ⟨b, h, decide_eq_true e⟩⟩
structure LI2 (es : List Ed) (d : Nat) (B : List En) (pre : List (XS × Nat × Nat)) (s : BS) : Prop where
  a : ∃ E : List En, s.1 = B ++ E ∧ s.2 = E.map (·.key) ∧ ∀ e ∈ E, e.lev = d + 1 ∧ ∃ q ∈ pre, e.ptr = some (q.1, q.2.2) ∧ e.key = nxt es q.1 q.2
  k : (s.1.map (·.key)).Nodup
  c : ∀ q ∈ pre, ∃ b ∈ s.1, b.key = nxt es q.1 q.2
theorem li2_step {es : List Ed} {d : Nat} {B : List En} {pre : List (XS × Nat × Nat)} {s : BS} (h : LI2 es d B pre s) (q : XS × Nat × Nat) : LI2 es d B (pre ++ [q]) (bst1 es d s q) := by
  obtain ⟨⟨E, e1, e2, e3⟩, hk, hc⟩ := h
  unfold bst1
  by_cases hi : inB s.1 (nxt es q.1 q.2) = true
  · rw [if_pos hi]
    refine ⟨⟨E, e1, e2, fun e he => ?_⟩, hk, fun x hx => ?_⟩
    · obtain ⟨l, y, hy, z⟩ := e3 e he
      exact ⟨l, y, List.mem_append_left _ hy, z⟩
    · rcases List.mem_append.mp hx with hx | hx
      · exact hc x hx
      · rw [List.mem_singleton.mp hx]; exact inB_iff.mp hi
  · rw [if_neg hi]
    refine ⟨⟨E ++ [⟨nxt es q.1 q.2, some (q.1, q.2.2), d + 1⟩], by rw [e1, List.append_assoc], by rw [e2, List.map_append]; rfl, fun e he => ?_⟩, ?_, fun x hx => ?_⟩
    · rcases List.mem_append.mp he with he | he
      · obtain ⟨l, y, hy, z⟩ := e3 e he
        exact ⟨l, y, List.mem_append_left _ hy, z⟩
      · rw [List.mem_singleton.mp he]
        exact ⟨rfl, q, List.mem_append_right _ (by simp), rfl, rfl⟩
    · show (List.map (·.key) (s.1 ++ [_])).Nodup
      rw [List.map_append, List.nodup_append]
      refine ⟨hk, by simp, fun x hx y hy e => ?_⟩
      rw [List.map_cons, List.map_nil, List.mem_singleton] at hy
      obtain ⟨b, hb, hbx⟩ := List.mem_map.mp hx
      exact hi (inB_iff.mpr ⟨b, hb, by rw [hbx, e, hy]⟩)
    · rcases List.mem_append.mp hx with hx | hx
      · obtain ⟨b, hb, z⟩ := hc x hx
        exact ⟨b, List.mem_append_left _ hb, z⟩
      · rw [List.mem_singleton.mp hx]
        exact ⟨_, List.mem_append_right _ (List.mem_singleton.mpr rfl), rfl⟩
theorem li2_fold {es : List Ed} {d : Nat} {B : List En} : ∀ (L pre : List (XS × Nat × Nat)) (s : BS), LI2 es d B pre s → LI2 es d B (pre ++ L) (L.foldl (bst1 es d) s)
  | [], pre, s, h => by rw [List.append_nil]; exact h
  | q :: L, pre, s, h => by
    have := li2_fold L (pre ++ [q]) _ (li2_step h q)
    rwa [List.append_assoc] at this
theorem foldl_flat {α β γ : Type} (g : α → List β) (f : γ → β → γ) : ∀ (L : List α) (s : γ), L.foldl (fun s u => (g u).foldl f s) s = (L.flatMap g).foldl f s
  | [], s => rfl
  | u :: L, s => by rw [List.foldl_cons, foldl_flat g f L, List.flatMap_cons, List.foldl_append]
theorem blvl_li (es : List Ed) (d : Nat) (B : List En) (r : List XS) (h : (B.map (·.key)).Nodup) : LI2 es d B (r.flatMap (lnk es)) (blvl es d B r) := by
  unfold blvl
  rw [foldl_flat]
  have h0 : LI2 es d B [] (B, []) := ⟨⟨[], by rw [List.append_nil], rfl, fun e he => nomatch he⟩, h, fun q hq => nomatch hq⟩
  have := li2_fold (r.flatMap (lnk es)) [] (B, []) h0
  rwa [List.nil_append] at this
structure BI (N : Nat) (es : List Ed) (st d : Nat) (B : List En) (r : List XS) : Prop where
  K : (B.map (·.key)).Nodup
  R : ∀ b ∈ B, b.key.1 ≤ N ∧ b.key.2 < 2
  L : ∀ b ∈ B, b.lev ≤ d
  P : ∀ b ∈ B, (b.ptr = none ∧ b.key = (st, 0) ∧ b.lev = 0) ∨ ∃ x k c, b.ptr = some (x, k) ∧ St1 es x k b.key ∧ c ∈ B ∧ c.key = x ∧ c.lev + 1 = b.lev
  F : ∀ x, x ∈ r ↔ ∃ b ∈ B, b.key = x ∧ b.lev = d
  S : ∀ j y, j ≤ d → Rc es st j y → ∃ b ∈ B, b.key = y ∧ b.lev ≤ j
  C : ∀ b ∈ B, b.lev < d → ∀ k y, St1 es b.key k y → ∃ b' ∈ B, b'.key = y
theorem key_inj {B : List En} (h : (B.map (·.key)).Nodup) {a b : En} (ha : a ∈ B) (hb : b ∈ B) (e : a.key = b.key) : a = b := by
  induction B with
  | nil => cases ha
  | cons x B ih =>
    rw [List.map_cons] at h
    obtain ⟨h1, h2⟩ := List.nodup_cons.mp h
    rcases List.mem_cons.mp ha with u | u <;> rcases List.mem_cons.mp hb with v | v
    · rw [u, v]
    · exact absurd (List.mem_map.mpr ⟨b, v, by rw [← e, u]⟩) h1
    · exact absurd (List.mem_map.mpr ⟨a, u, by rw [e, v]⟩) h1
    · exact ih h2 u v
theorem mem_lnk {es : List Ed} {r : List XS} {q : XS × Nat × Nat} : q ∈ r.flatMap (lnk es) ↔ q.1 ∈ r ∧ St1 es q.1 q.2.2 (nxt es q.1 q.2) := by
  rw [List.mem_flatMap]
  constructor
  · rintro ⟨u, hu, hq⟩
    unfold lnk at hq
    obtain ⟨p, hp, rfl⟩ := List.mem_map.mp hq
    exact ⟨hu, hp, rfl⟩
  · rintro ⟨h1, h2, _⟩
    obtain ⟨u, w, k⟩ := q
    exact ⟨u, h1, List.mem_map.mpr ⟨(w, k), h2, rfl⟩⟩
theorem nxt_ok {N : Nat} {es : List Ed} (hes : ∀ e ∈ es, EdOk N e) {x y : XS} {k : Nat} (h : St1 es x k y) (hx : x.2 < 2) : y.1 ≤ N ∧ y.2 < 2 := by
  obtain ⟨h1, h2⟩ := h
  obtain ⟨hk, h⟩ := (mem_nbrs es _ _ _).mp h1
  obtain ⟨e1, e2, e3⟩ := hes _ (eAt_mem es k hk)
  refine ⟨by rcases h with ⟨_, e⟩ | ⟨_, _, e⟩ <;> omega, ?_⟩
  rw [h2]
  exact Nat.xor_lt_two_pow (n := 1) hx e3
theorem bi_next {N : Nat} {es : List Ed} (hes : ∀ e ∈ es, EdOk N e) {st d : Nat} {B : List En} {r : List XS} (h : BI N es st d B r) : BI N es st (d + 1) (blvl es d B r).1 (blvl es d B r).2 ∧ (blvl es d B r).1.length = B.length + (blvl es d B r).2.length := by
  obtain ⟨⟨E, e1, e2, e3⟩, hk, hc⟩ := blvl_li es d B r h.K
  generalize (blvl es d B r).2 = r' at *
  generalize (blvl es d B r).1 = B' at *
  subst e1
  have sub : ∀ {b}, b ∈ B → b ∈ B ++ E := fun hb => List.mem_append_left _ hb
  -- where new ones come from
  have new : ∀ e ∈ E, e.lev = d + 1 ∧ ∃ x k c, e.ptr = some (x, k) ∧ St1 es x k e.key ∧ c ∈ B ∧ c.key = x ∧ c.lev = d := fun e he => by
    obtain ⟨l, q, hq, p1, p2⟩ := e3 e he
    obtain ⟨q1, q2⟩ := mem_lnk.mp hq
    obtain ⟨c, hc1, hc2, hc3⟩ := (h.F _).mp q1
    exact ⟨l, q.1, q.2.2, c, p1, p2 ▸ q2, hc1, hc2, hc3⟩
  have reach : ∀ b ∈ B, b.lev = d → ∀ k y, St1 es b.key k y → ∃ b' ∈ B ++ E, b'.key = y := fun b hb hl k y hs => by
    have hr : b.key ∈ r := (h.F _).mpr ⟨b, hb, rfl, hl⟩
    have hy : y = nxt es b.key (y.1, k) := Prod.ext rfl hs.2
    obtain ⟨b', hb', e⟩ := hc (b.key, y.1, k) (mem_lnk.mpr ⟨hr, hy ▸ hs⟩)
    exact ⟨b', hb', by rw [e]; exact hy.symm⟩
  refine ⟨⟨hk, fun b hb => ?_, fun b hb => ?_, fun b hb => ?_, fun x => ?_, fun j y hj hy => ?_, fun b hb hl k y hs => ?_⟩, by rw [List.length_append, e2, List.length_map]⟩
  · rcases List.mem_append.mp hb with hb | hb
    · exact h.R b hb
    · obtain ⟨_, x, k, c, _, s1, hc1, rfl, _⟩ := new b hb
      exact nxt_ok hes s1 (h.R c hc1).2
  · rcases List.mem_append.mp hb with hb | hb
    · have := h.L b hb; omega
    · rw [(new b hb).1]; exact Nat.le_refl _
  · rcases List.mem_append.mp hb with hb | hb
    · rcases h.P b hb with z | ⟨x, k, c, z1, z2, z3, z4, z5⟩
      · exact .inl z
      · exact .inr ⟨x, k, c, z1, z2, sub z3, z4, z5⟩
    · obtain ⟨l, x, k, c, z1, z2, z3, z4, z5⟩ := new b hb
      exact .inr ⟨x, k, c, z1, z2, sub z3, z4, by omega⟩
  · rw [e2, List.mem_map]
    constructor
    · rintro ⟨e, he, rfl⟩
      exact ⟨e, List.mem_append_right _ he, rfl, (new e he).1⟩
    · rintro ⟨b, hb, rfl, hl⟩
      rcases List.mem_append.mp hb with hb | hb
      · have := h.L b hb; omega
      · exact ⟨b, hb, rfl⟩
  · by_cases e : j ≤ d
    · obtain ⟨b, hb, z1, z2⟩ := h.S j y e hy
      exact ⟨b, sub hb, z1, z2⟩
    · have ej : j = d + 1 := by omega
      subst ej
      obtain ⟨x, k, hx, hs⟩ := hy
      obtain ⟨b, hb, rfl, z2⟩ := h.S d x (Nat.le_refl d) hx
      have fin : ∀ b' ∈ B ++ E, b'.lev ≤ d + 1 := fun b' hb' => by
        rcases List.mem_append.mp hb' with hb' | hb'
        · have := h.L b' hb'; omega
        · rw [(new b' hb').1]; exact Nat.le_refl _
      by_cases e2 : b.lev = d
      · obtain ⟨b', hb', z⟩ := reach b hb e2 k y hs
        exact ⟨b', hb', z, fin b' hb'⟩
      · obtain ⟨b', hb', z⟩ := h.C b hb (by omega) k y hs
        exact ⟨b', sub hb', z, fin b' (sub hb')⟩
  · rcases List.mem_append.mp hb with hb | hb
    · by_cases e : b.lev = d
      · exact reach b hb e k y hs
      · obtain ⟨b', hb', z⟩ := h.C b hb (by have := h.L b hb; omega) k y hs
        exact ⟨b', sub hb', z⟩
    · have := (new b hb).1; omega
theorem bi_zero (N : Nat) (es : List Ed) (st : Nat) (hs : st ≤ N) : BI N es st 0 [⟨(st, 0), none, 0⟩] [(st, 0)] := by
  refine ⟨by simp, fun b hb => ?_, fun b hb => ?_, fun b hb => ?_, fun x => ?_, fun j y hj hy => ?_, fun b hb hl => absurd hl (Nat.not_lt_zero _)⟩
  · rw [List.mem_singleton.mp hb]; exact ⟨hs, by show 0 < 2; omega⟩
  · rw [List.mem_singleton.mp hb]; exact Nat.le_refl _
  · rw [List.mem_singleton.mp hb]; exact .inl ⟨rfl, rfl, rfl⟩
  · rw [List.mem_singleton]
    constructor
    · rintro rfl; exact ⟨_, List.mem_singleton.mpr rfl, rfl, rfl⟩
    · rintro ⟨b, hb, rfl, _⟩; rw [List.mem_singleton.mp hb]
  · have : j = 0 := by omega
    subst this
    have hy : y = (st, 0) := hy
    exact ⟨_, List.mem_singleton.mpr rfl, hy.symm, Nat.le_refl _⟩
theorem bi_len {N : Nat} {es : List Ed} {st d : Nat} {B : List En} {r : List XS} (h : BI N es st d B r) : B.length ≤ 2 * (N + 1) := by
  have : (B.map (·.key)).length ≤ ((List.range (N + 1)).flatMap fun v => [(v, 0), (v, 1)]).length := by
    apply List.Nodup.length_le_of_subset h.K
    intro x hx
    obtain ⟨b, hb, rfl⟩ := List.mem_map.mp hx
    obtain ⟨h1, h2⟩ := h.R b hb
    refine List.mem_flatMap.mpr ⟨b.key.1, List.mem_range.mpr (by omega), ?_⟩
    have : b.key.2 = 0 ∨ b.key.2 = 1 := by omega
    obtain ⟨⟨k1, k2⟩, p, l⟩ := b
    simp only at this ⊢
    rcases this with rfl | rfl <;> simp
  rw [List.length_map] at this
  have e : ∀ n, ((List.range n).flatMap fun v => [(v, 0), (v, 1)]).length = 2 * n := by
    intro n
    induction n with
    | zero => rfl
    | succ n ih => rw [List.range_succ, List.flatMap_append, List.length_append, ih]; simp; omega
  rw [e] at this
  exact this
/-- the pointers lead back -/
theorem bi_walk {N : Nat} {es : List Ed} (hes : ∀ e ∈ es, EdOk N e) {st d : Nat} {B : List En} {r : List XS} (h : BI N es st d B r) : ∀ (n : Nat) (b : En), b ∈ B → b.lev = n → ∃ ks, ks.length = n ∧ Wk es ks b.key (st, 0)
  | n, b, hb, hl => by
    rcases h.P b hb with ⟨_, e, l⟩ | ⟨x, k, c, p, s, hc, rfl, l⟩
    · exact ⟨[], by simp; omega, e⟩
    · cases n with
      | zero => omega
      | succ n =>
        obtain ⟨ks, e1, e2⟩ := bi_walk hes h n c hc (by omega)
        exact ⟨k :: ks, by rw [List.length_cons, e1], _, s.sym hes, e2⟩
/-- at the end -/
theorem bi_least {N : Nat} {es : List Ed} (hes : ∀ e ∈ es, EdOk N e) {st d : Nat} {B : List En} {r : List XS} (h : BI N es st d B r) {b : En} (hb : b ∈ B) (hk : b.key = (st, 1)) (w : List Nat) (hw : Wk es w (st, 1) (st, 0)) : b.lev ≤ w.length := by
  have hr := rc_wk hes hw
  by_cases e : w.length ≤ d
  · obtain ⟨b', hb', e1, e2⟩ := h.S _ _ e hr
    rw [key_inj h.K hb hb' (by rw [hk, e1])]
    exact e2
  · have := h.L b hb; omega
theorem bi_none {N : Nat} {es : List Ed} (hes : ∀ e ∈ es, EdOk N e) {st d : Nat} {B : List En} (h : BI N es st d B []) (hn : inB B (st, 1) = false) (w : List Nat) : ¬ Wk es w (st, 1) (st, 0) := by
  intro hw
  have all : ∀ j y, Rc es st j y → ∃ b ∈ B, b.key = y := by
    intro j
    induction j with
    | zero =>
      intro y hy
      obtain ⟨b, hb, e, _⟩ := h.S 0 y (Nat.zero_le _) hy
      exact ⟨b, hb, e⟩
    | succ j ih =>
      rintro y ⟨x, k, hx, hs⟩
      obtain ⟨b, hb, rfl⟩ := ih x hx
      have l : b.lev ≠ d := fun e => by
        have := (h.F b.key).mpr ⟨b, hb, rfl, e⟩
        cases this
      exact h.C b hb (by have := h.L b hb; omega) k y hs
  obtain ⟨b, hb, e⟩ := all _ _ (rc_wk hes hw)
  have := inB_iff.mpr ⟨b, hb, e⟩
  rw [hn] at this
  cases this
/-! the dict of the steps as a tree -/
def xK (x : XS) : List L2.Key := [.inl (x.1 : Int), .inl (x.2 : Int)]
def xD (x : XS) : D := .tup [.int x.1, .int x.2]
def ptD : Option (XS × Nat) → D
  | none => .non
  | some (x, k) => .tup [.int x.1, .int x.2, .int k]
def dB (o : Bool) (B : List En) : D := .dit o (B.map fun b => xK b.key) (B.map fun b => ptD b.ptr)
theorem xK_inj {x y : XS} (h : xK x = xK y) : x = y := by
  unfold xK at h
  injection h with h1 h2
  injection h2 with h2 _
  injection h1 with h1
  injection h2 with h2
  exact Prod.ext (by omega) (by omega)
theorem find_no2 : ∀ (B : List En) (x : XS), inB B x = false → findQ (xK x) (B.map fun b => xK b.key) = none
  | [], _, _ => rfl
  | b :: B, x, h => by
    unfold inB at h
    rw [List.any_cons, Bool.or_eq_false_iff, decide_eq_false_iff_not] at h
    rw [List.map_cons]
    show (if xK b.key = xK x then some 0 else (findQ (xK x) (B.map fun b => xK b.key)).map (· + 1)) = none
    rw [if_neg (fun z => h.1 (xK_inj z)), find_no2 B x h.2]; rfl
theorem once_no2 : ∀ (B : List En) (x : XS), inB B x = false → onceQ (xK x) (B.map fun b => xK b.key) = true
  | [], _, _ => rfl
  | b :: B, x, h => by
    unfold inB at h
    rw [List.any_cons, Bool.or_eq_false_iff, decide_eq_false_iff_not] at h
    rw [List.map_cons]
    show (if xK b.key = xK x then (findQ (xK x) (B.map fun b => xK b.key)).isNone else onceQ (xK x) (B.map fun b => xK b.key)) = true
    rw [if_neg (fun z => h.1 (xK_inj z))]
    exact once_no2 B x h.2
theorem find_yes2 : ∀ (B : List En) (b : En), (B.map (·.key)).Nodup → b ∈ B → ∃ j, findQ (xK b.key) (B.map fun b => xK b.key) = some j ∧ (B.map fun b => ptD b.ptr)[j]? = some (ptD b.ptr)
  | a :: B, b, nd, hb => by
    rw [List.map_cons] at nd
    obtain ⟨h1, h2⟩ := List.nodup_cons.mp nd
    by_cases e : a.key = b.key
    · have : a = b := by
        rcases List.mem_cons.mp hb with z | z
        · exact z.symm
        · exact absurd (List.mem_map.mpr ⟨b, z, e.symm⟩) h1
      subst this
      refine ⟨0, ?_, rfl⟩
      show (if xK a.key = xK a.key then some 0 else _) = some 0
      rw [if_pos rfl]
    · have hb' : b ∈ B := by
        rcases List.mem_cons.mp hb with z | z
        · exact absurd (by rw [z]) e
        · exact z
      obtain ⟨j, q1, q2⟩ := find_yes2 B b h2 hb'
      refine ⟨j + 1, ?_, by simpa using q2⟩
      show (if xK a.key = xK b.key then some 0 else (findQ (xK b.key) (B.map fun b => xK b.key)).map (· + 1)) = some (j + 1)
      rw [if_neg (fun z => e (xK_inj z)), q1]; rfl
theorem val_B : ∀ (B : List En) (x : XS), (valD (B.map fun b => xK b.key) (B.map fun b => ptD b.ptr) (xK x)).isSome = inB B x
  | [], _ => rfl
  | b :: B, x => by
    have ih := val_B B x
    unfold inB at ih ⊢
    rw [List.map_cons, List.map_cons, List.any_cons]
    by_cases e : b.key = x
    · rw [decide_eq_true e, Bool.true_or]
      subst e
      simp [valD]
    · rw [decide_eq_false e, Bool.false_or, ← ih]
      have : xK b.key ≠ xK x := fun z => e (xK_inj z)
      simp [valD, this]
theorem dnot_B (o : Bool) (B : List En) (x : XS) : dKNot (.tup [.int (x.1 : Int), .int (x.2 : Int)]) (dB o B) = some (.bl (!inB B x)) := by
  rw [← val_B B x]
  rfl
theorem frz_pt (p : Option (XS × Nat)) : frz (ptD p) = ptD p := by
  cases p with
  | none => rfl
  | some q => rfl
theorem dput_B (B : List En) (hl : B.length ≤ 100000) (e : En) (h : inB B e.key = false) (ρ : Env) : sk2 (ptD e.ptr) (.tup [.int (e.key.1 : Int), .int (e.key.2 : Int)]) (4, []) ρ (some (dB true B)) = .ok .nx (setR ρ (4, []) (dB true (B ++ [e]))) := by
  have hk : tkD (.tup [.int (e.key.1 : Int), .int (e.key.2 : Int)]) = some (xK e.key) := rfl
  unfold sk2 dB
  simp only [hk]
  rw [if_pos]
  · unfold dicPut
    rw [find_no2 B e.key h]
    simp only [List.map_append, List.map_cons, List.map_nil]
  · rw [once_no2 B e.key h, Bool.true_and, decide_eq_true_eq, List.length_map]
    exact Nat.lt_of_le_of_lt hl (by decide)
theorem dat_B (o : Bool) (B : List En) (nd : (B.map (·.key)).Nodup) (b : En) (hb : b ∈ B) (ρ : Env) : ap0 (.tup [.int (b.key.1 : Int), .int (b.key.2 : Int)]) (4, []) ρ (some (dB o B)) = .ok (ptD b.ptr) (setR ρ (4, []) (dB o B)) := by
  obtain ⟨j, h1, h2⟩ := find_yes2 B b nd hb
  rw [ap0_some]
  have e1 : dFind (dB o B) (.tup [.int (b.key.1 : Int), .int (b.key.2 : Int)]) = some (some j) := by
    have hk : tkD (.tup [.int (b.key.1 : Int), .int (b.key.2 : Int)]) = some (xK b.key) := rfl
    unfold dFind dB
    simp only [hk, Option.map_some, h1]
  rw [e1, ap1_some]
  have e2 : (partsD (dB o B))[j]? = some (ptD b.ptr) := h2
  rw [e2, taK2_some, frz_pt]
  have e3 : (partsD (dB o B)).set j (ptD b.ptr) = partsD (dB o B) := set_self e2
  rw [e3]
  rfl
/-! the search, turn by turn -/
theorem flip_get (es : List Ed) (k : Nat) (hk : k < es.length) : Z.getS (.tup (es.map edD)) (.at (k : Int)) = some (edD (eAt es k)) := by
  rw [get_eds es k hk]
  unfold eAt
  rw [List.getD_eq_getElem?_getD, List.getElem?_eq_getElem hk]; rfl
theorem xds_snoc (L : List XS) (x : XS) : L.map xD ++ [.tup [.int (x.1 : Int), .int (x.2 : Int)]] = (L ++ [x]).map xD := by rw [List.map_append]; rfl
theorem o1_step (a0 a1 a2 a5 a12 a13 a11 : D) (es : List Ed) (d : Nat) (u : XS) (s : BS) (w k : Nat) (hk : k < es.length) (hl : s.1.length ≤ 100000) (hl2 : s.2.length ≤ 100000) : ∃ y11,
    L1_odd_walk [a0, a1, a2, .tup (es.map edD), dB true s.1, a5, .lst true (s.2.map xD), .int u.1, .int u.2, .int w, .int k, a11, a12, a13] =
      .ok .nx [a0, a1, a2, .tup (es.map edD), dB true (bst1 es d s (u, w, k)).1, a5, .lst true ((bst1 es d s (u, w, k)).2.map xD), .int u.1, .int u.2, .int w, .int k, y11, a12, a13] := by
  have g := flip_get es k hk
  have g2 := get_ed2 (eAt es k)
  have ex := dXor_nat u.2 (fl2 es k)
  have dn := dnot_B true s.1 (nxt es u (w, k))
  have iE := hole_edD (eAt es k)
  change Z.getS (edD (eAt es k)) (.at 2) = some (.int (fl2 es k : Nat)) at g2
  unfold bst1
  refine ⟨.tup [.int w, .int ((u.2 ^^^ fl2 es k : Nat) : Int)], ?_⟩
  have iT : isHole (.tup (es.map edD)) = false := rfl
  have iB : ∀ B, isHole (dB true B) = false := fun _ => rfl
  by_cases hi : inB s.1 (nxt es u (w, k)) = true
  · rw [if_pos hi]
    rw [hi] at dn
    change dKNot (.tup [.int (w : Int), .int ((u.2 ^^^ fl2 es k : Nat) : Int)]) (dB true s.1) = some (.bl (!true)) at dn
    have iB1 := iB s.1
    clear iB hi
    generalize u.2 ^^^ fl2 es k = v at *
    generalize fl2 es k = f at *
    generalize edD (eAt es k) = ED at *
    generalize D.tup (es.map edD) = ES at *
    generalize dB true s.1 = B at *
    generalize s.2.map xD = R at *
    clear hk hl hl2
    unfold L1_odd_walk
    walk_at "zh"
  · rw [if_neg hi]
    rw [Bool.not_eq_true] at hi
    have dp := fun ρ => dput_B s.1 hl ⟨nxt es u (w, k), some (u, k), d + 1⟩ hi ρ
    rw [hi] at dn
    have ap := xds_snoc s.2 (nxt es u (w, k))
    change dKNot (.tup [.int (w : Int), .int ((u.2 ^^^ fl2 es k : Nat) : Int)]) (dB true s.1) = some (.bl (!false)) at dn
    change s.2.map xD ++ [.tup [.int (w : Int), .int ((u.2 ^^^ fl2 es k : Nat) : Int)]] = _ at ap
    change ∀ ρ : Env, sk2 (.tup [.int (u.1 : Int), .int (u.2 : Int), .int (k : Int)]) (.tup [.int (w : Int), .int ((u.2 ^^^ fl2 es k : Nat) : Int)]) (4, []) ρ (some (dB true s.1)) = _ at dp
    have iB1 := iB s.1
    have iB2 := iB (s.1 ++ [⟨nxt es u (w, k), some (u, k), d + 1⟩])
    have hln : (s.2.map xD).length < 16777216 := by rw [List.length_map]; omega
    clear iB hi
    rw [← ap]
    clear ap
    generalize u.2 ^^^ fl2 es k = v at *
    generalize fl2 es k = f at *
    generalize edD (eAt es k) = ED at *
    generalize D.tup (es.map edD) = ES at *
    generalize dB true (s.1 ++ [⟨nxt es u (w, k), some (u, k), d + 1⟩]) = B2 at *
    generalize dB true s.1 = B at *
    generalize s.2.map xD = R at *
    clear hk hl hl2
    unfold L1_odd_walk
    walk_at "zh"
theorem bst1_len (es : List Ed) (d : Nat) (s : BS) (q : XS × Nat × Nat) : (bst1 es d s q).1.length ≤ s.1.length + 1 ∧ (bst1 es d s q).2.length ≤ s.2.length + 1 := by
  unfold bst1
  split
  · exact ⟨by omega, by omega⟩
  · simp
theorem o2_step (N : Nat) (hN : N ≤ 40) (es : List Ed) (hle : es.length ≤ 100) (hes : ∀ e ∈ es, EdOk N e) (G S FR x9 x10 x11 x12 x13 : D) (d : Nat) (s : BS) (hl : s.1.length ≤ 90000) (hl2 : s.2.length ≤ 90000) (u : XS) (hu : u.1 ≤ N) (o : Nat → Bool) :
    ∃ y9 y10 y11, L2_odd_walk [G, .lst true (lkD N es o), S, .tup (es.map edD), dB true s.1, FR, .lst true (s.2.map xD), .int u.1, .int u.2, x9, x10, x11, x12, x13] = .ok .nx [G, .lst true (lkD N es fun v => if v = u.1 then false else o v), S, .tup (es.map edD), dB true ((lnk es u).foldl (bst1 es d) s).1, FR, .lst true (((lnk es u).foldl (bst1 es d) s).2.map xD), .int u.1, .int u.2, y9, y10, y11, x12, x13] := by
  have nl := nbrs_len es u.1
  obtain ⟨ρ', e, ⟨y9, y10, y11, rfl⟩, _⟩ := loop_cnt (g := dTup 2 (dCons (dName 9) (dCons (dName 10) dNil))) (b := L1_odd_walk) prD (fun (s : BS) ρ => ∃ y9 y10 y11, ρ = [G, .lst true (lkD N es fun v => if v = u.1 then false else o v), S, .tup (es.map edD), dB true s.1, FR, .lst true (s.2.map xD), .int u.1, .int u.2, y9, y10, y11, x12, x13])
    (fun k s => s.1.length ≤ 90000 + k ∧ s.2.length ≤ 90000 + k) (fun s p => bst1 es d s (u, p)) (nbrs es u.1).length (nbrs es u.1) 0 s [G, .lst true (lkD N es fun v => if v = u.1 then false else o v), S, .tup (es.map edD), dB true s.1, FR, .lst true (s.2.map xD), .int u.1, .int u.2, x9, x10, x11, x12, x13] (by omega) ⟨_, _, _, rfl⟩ ⟨by omega, by omega⟩ (fun p hp k s ρ hk ⟨y9, y10, y11, hρ⟩ ⟨p1, p2⟩ => by
      obtain ⟨w, q⟩ := p
      obtain ⟨z11, st⟩ := o1_step G (.lst true (lkD N es fun v => if v = u.1 then false else o v)) S FR x12 x13 y11 es d u s w q ((mem_nbrs es _ _ _).mp hp).1 (by omega) (by omega)
      have bl := bst1_len es d s (u, w, q)
      exact ⟨[G, .lst true (lkD N es fun v => if v = u.1 then false else o v), S, .tup (es.map edD), dB true s.1, FR, .lst true (s.2.map xD), .int u.1, .int u.2, .int w, .int q, y11, x12, x13], _, by rw [hρ]; rfl, .inl st, ⟨_, _, _, rfl⟩, by omega, by omega⟩)
  have ef : (nbrs es u.1).foldl (fun s p => bst1 es d s (u, p)) s = (lnk es u).foldl (bst1 es d) s := by
    unfold lnk
    rw [List.foldl_map]
  rw [ef] at e
  refine ⟨y9, y10, y11, ?_⟩
  have t1 := tabD_get true (N + 1) (fun v => .lst (o v) ((nbrs es v).map prD)) u.1 (by omega)
  have s1 := tabD_set (N + 1) (fun v => .lst (o v) ((nbrs es v).map prD)) u.1 (.lst false ((nbrs es u.1).map prD)) (by omega)
  have tl := tabD_len (N + 1) (fun v => .lst (o v) ((nbrs es v).map prD))
  have la : (u.1 : Int) < ((lkD N es o).length : Nat) := by unfold lkD; rw [tl]; omega
  have fin : (fun v => if v = u.1 then D.lst false ((nbrs es u.1).map prD) else .lst (o v) ((nbrs es v).map prD)) = fun v => .lst (if v = u.1 then false else o v) ((nbrs es v).map prD) := by
    funext v
    by_cases e : v = u.1
    · rw [if_pos e, if_pos e, e]
    · rw [if_neg e, if_neg e]
  rw [fin] at s1
  clear fin
  rw [show (tabD (N + 1) fun v => D.lst (if v = u.1 then false else o v) ((nbrs es v).map prD)) = lkD N es fun v => if v = u.1 then false else o v from rfl, show (tabD (N + 1) fun v => D.lst (o v) ((nbrs es v).map prD)) = lkD N es o from rfl] at s1
  rw [show (tabD (N + 1) fun v => D.lst (o v) ((nbrs es v).map prD)) = lkD N es o from rfl] at t1
  have hsame : o u.1 = false → lkD N es (fun v => if v = u.1 then false else o v) = lkD N es o := fun z => by
    unfold lkD
    congr 1
    funext v
    by_cases e : v = u.1
    · simp only [e, if_true, z]
    · simp only [e, if_false]
  have fz := frzL_prD (nbrs es u.1)
  have sh := shrL_prD (nbrs es u.1)
  have p0 : (0 : Int) ≤ (u.1 : Int) := by omega
  cases hou : o u.1 with
  | true =>
    rw [hou] at t1
    clear hsame
    generalize lkD N es o = A1 at *
    generalize (lkD N es fun v => if v = u.1 then false else o v) = A2 at *
    generalize (nbrs es u.1).map prD = P1 at *
    generalize dB true ((lnk es u).foldl (bst1 es d) s).1 = M2 at *
    generalize ((lnk es u).foldl (bst1 es d) s).2.map xD = R2 at *
    generalize dB true s.1 = M1 at *
    generalize s.2.map xD = R1 at *
    generalize D.tup (es.map edD) = ES at *
    unfold L2_odd_walk
    clear tl hes hou hu ef hl hl2 nl hle
    walk_at "zh"
  | false =>
    rw [hou] at t1
    have hsame2 := hsame hou
    rw [hsame2] at e s1 ⊢
    have sh2 : shr (.lst false ((nbrs es u.1).map prD)) = true := sh
    clear hsame hsame2 s1
    generalize lkD N es o = A1 at *
    generalize (nbrs es u.1).map prD = P1 at *
    generalize dB true ((lnk es u).foldl (bst1 es d) s).1 = M2 at *
    generalize ((lnk es u).foldl (bst1 es d) s).2.map xD = R2 at *
    generalize dB true s.1 = M1 at *
    generalize s.2.map xD = R1 at *
    generalize D.tup (es.map edD) = ES at *
    unfold L2_odd_walk
    clear tl hes hou hu la ef hl hl2 nl hle
    walk_at "zh"
theorem lnk_len (es : List Ed) (u : XS) : (lnk es u).length ≤ es.length := by
  unfold lnk
  rw [List.length_map]
  exact nbrs_len es u.1
theorem bfold_len (es : List Ed) (d : Nat) : ∀ (L : List (XS × Nat × Nat)) (s : BS), (L.foldl (bst1 es d) s).1.length ≤ s.1.length + L.length ∧ (L.foldl (bst1 es d) s).2.length ≤ s.2.length + L.length
  | [], s => ⟨Nat.le_refl _, Nat.le_refl _⟩
  | q :: L, s => by
    have h1 := bfold_len es d L (bst1 es d s q)
    have h2 := bst1_len es d s q
    rw [List.foldl_cons, List.length_cons]
    omega
theorem shrL_xD (r : List XS) : shrL (r.map xD) = true := by
  rw [shrL_eq, List.all_map, List.all_eq_true]
  exact fun _ _ => rfl
theorem o3_step (N : Nat) (hN : N ≤ 40) (es : List Ed) (hle : es.length ≤ 100) (hes : ∀ e ∈ es, EdOk N e) (G S x6 x7 x8 x9 x10 x11 x12 x13 : D) (d : Nat) (B : List En) (r : List XS) (hB : B.length ≤ 100) (hr : r.length ≤ 100) (hr2 : ∀ u ∈ r, u.1 ≤ N) (b : Bool) (o : Nat → Bool) :
    ∃ o' y6 y7 y8 y9 y10 y11, L3_odd_walk [G, .lst true (lkD N es o), S, .tup (es.map edD), dB true B, .lst b (r.map xD), x6, x7, x8, x9, x10, x11, x12, x13] = .ok .nx [G, .lst true (lkD N es o'), S, .tup (es.map edD), dB true (blvl es d B r).1, .lst false ((blvl es d B r).2.map xD), y6, y7, y8, y9, y10, y11, x12, x13] := by
  obtain ⟨ρ', e, ⟨o', y7, y8, y9, y10, y11, rfl⟩, _⟩ := loop_cnt (g := dTup 2 (dCons (dName 7) (dCons (dName 8) dNil))) (b := L2_odd_walk) xD (fun (s : BS) ρ => ∃ o y7 y8 y9 y10 y11, ρ = [G, .lst true (lkD N es o), S, .tup (es.map edD), dB true s.1, .hole, .lst true (s.2.map xD), y7, y8, y9, y10, y11, x12, x13])
    (fun k s => s.1.length ≤ 100 + k * 100 ∧ s.2.length ≤ k * 100) (fun s u => (lnk es u).foldl (bst1 es d) s) r.length r 0 (B, []) [G, .lst true (lkD N es o), S, .tup (es.map edD), dB true B, .hole, .lst true ([].map xD), x7, x8, x9, x10, x11, x12, x13] (by omega) ⟨_, _, _, _, _, _, rfl⟩ ⟨by omega, by simp⟩ (fun u hu k s ρ hk ⟨o, y7, y8, y9, y10, y11, hρ⟩ ⟨p1, p2⟩ => by
      obtain ⟨z9, z10, z11, st⟩ := o2_step N hN es hle hes G S .hole y9 y10 y11 x12 x13 d s (by omega) (by omega) u (hr2 u hu) o
      have b1 := bfold_len es d (lnk es u) s
      have b2 := lnk_len es u
      exact ⟨[G, .lst true (lkD N es o), S, .tup (es.map edD), dB true s.1, .hole, .lst true (s.2.map xD), .int u.1, .int u.2, y9, y10, y11, x12, x13], _, by rw [hρ]; rfl, .inl st, ⟨_, _, _, _, _, _, rfl⟩, by omega, by omega⟩)
  refine ⟨o', .lst false ((blvl es d B r).2.map xD), y7, y8, y9, y10, y11, ?_⟩
  change mLoop _ _ _ _ = O.ok .nx [_, _, _, _, dB true (blvl es d B r).1, _, .lst true ((blvl es d B r).2.map xD), _, _, _, _, _, _, _] at e
  rw [show ([] : List XS).map xD = [] from rfl] at e
  have fr := frzL_shr (shrL_xD r)
  have fr2 := frzL_shr (shrL_xD (blvl es d B r).2)
  generalize (blvl es d B r).2.map xD = R2 at *
  generalize dB true (blvl es d B r).1 = M2 at *
  generalize lkD N es o = A1 at *
  generalize lkD N es o' = A2 at *
  generalize dB true B = M1 at *
  generalize r.map xD = R1 at *
  generalize D.tup (es.map edD) = ES at *
  unfold L3_odd_walk
  clear hes hr2
  walk_at "zh"
/-! the search as a whole, the walk read back -/
theorem r_len {N : Nat} {es : List Ed} {st d : Nat} {B : List En} {r : List XS} (h : BI N es st d B r) (hn : r.Nodup) : r.length ≤ B.length := by
  have : r.length ≤ (B.map (·.key)).length := List.Nodup.length_le_of_subset hn fun x hx => by
    obtain ⟨b, hb, e, _⟩ := (h.F x).mp hx
    exact List.mem_map.mpr ⟨b, hb, e⟩
  rwa [List.length_map] at this
theorem blvl_nodup {es : List Ed} {d : Nat} {B : List En} {r : List XS} (h : (B.map (·.key)).Nodup) : (blvl es d B r).2.Nodup := by
  obtain ⟨⟨E, e1, e2, _⟩, hk, _⟩ := blvl_li es d B r h
  rw [e1, List.map_append] at hk
  rw [e2]
  exact (List.nodup_append.mp hk).2.1
theorem search_ok (N : Nat) (hN : N ≤ 40) (es : List Ed) (hle : es.length ≤ 100) (hes : ∀ e ∈ es, EdOk N e) (G x6 x7 x8 x9 x10 x11 x12 x13 : D) (st : Nat) (hst : st ≤ N) (o : Nat → Bool) :
    ∃ d B r o' y6 y7 y8 y9 y10 y11 b, mWhile W1_odd_walk L3_odd_walk wN [G, .lst true (lkD N es o), .int st, .tup (es.map edD), dB true [⟨(st, 0), none, 0⟩], .lst true [xD (st, 0)], x6, x7, x8, x9, x10, x11, x12, x13] =
      .ok .nx [G, .lst true (lkD N es o'), .int st, .tup (es.map edD), dB true B, .lst b (r.map xD), y6, y7, y8, y9, y10, y11, x12, x13] ∧ BI N es st d B r ∧ (r = [] ∨ inB B (st, 1) = true) := by
  obtain ⟨ρ', e, d, B, r, o', y6, y7, y8, y9, y10, y11, b, rfl, h1, h2⟩ := while_any (t := W1_odd_walk) (b := L3_odd_walk)
    (fun n ρ => ∃ (d : Nat) (B : List En) (r : List XS) (o : Nat → Bool) (y6 y7 y8 y9 y10 y11 : D) (b : Bool), ρ = [G, .lst true (lkD N es o), .int st, .tup (es.map edD), dB true B, .lst b (r.map xD), y6, y7, y8, y9, y10, y11, x12, x13] ∧ BI N es st d B r ∧ r.Nodup ∧ n = 2 * (N + 1) - B.length + (if r = [] then 0 else 1))
    (fun ρ => ∃ (d : Nat) (B : List En) (r : List XS) (o : Nat → Bool) (y6 y7 y8 y9 y10 y11 : D) (b : Bool), ρ = [G, .lst true (lkD N es o), .int st, .tup (es.map edD), dB true B, .lst b (r.map xD), y6, y7, y8, y9, y10, y11, x12, x13] ∧ BI N es st d B r ∧ (r = [] ∨ inB B (st, 1) = true))
    (fun n ρ ⟨d, B, r, o, y6, y7, y8, y9, y10, y11, b, hρ, hB, nd, hn⟩ => by
      have dl : dLen (.lst b (r.map xD)) = some (.int (r.length : Nat)) := by rw [dLen_lst, List.length_map]
      have fr := frzL_shr (shrL_xD r)
      have iL : isHole (.lst b (r.map xD)) = false := rfl
      have iB : isHole (dB true B) = false := rfl
      have bl := bi_len hB
      have dn := dnot_B true B (st, 1)
      change dKNot (.tup [.int (st : Int), .int 1]) (dB true B) = _ at dn
      by_cases hr : r = []
      · left
        refine ⟨ρ, ?_, d, B, r, o, y6, y7, y8, y9, y10, y11, b, hρ, hB, .inl hr⟩
        have hl : ¬ (0 : Int) < (r.length : Nat) := by rw [hr]; simp
        rw [hρ]
        generalize D.lst b (r.map xD) = R at *
        generalize dB true B = BD at *
        generalize D.tup (es.map edD) = ES at *
        unfold W1_odd_walk
        clear hes hρ hB hn hr nd
        walk_at "zh"
      · have hl : (0 : Int) < (r.length : Nat) := by have := List.length_pos_iff.mpr hr; omega
        by_cases hi : inB B (st, 1) = true
        · left
          refine ⟨ρ, ?_, d, B, r, o, y6, y7, y8, y9, y10, y11, b, hρ, hB, .inr hi⟩
          rw [hi] at dn
          rw [hρ]
          generalize D.lst b (r.map xD) = R at *
          generalize dB true B = BD at *
          generalize D.tup (es.map edD) = ES at *
          unfold W1_odd_walk
          clear hes hρ hB hn hr nd hi
          walk_at "zh"
        · right
          rw [Bool.not_eq_true] at hi
          rw [hi] at dn
          have rl := r_len hB nd
          obtain ⟨o', z6, z7, z8, z9, z10, z11, e3⟩ := o3_step N hN es hle hes G (.int st) y6 y7 y8 y9 y10 y11 x12 x13 d B r (by omega) (by omega) (fun u hu => by
            obtain ⟨c, hc, rfl, _⟩ := (hB.F u).mp hu
            exact (hB.R c hc).1) b o
          obtain ⟨l1, l2⟩ := bi_next hes hB
          have l3 := bi_len l1
          refine ⟨ρ, _, _, ?_, .inl (by rw [hρ]; exact e3), ⟨d + 1, (blvl es d B r).1, (blvl es d B r).2, o', z6, z7, z8, z9, z10, z11, false, rfl, l1, blvl_nodup hB.K, rfl⟩, ?_⟩
          · rw [hρ]
            clear e3 l1 l2 l3 rl
            generalize D.lst b (r.map xD) = R at *
            generalize dB true B = BD at *
            generalize D.tup (es.map edD) = ES at *
            unfold W1_odd_walk
            clear hes hρ hB hn hr nd hi
            walk_at "zh"
          · rw [hn, if_neg hr]
            by_cases hr' : (blvl es d B r).2 = []
            · rw [if_pos hr']; omega
            · rw [if_neg hr']
              have := List.length_pos_iff.mpr hr'
              omega)
    wN _ [G, .lst true (lkD N es o), .int st, .tup (es.map edD), dB true [⟨(st, 0), none, 0⟩], .lst true [xD (st, 0)], x6, x7, x8, x9, x10, x11, x12, x13] (by
      show 2 * (N + 1) - 1 + _ < wN
      exact Nat.lt_of_le_of_lt (show _ ≤ 1000 by split <;> omega) (by decide)) ⟨0, _, [(st, 0)], o, x6, x7, x8, x9, x10, x11, true, rfl, bi_zero N es st hst, by simp, rfl⟩
  exact ⟨d, B, r, o', y6, y7, y8, y9, y10, y11, b, e, h1, h2⟩
theorem back_ok (N : Nat) (hN : N ≤ 40) (es : List Ed) (hes : ∀ e ∈ es, EdOk N e) (a0 a1 a2 a3 a5 a6 a7 a8 a9 a10 a11 : D) {st d : Nat} {B : List En} {r : List XS} (h : BI N es st d B r) (b : En) (hb : b ∈ B) (hl : b.lev ≤ 1000) :
    ∃ ks, mWhile W2_odd_walk L4_odd_walk wN [a0, a1, a2, a3, dB true B, a5, a6, a7, a8, a9, a10, a11, .lst true [], ptD b.ptr] = .ok .nx [a0, a1, a2, a3, dB true B, a5, a6, a7, a8, a9, a10, a11, .lst true (nats ks), .non] ∧ ks.length = b.lev ∧ Wk es ks b.key (st, 0) := by
  obtain ⟨ρ', e, ks, rfl, h1, h2⟩ := while_any (t := W2_odd_walk) (b := L4_odd_walk)
    (fun n ρ => ∃ (ks : List Nat) (c : En), ρ = [a0, a1, a2, a3, dB true B, a5, a6, a7, a8, a9, a10, a11, .lst true (nats ks), ptD c.ptr] ∧ c ∈ B ∧ ks.length + c.lev = b.lev ∧ Wk es ks b.key c.key ∧ n = c.lev)
    (fun ρ => ∃ (ks : List Nat), ρ = [a0, a1, a2, a3, dB true B, a5, a6, a7, a8, a9, a10, a11, .lst true (nats ks), .non] ∧ ks.length = b.lev ∧ Wk es ks b.key (st, 0))
    (fun n ρ ⟨ks, c, hρ, hc, hs, hw, hn⟩ => by
      rcases h.P c hc with ⟨p, e1, e2⟩ | ⟨x, k, c', p, s, hc', rfl, e3⟩
      · left
        refine ⟨ρ, ?_, ks, by rw [hρ, p]; rfl, by omega, e1 ▸ hw⟩
        rw [hρ, p]
        show W2_odd_walk [a0, a1, a2, a3, dB true B, a5, a6, a7, a8, a9, a10, a11, .lst true (nats ks), .non] = _
        generalize dB true B = BD at *
        generalize nats ks = KS at *
        unfold W2_odd_walk
        clear hes hρ h hn hs hw hc
        walk_at "zh"
        rfl
      · right
        refine ⟨ρ, [a0, a1, a2, a3, dB true B, a5, a6, a7, a8, a9, a10, a11, .lst true (nats (ks ++ [k])), ptD c'.ptr], c'.lev, ?_, .inl ?_, ⟨ks ++ [k], c', rfl, hc', by rw [List.length_append, List.length_singleton]; omega, hw.snoc (s.sym hes), rfl⟩, by omega⟩
        · rw [hρ, p]
          show W2_odd_walk [a0, a1, a2, a3, dB true B, a5, a6, a7, a8, a9, a10, a11, .lst true (nats ks), .tup [.int (c'.key.1 : Int), .int (c'.key.2 : Int), .int (k : Int)]] = _
          generalize dB true B = BD at *
          generalize nats ks = KS at *
          unfold W2_odd_walk
          clear hes hρ h hn hs hw hc hc' s p
          walk_at "zh"
          rfl
        · rw [hρ, p]
          show L4_odd_walk [a0, a1, a2, a3, dB true B, a5, a6, a7, a8, a9, a10, a11, .lst true (nats ks), .tup [.int (c'.key.1 : Int), .int (c'.key.2 : Int), .int (k : Int)]] = _
          have da := fun ρ => dat_B true B h.K c' hc' ρ
          have iB : isHole (dB true B) = false := rfl
          have ap : nats ks ++ [.int (k : Int)] = nats (ks ++ [k]) := by unfold nats; rw [List.map_append]; rfl
          have hln : (nats ks).length < 16777216 := by rw [nats_len]; omega
          rw [← ap]
          clear ap
          generalize ptD c'.ptr = PT at *
          generalize dB true B = BD at *
          generalize nats ks = KS at *
          unfold L4_odd_walk
          clear hes hρ h hn hs hw hc hc' s p
          walk_at "zh")
    wN _ [a0, a1, a2, a3, dB true B, a5, a6, a7, a8, a9, a10, a11, .lst true [], ptD b.ptr] (Nat.lt_of_le_of_lt hl (by decide)) ⟨[], b, rfl, hb, by simp, rfl, rfl⟩
  exact ⟨ks, e, h1, h2⟩
/-! odd_walk -/
theorem lev_down {N : Nat} {es : List Ed} {st d : Nat} {B : List En} {r : List XS} (h : BI N es st d B r) : ∀ (n : Nat) (b : En), b ∈ B → b.lev = n → ∀ m, m ≤ n → m ∈ B.map (·.lev)
  | n, b, hb, hl, m, hm => by
    by_cases e : m = n
    · subst e
      exact List.mem_map.mpr ⟨b, hb, hl⟩
    · rcases h.P b hb with ⟨_, _, l⟩ | ⟨x, k, c, _, _, hc, _, l⟩
      · omega
      · cases n with
        | zero => omega
        | succ n => exact lev_down h n c hc (by omega) m (by omega)
theorem lev_lt {N : Nat} {es : List Ed} {st d : Nat} {B : List En} {r : List XS} (h : BI N es st d B r) (b : En) (hb : b ∈ B) : b.lev + 1 ≤ B.length := by
  have : (List.range (b.lev + 1)).length ≤ (B.map (·.lev)).length := List.Nodup.length_le_of_subset List.nodup_range fun m hm => lev_down h b.lev b hb rfl m (by have := List.mem_range.mp hm; omega)
  rwa [List.length_range, List.length_map] at this
theorem odd_walk_ok (N : Nat) (hN : N ≤ 40) (es : List Ed) (hle : es.length ≤ 100) (hes : ∀ e ∈ es, EdOk N e) (st : Nat) (hst : st ≤ N) (o : Nat → Bool) : ∃ o',
    (r_odd_walk [grD N es, .lst true (lkD N es o), .int st] = .ok .non [grD N es, .lst true (lkD N es o'), .int st] ∧ ∀ w, ¬ Wk es w (st, 1) (st, 0)) ∨
    ∃ ks, r_odd_walk [grD N es, .lst true (lkD N es o), .int st] = .ok (.lst true (nats ks)) [grD N es, .lst true (lkD N es o'), .int st] ∧ Wk es ks (st, 1) (st, 0) ∧ ks.length ≤ 100 ∧ ∀ w, Wk es w (st, 1) (st, 0) → ks.length ≤ w.length := by
  obtain ⟨d, B, r, o', y6, y7, y8, y9, y10, y11, b, sk, hB, hq⟩ := search_ok N hN es hle hes (grD N es) .hole .hole .hole .hole .hole .hole .hole .hole st hst o
  refine ⟨o', ?_⟩
  have iG := hole_gr N es
  have g1 : Z.getS (grD N es) (.at 1) = some (.tup (es.map edD)) := rfl
  have sG : shr (.tup (es.map edD)) = true := by
    show shrL (es.map edD) = true
    rw [shrL_eq, List.all_map, List.all_eq_true]
    exact fun _ _ => rfl
  have mk : (mDicT (mCons (mTup (mCons (mVar 2) (mCons (mK (.int 0)) mNil))) (mCons (mK .non) mNil))) [grD N es, .lst true (lkD N es o), .int st, .tup (es.map edD), .hole, .hole, .hole, .hole, .hole, .hole, .hole, .hole, .hole, .hole] = .ok (dB true [⟨(st, 0), none, 0⟩]) [grD N es, .lst true (lkD N es o), .int st, .tup (es.map edD), .hole, .hole, .hole, .hole, .hole, .hole, .hole, .hole, .hole, .hole] := rfl
  have dn := dnot_B true B (st, 1)
  change dKNot (.tup [.int (st : Int), .int 1]) (dB true B) = _ at dn
  have iB : isHole (dB true B) = false := rfl
  have q4 : (mAsg (dName 4) (mDicT (mCons (mTup (mCons (mVar 2) (mCons (mK (.int 0)) mNil))) (mCons (mK .non) mNil)))) [grD N es, .lst true (lkD N es o), .int st, .tup (es.map edD), .hole, .hole, .hole, .hole, .hole, .hole, .hole, .hole, .hole, .hole] = .ok .nx [grD N es, .lst true (lkD N es o), .int st, .tup (es.map edD), dB true [⟨(st, 0), none, 0⟩], .hole, .hole, .hole, .hole, .hole, .hole, .hole, .hole, .hole] := by
    rw [mAsg_e, mk]
    rfl
  have q5 : (mAsg (dName 5) (mLst (mCons (mTup (mCons (mVar 2) (mCons (mK (.int 0)) mNil))) mNil))) [grD N es, .lst true (lkD N es o), .int st, .tup (es.map edD), dB true [⟨(st, 0), none, 0⟩], .hole, .hole, .hole, .hole, .hole, .hole, .hole, .hole, .hole] = .ok .nx [grD N es, .lst true (lkD N es o), .int st, .tup (es.map edD), dB true [⟨(st, 0), none, 0⟩], .lst true [xD (st, 0)], .hole, .hole, .hole, .hole, .hole, .hole, .hole, .hole] := rfl
  have q3 : (mAsg (dName 3) (mTake (pIx (pVar 0) (mK (.int 1))))) [grD N es, .lst true (lkD N es o), .int st, .hole, .hole, .hole, .hole, .hole, .hole, .hole, .hole, .hole, .hole, .hole] = .ok .nx [grD N es, .lst true (lkD N es o), .int st, .tup (es.map edD), .hole, .hole, .hole, .hole, .hole, .hole, .hole, .hole, .hole, .hole] := by
    clear sk mk dn q4 q5
    have iS : isHole (.tup (es.map edD)) = false := rfl
    generalize D.tup (es.map edD) = ES at *
    generalize grD N es = G at *
    generalize lkD N es o = A at *
    clear hes
    walk_at "zh"
  by_cases hi : inB B (st, 1) = true
  · right
    obtain ⟨c, hc, hk⟩ := inB_iff.mp hi
    have bl := bi_len hB
    have lv := lev_lt hB c hc
    have ll : c.lev ≤ 1000 := by omega
    obtain ⟨ks, bk, e1, e2⟩ := back_ok N hN es hes (grD N es) (.lst true (lkD N es o')) (.int st) (.tup (es.map edD)) (.lst b (r.map xD)) y6 y7 y8 y9 y10 y11 hB c hc ll
    rw [hk] at e2
    refine ⟨ks, ?_, e2, ?_, fun w hw => by rw [e1]; exact bi_least hes hB hc hk w hw⟩
    · rw [hi] at dn
      have da := fun ρ => dat_B true B hB.K c hc ρ
      rw [hk] at da
      change ∀ ρ, ap0 (.tup [.int (st : Int), .int 1]) (4, []) ρ (some (dB true B)) = _ at da
      unfold r_odd_walk b_odd_walk
      rw [fnR_e _ _ _ _ rfl]
      show fnEnd [true, true, true] [grD N es, .lst true (lkD N es o), .int st] (mSeq _ _ [grD N es, .lst true (lkD N es o), .int st, .hole, .hole, .hole, .hole, .hole, .hole, .hole, .hole, .hole, .hole, .hole]) = _
      rw [mSeq_e, q3, sK_nx, mSeq_e, q4, sK_nx, mSeq_e, q5, sK_nx, mSeq_e, sk, sK_nx]
      clear q3 q4 q5 sk mk
      generalize D.lst b (r.map xD) = R at *
      generalize D.tup (es.map edD) = ES at *
      generalize grD N es = G at *
      generalize lkD N es o' = A at *
      generalize ptD c.ptr = PT at *
      generalize dB true B = BD at *
      generalize nats ks = KS at *
      clear hes hB hq hi hc hk e1 e2 bl ll lv
      walk_at "zh"
    · rw [e1]; omega
  · left
    have hr : r = [] := hq.resolve_right hi
    subst hr
    rw [Bool.not_eq_true] at hi
    refine ⟨?_, fun w => bi_none hes hB hi w⟩
    rw [hi] at dn
    unfold r_odd_walk b_odd_walk
    rw [fnR_e _ _ _ _ rfl]
    show fnEnd [true, true, true] [grD N es, .lst true (lkD N es o), .int st] (mSeq _ _ [grD N es, .lst true (lkD N es o), .int st, .hole, .hole, .hole, .hole, .hole, .hole, .hole, .hole, .hole, .hole, .hole]) = _
    rw [mSeq_e, q3, sK_nx, mSeq_e, q4, sK_nx, mSeq_e, q5, sK_nx, mSeq_e, sk, sK_nx]
    clear q3 q4 q5 sk mk
    generalize D.lst b ([].map xD) = R at *
    generalize D.tup (es.map edD) = ES at *
    generalize grD N es = G at *
    generalize lkD N es o' = A at *
    generalize dB true B = BD at *
    clear hes hB hi hq
    walk_at "zh"
/-! the least flip of the program -/
def bD : Option (List Nat) → D
  | none => .non
  | some ks => .lst false (nats ks)
/-- the best of the first starts -/
def Bst (es : List Ed) (n : Nat) : Option (List Nat) → Prop
  | none => ∀ v w, v < n → ¬ Wk es w (v, 1) (v, 0)
  | some b => b.length ≤ 100 ∧ (∃ v, v < n ∧ Wk es b (v, 1) (v, 0)) ∧ ∀ v w, v < n → Wk es w (v, 1) (v, 0) → b.length ≤ w.length
theorem lp_step (N : Nat) (hN : N ≤ 40) (es : List Ed) (hle : es.length ≤ 100) (hes : ∀ e ∈ es, EdOk N e) (x4 x5 : D) (o : Nat → Bool) (q : Option (List Nat)) (n : Nat) (hn : n ≤ N) (hq : Bst es n q) : ∃ o' q' y4, Bst es (n + 1) q' ∧
    L1_least_flip [grD N es, .lst true (lkD N es o), bD q, .int n, x4, x5] = .ok .nx [grD N es, .lst true (lkD N es o'), bD q', .int n, y4, x5] := by
  obtain ⟨o', ow⟩ := odd_walk_ok N hN es hle hes n hn o
  have iG := hole_gr N es
  have fG : isFlat (grD N es) = false := rfl
  rcases ow with ⟨e, hno⟩ | ⟨ks, e, hw, hl, hmin⟩
  · refine ⟨o', q, .non, ?_, ?_⟩
    · cases q with
      | none =>
        intro v w hv
        by_cases z : v < n
        · exact hq v w z
        · have : v = n := by omega
          subst this; exact hno w
      | some b =>
        obtain ⟨b1, ⟨v, hv, b2⟩, b3⟩ := hq
        refine ⟨b1, ⟨v, by omega, b2⟩, fun u w hu hw => ?_⟩
        by_cases z : u < n
        · exact b3 u w z hw
        · have : u = n := by omega
          subst this; exact absurd hw (hno w)
    · clear hq hno hes hle hn hN
      generalize lkD N es o = A1 at *
      generalize lkD N es o' = A2 at *
      generalize grD N es = G at *
      generalize bD q = Q at *
      unfold L1_least_flip
      walk_at "zh"
  · cases q with
    | none =>
      refine ⟨o', some ks, .lst false (nats ks), ⟨hl, ⟨n, by omega, hw⟩, fun u w hu hw' => ?_⟩, ?_⟩
      · by_cases z : u < n
        · exact absurd hw' (hq u w z)
        · have : u = n := by omega
          subst this; exact hmin w hw'
      · have dl := dLen_lst true (nats ks)
        rw [nats_len] at dl
        have fk := frzL_nats ks
        show L1_least_flip [grD N es, .lst true (lkD N es o), .non, .int n, x4, x5] = .ok .nx [grD N es, .lst true (lkD N es o'), .lst false (nats ks), .int n, .lst false (nats ks), x5]
        clear hq hw hmin hes hle hn hN
        generalize lkD N es o = A1 at *
        generalize lkD N es o' = A2 at *
        generalize grD N es = G at *
        generalize nats ks = KS at *
        unfold L1_least_flip
        walk_at "zh"
    | some b =>
      obtain ⟨b1, ⟨v, hv, b2⟩, b3⟩ := hq
      have dl := dLen_lst true (nats ks)
      rw [nats_len] at dl
      have dl2 := dLen_lst false (nats b)
      rw [nats_len] at dl2
      have fk := frzL_nats ks
      have fb := frzL_nats b
      by_cases c : ks.length < b.length
      · refine ⟨o', some ks, .lst false (nats ks), ⟨hl, ⟨n, by omega, hw⟩, fun u w hu hw' => ?_⟩, ?_⟩
        · by_cases z : u < n
          · have := b3 u w z hw'; omega
          · have : u = n := by omega
            subst this; exact hmin w hw'
        · show L1_least_flip [grD N es, .lst true (lkD N es o), .lst false (nats b), .int n, x4, x5] = .ok .nx [grD N es, .lst true (lkD N es o'), .lst false (nats ks), .int n, .lst false (nats ks), x5]
          have c' : (ks.length : Int) < (b.length : Int) := by omega
          have i1 : isHole (.lst true (nats ks)) = false := rfl
          have i2 : isHole (.lst false (nats b)) = false := rfl
          clear hw hmin hes hle hn hN b1 b2 b3 c hl
          generalize lkD N es o = A1 at *
          generalize lkD N es o' = A2 at *
          generalize grD N es = G at *
          generalize nats ks = KS at *
          generalize nats b = BS at *
          generalize (ks.length : Int) = u1 at *
          generalize (b.length : Int) = u2 at *
          unfold L1_least_flip
          walk_at "zh"
      · refine ⟨o', some b, .lst true (nats ks), ⟨b1, ⟨v, by omega, b2⟩, fun u w hu hw' => ?_⟩, ?_⟩
        · by_cases z : u < n
          · exact b3 u w z hw'
          · have : u = n := by omega
            subst this
            have := hmin w hw'; omega
        · show L1_least_flip [grD N es, .lst true (lkD N es o), .lst false (nats b), .int n, x4, x5] = .ok .nx [grD N es, .lst true (lkD N es o'), .lst false (nats b), .int n, .lst true (nats ks), x5]
          have c' : ¬ (ks.length : Int) < (b.length : Int) := by omega
          have i1 : isHole (.lst true (nats ks)) = false := rfl
          have i2 : isHole (.lst false (nats b)) = false := rfl
          clear hw hmin hes hle hn hN b1 b2 b3 c hl
          generalize lkD N es o = A1 at *
          generalize lkD N es o' = A2 at *
          generalize grD N es = G at *
          generalize nats ks = KS at *
          generalize nats b = BS at *
          generalize (ks.length : Int) = u1 at *
          generalize (b.length : Int) = u2 at *
          unfold L1_least_flip
          walk_at "zh"
/-! least_flip, fault_distance -/
theorem sort_set (o : Bool) (b : List Nat) (hl : b.length ≤ 100) (h63 : ∀ k ∈ b, k < 63) : ∃ S : List Nat, fSortSet [.lst o (nats b)] = some (.lst true (nats S)) ∧ S.Nodup ∧ (∀ k, k ∈ S ↔ k ∈ b) ∧ S.length < 64 := by
  let ns : List Int := b.map fun k : Nat => (k : Int)
  have mem : ∀ z, z ∈ sortI false (dedI ns) ↔ ∃ k ∈ b, (k : Int) = z := fun z => by
    rw [(sortI_perm false _).mem_iff, dedI_mem, List.mem_map]
  have eS : ((sortI false (dedI ns)).map Int.toNat).map (fun k : Nat => (k : Int)) = sortI false (dedI ns) := by
    rw [List.map_map]
    have : ∀ z ∈ sortI false (dedI ns), ((fun k : Nat => (k : Int)) ∘ Int.toNat) z = z := fun z hz => by
      obtain ⟨k, _, rfl⟩ := (mem z).mp hz
      show (((k : Int).toNat : Nat) : Int) = k
      rw [Int.toNat_natCast]
    rw [List.map_congr_left this, List.map_id'']
    exact fun _ => rfl
  have memS : ∀ k : Nat, k ∈ (sortI false (dedI ns)).map Int.toNat ↔ k ∈ b := fun k => by
    constructor
    · intro h
      obtain ⟨z, hz, rfl⟩ := List.mem_map.mp h
      obtain ⟨q, hq, rfl⟩ := (mem z).mp hz
      rw [Int.toNat_natCast]; exact hq
    · intro h
      exact List.mem_map.mpr ⟨(k : Int), (mem _).mpr ⟨k, h, rfl⟩, Int.toNat_natCast k⟩
  have nd : ((sortI false (dedI ns)).map Int.toNat).Nodup := by
    have h1 : (sortI false (dedI ns)).Nodup := (sortI_perm false _).nodup_iff.mpr (dedI_nodup ns)
    rw [← eS] at h1
    exact List.Pairwise.of_map _ (fun a b h z => h (by rw [z])) h1
  have le : ((sortI false (dedI ns)).map Int.toNat).length < 64 := by
    have : ((sortI false (dedI ns)).map Int.toNat).length ≤ (List.range 63).length := List.Nodup.length_le_of_subset nd fun k hk => List.mem_range.mpr (h63 k ((memS k).mp hk))
    rw [List.length_range] at this
    omega
  refine ⟨_, ?_, nd, memS, le⟩
  have hd : (dedI ns).length < 64 := by
    have : (dedI ns).length = ((sortI false (dedI ns)).map Int.toNat).length := by rw [List.length_map, (sortI_perm false _).length_eq]
    omega
  show (asInts (.lst o (nats b))).bind setSI = _
  rw [show asInts (.lst o (nats b)) = some ns by rw [nats_ints]; exact intsL_map _]
  show setSI ns = _
  unfold setSI
  rw [if_pos ⟨by show (b.map _).length ≤ 4000; rw [List.length_map]; omega, hd⟩]
  congr 2
  rw [nats_ints, eS]
theorem count_cast (b : List Nat) (k : Nat) : (b.map fun k : Nat => (k : Int)).count (k : Int) = b.count k := by
  induction b with
  | nil => rfl
  | cons a b ih =>
    rw [List.map_cons, List.count_cons, List.count_cons, ih]
    by_cases h : a = k
    · subst h; simp
    · have : ¬ (a : Int) = k := by omega
      simp [h, this]
theorem u1_ok (a0 a1 a3 a4 : D) (b : List Nat) (hl : b.length ≤ 1000) (k : Nat) : U1_least_flip [a0, a1, .lst false (nats b), a3, a4, .int k] = .ok (decide (b.count k % 2 = 1)) [a0, a1, .lst false (nats b), a3, a4, .int k] := by
  have e : mLstI fCount (mVar 2) (mVar 5) [a0, a1, .lst false (nats b), a3, a4, .int (k : Int)] = .ok (.int (b.count k : Nat)) [a0, a1, .lst false (nats b), a3, a4, .int (k : Int)] := by
    have sh : shr (.lst false (nats b)) = true := shrL_nats b
    have v2 : mVar 2 [a0, a1, .lst false (nats b), a3, a4, .int (k : Int)] = .ok (.lst false (nats b)) [a0, a1, .lst false (nats b), a3, a4, .int (k : Int)] := by
      show (if shr (.lst false (nats b)) = true then _ else _) = _
      rw [if_pos sh]
    have v5 : mVar 5 [a0, a1, .lst false (nats b), a3, a4, .int (k : Int)] = .ok (.int k) [a0, a1, .lst false (nats b), a3, a4, .int (k : Int)] := rfl
    unfold mLstI
    rw [v2, bind_ok]
    have ai : asInts (.lst false (nats b)) = some (b.map fun k : Nat => (k : Int)) := by rw [nats_ints]; exact intsL_map _
    simp only [ai]
    rw [v5, bind_ok]
    unfold fCount
    simp only [count_cast]
  have t1 : (((b.count k : Nat) : Int) % 2 == 1) = decide (b.count k % 2 = 1) := by
    by_cases h : b.count k % 2 = 1
    · rw [decide_eq_true h, beq_iff_eq]; omega
    · rw [decide_eq_false h, beq_eq_false_iff_ne]; omega
  generalize decide (b.count k % 2 = 1) = v at *
  generalize ((b.count k : Nat) : Int) = c at *
  generalize D.lst false (nats b) = BD at *
  unfold U1_least_flip
  walk_at "zh"
theorem lp_loop (N : Nat) (hN : N ≤ 40) (es : List Ed) (hle : es.length ≤ 100) (hes : ∀ e ∈ es, EdOk N e) (x5 : D) : ∀ (m k : Nat) (o : Nat → Bool) (q : Option (List Nat)) (x3 x4 : D), k + m = N + 1 → Bst es k q → ∃ o' q' y3 y4, Bst es (N + 1) q' ∧
    mLoop (dName 3) L1_least_flip ((List.range' k m).map fun q : Nat => .int (q : Int)) [grD N es, .lst true (lkD N es o), bD q, x3, x4, x5] = .ok .nx [grD N es, .lst true (lkD N es o'), bD q', y3, y4, x5]
  | 0, k, o, q, x3, x4, hk, hq => ⟨o, q, x3, x4, by rw [← hk]; exact hq, rfl⟩
  | m + 1, k, o, q, x3, x4, hk, hq => by
    obtain ⟨o1, q1, y4, h1, e1⟩ := lp_step N hN es hle hes x4 x5 o q k (by omega) hq
    obtain ⟨o2, q2, z3, z4, h2, e2⟩ := lp_loop N hN es hle hes x5 m (k + 1) o1 q1 (.int k) y4 (by omega) h1
    refine ⟨o2, q2, z3, z4, h2, ?_⟩
    rw [List.range'_succ, List.map_cons, mLoop_cons, show dName 3 (.int (k : Int)) [grD N es, .lst true (lkD N es o), bD q, x3, x4, x5] = .ok () [grD N es, .lst true (lkD N es o), bD q, .int k, x4, x5] from rfl, goG_ok, e1, lpK_nx, e2]
theorem least_flip_p (N : Nat) (hN : N ≤ 40) (es : List Ed) (hle : es.length ≤ 60) (hes : ∀ e ∈ es, EdOk N e) :
    (r_least_flip [grD N es] = .ex 1 [grD N es] ∧ ∀ v w, v ≤ N → ¬ Wk es w (v, 1) (v, 0)) ∨
    ∃ b T, r_least_flip [grD N es] = .ok (.lst true (nats T)) [grD N es] ∧ T.length = (oddO es.length b).length ∧ (∃ v, v ≤ N ∧ Wk es b (v, 1) (v, 0)) ∧ (∀ v w, v ≤ N → Wk es w (v, 1) (v, 0) → b.length ≤ w.length) ∧ (∀ k, k ∈ T ↔ k ∈ oddO es.length b) ∧ T.Nodup := by
  have lk := links_ok N (by omega) es (by omega) hes
  obtain ⟨o', q, y3, y4, hq, lp⟩ := lp_loop N hN es (by omega) hes .hole (N + 1) 0 (fun _ => true) none .hole .hole (by omega) (fun v w hv => absurd hv (Nat.not_lt_zero v))
  rw [← List.range_eq_range'] at lp
  have iG := hole_gr N es
  have fG := flat_gr N es
  have g0 := get_gr0 N es
  have ln : -(2 : Int) ^ 62 ≤ (N : Int) + 1 ∧ (N : Int) + 1 < 2 ^ 62 := by omega
  have tn : ((N : Int) + 1).toNat = N + 1 := by omega
  cases q with
  | none =>
    left
    refine ⟨?_, fun v w hv => hq v w (by omega)⟩
    change mLoop _ _ _ [_, _, .non, _, _, _] = O.ok .nx [_, _, .non, _, _, _] at lp
    unfold r_least_flip b_least_flip
    rw [fnR_e _ _ _ _ rfl]
    clear hq hes
    generalize lkD N es o' = A2 at *
    generalize (lkD N es fun _ => true) = A1 at *
    generalize grD N es = G at *
    walk_at "zh"
  | some b =>
    right
    obtain ⟨bl, ⟨v, hv, hw⟩, hmin⟩ := hq
    have blt := hw.lt
    obtain ⟨S, hS, nd, hm, hS2⟩ := sort_set false b bl fun k hk => by have := blt k hk; omega
    refine ⟨b, S.filter fun k => decide (b.count k % 2 = 1), ?_, ?_, ⟨v, by omega, hw⟩, fun v w hv => hmin v w (by omega), ?_, ?_⟩
    · change mLoop _ _ _ [_, _, .non, _, _, _] = O.ok .nx [_, _, .lst false (nats b), _, _, _] at lp
      have lc := lc_natf (i := 5) (t := U1_least_flip) (E := [grD N es, .lst true (lkD N es o'), .lst false (nats b), y3, y4, .hole]) (fun k => decide (b.count k % 2 = 1)) S (by omega) (by simp) rfl (fun k hk => u1_ok (grD N es) (.lst true (lkD N es o')) y3 y4 b (by omega) k)
      have fS := frzL_nats S
      have sb : shr (.lst false (nats b)) = true := shrL_nats b
      unfold r_least_flip b_least_flip
      rw [fnR_e _ _ _ _ rfl]
      clear hes hmin blt nd hm
      generalize nats (S.filter fun k => decide (b.count k % 2 = 1)) = TS at *
      generalize nats S = SS at *
      generalize nats b = BB at *
      generalize lkD N es o' = A2 at *
      generalize (lkD N es fun _ => true) = A1 at *
      generalize grD N es = G at *
      walk_at "zh"
    · have pm : (S.filter fun k => decide (b.count k % 2 = 1)).Perm (oddO es.length b) := by
        refine (List.perm_ext_iff_of_nodup (List.Pairwise.filter _ nd) (List.Pairwise.filter _ List.nodup_range)).mpr fun k => ?_
        rw [List.mem_filter, List.mem_filter, List.mem_range, hm]
        constructor
        · rintro ⟨h1, h2⟩; exact ⟨blt k h1, h2⟩
        · rintro ⟨h1, h2⟩
          refine ⟨?_, h2⟩
          rw [decide_eq_true_eq] at h2
          exact List.count_pos_iff.mp (by omega)
      exact pm.length_eq
    · intro k
      unfold oddO
      rw [List.mem_filter, List.mem_filter, List.mem_range, hm]
      constructor
      · rintro ⟨h1, h2⟩; exact ⟨blt k h1, h2⟩
      · rintro ⟨h1, h2⟩
        refine ⟨?_, h2⟩
        rw [decide_eq_true_eq] at h2
        exact List.count_pos_iff.mp (by omega)
    · exact List.Pairwise.filter _ nd
theorem fault_distance_p (N : Nat) (hN : N ≤ 40) (es : List Ed) (hle : es.length ≤ 60) (hes : ∀ e ∈ es, EdOk N e) :
    (r_fault_distance [grD N es] = .ex 1 [grD N es] ∧ ∀ v w, v ≤ N → ¬ Wk es w (v, 1) (v, 0)) ∨
    ∃ b : List Nat, r_fault_distance [grD N es] = .ok (.int ((oddO es.length b).length : Nat)) [grD N es] ∧ (∃ v, v ≤ N ∧ Wk es b (v, 1) (v, 0)) ∧ (∀ v w, v ≤ N → Wk es w (v, 1) (v, 0) → b.length ≤ w.length) := by
  have iG := hole_gr N es
  have fG := flat_gr N es
  rcases least_flip_p N hN es hle hes with ⟨e, h⟩ | ⟨b, T, e, hT, h1, h2, _, _⟩
  · left
    refine ⟨?_, h⟩
    unfold r_fault_distance b_fault_distance
    rw [fnR_e _ _ _ _ rfl]
    clear h hes
    generalize grD N es = G at *
    walk_at "zh"
  · right
    refine ⟨b, ?_, h1, h2⟩
    have dl : dLen (.lst true (nats T)) = some (.int ((oddO es.length b).length : Nat)) := by rw [dLen_lst, nats_len, hT]
    unfold r_fault_distance b_fault_distance
    rw [fnR_e _ _ _ _ rfl]
    clear h1 h2 hes hT
    generalize (oddO es.length b).length = m at *
    generalize D.lst true (nats T) = TT at *
    generalize grD N es = G at *
    walk_at "zh"
theorem law_true (ns : List Int) (h : ns.length ≤ 63) : ∃ as, r_law [.out (ns.map .int)] = .ok (.bl true) as := by
  have c0 := cell_ok ns (by omega) 0
  obtain ⟨L, nu, _, hL⟩ := numbers_ok ns h 1 9 (by omega) (by omega)
  have ab0 := abs_e (cellI ns 0)
  generalize cellI ns 0 = z0 at *
  generalize z0.natAbs = dg at *
  obtain ⟨es, gr, hes, _, hle⟩ := graph_ok true L (by omega) (1 + dg % 8) (by omega)
  have en : (1 : Int) + (dg : Int) % 8 = ((1 + dg % 8 : Nat) : Int) := by omega
  have hN : 1 + dg % 8 ≤ 40 := by omega
  generalize 1 + dg % 8 = N at *
  obtain ⟨z, lf, hz⟩ := least_flip_ok N (by omega) es hes (by omega)
  have fd := fault_distance_p N hN es (by omega) hes
  generalize hX : D.out (ns.map .int) = X at *
  have iX : isHole X = false := by rw [← hX]; rfl
  have fX : isFlat X = false := by rw [← hX]; rfl
  rw [show ((0 : Nat) : Int) = 0 from rfl] at c0
  rw [show ((1 : Nat) : Int) = 1 from rfl, show ((9 : Nat) : Int) = 9 from rfl] at nu
  have sL := shrL_nats L
  have fL := frzL_nats L
  have sG := shr_gr N es
  have iG := hole_gr N es
  have fG := flat_gr N es
  have e1 : t_law_1 [X, .hole, .hole, .hole, .hole, .hole] = .ok .nx [X, .int dg, .hole, .hole, .hole, .hole] := by
    unfold t_law_1
    clear nu gr hes hX fd lf hz
    walk_at "zh"
  have e2 : t_law_2 [X, .int dg, .hole, .hole, .hole, .hole] = .ok .nx [X, .int dg, grD N es, .hole, .hole, .hole] := by
    unfold t_law_2
    clear c0 hes hX e1 fd lf hz
    generalize grD N es = G at *
    walk_at "zh"
  have e3 : t_law_3 [X, .int dg, grD N es, .hole, .hole, .hole] = .ok .nx [X, .int dg, grD N es, .int z, .hole, .hole] := by
    unfold t_law_3
    clear c0 nu gr hes hX e1 e2 fd hz
    generalize grD N es = G at *
    walk_at "zh"
  rcases fd with ⟨e, hno⟩ | ⟨b, e, ⟨v, hv, hw⟩, hmin⟩
  · have z1 := plain_none hes hno hz
    subst z1
    have e4 : t_law_4 [X, .int dg, grD N es, .int (-1), .hole, .hole] = .ok (.rt (.bl true)) [X, .int dg, grD N es, .int (-1), .hole, .hole] := by
      unfold t_law_4
      clear c0 nu gr hes hX e1 e2 e3 hno hz lf
      generalize grD N es = G at *
      walk_at "zh"
      rfl
    refine ⟨outs [true] [X] [X, .int dg, grD N es, .int (-1), .hole, .hole], ?_⟩
    unfold r_law
    rw [fnR_e _ _ _ _ rfl, b_law_e]
    rw [mSeq_e, show ent [true] [X] ++ List.replicate 5 D.hole = [X, .hole, .hole, .hole, .hole, .hole] from rfl, e1, sK_nx, mSeq_e, e2, sK_nx, mSeq_e, e3, sK_nx, mSeq_e, e4]
    rfl
  · have z1 := plain_some hes hw (fun v w hv hw' => hmin v w hv hw') hz
    have is := isint_ok z
    have eq := eq_int z z
    rw [beq_self_eq_true] at eq
    rw [← z1] at e
    have e4 : t_law_4 [X, .int dg, grD N es, .int z, .hole, .hole] = .ok .nx [X, .int dg, grD N es, .int z, .int z, .hole] := by
      unfold t_law_4
      clear c0 nu gr hes hX e1 e2 e3 hmin hz lf z1 is eq
      generalize grD N es = G at *
      walk_at "zh"
    have e5 : t_law_5 [X, .int dg, grD N es, .int z, .int z, .hole] = .ok (.rt (.bl true)) [X, .int dg, grD N es, .int z, .int z, .hole] := by
      unfold t_law_5
      clear c0 nu gr hes hX e1 e2 e3 e4 hmin hz lf z1 e
      generalize grD N es = G at *
      walk_at "zh"
    refine ⟨outs [true] [X] [X, .int dg, grD N es, .int z, .int z, .hole], ?_⟩
    unfold r_law
    rw [fnR_e _ _ _ _ rfl, b_law_e]
    rw [mSeq_e, show ent [true] [X] ++ List.replicate 5 D.hole = [X, .hole, .hole, .hole, .hole, .hole] from rfl, e1, sK_nx, mSeq_e, e2, sK_nx, mSeq_e, e3, sK_nx, mSeq_e, e4, sK_nx, e5]
    rfl
end Pk47

end
section
set_option maxRecDepth 100000
set_option maxHeartbeats 4000000
open PySem PySem.W PyProof.Rows
set_option maxHeartbeats 0 in
theorem PySem.Challenge.cw_bastion_k47_fault_distances_holds : PySem.Challenge.rw_bastion_k47_fault_distances.Holds := by
  w_on; o_law; k_head; (case hw => w_witness2)
  k_fill
  refine L2.walk_of (l := PySem.Challenge.rw_bastion_k47_fault_distances) (n := 63) (k := 4) (x := "_law_script") (CX := fun w => L2.CX (PySem.Challenge.rw_bastion_k47_fault_distances).prog w) (sp := fun w => (fun K => Z.spR ⟨K, Pk47.clK K⟩ Pk47.r_law 1) _) rfl (by decide) rfl ⟨rfl, by decide, by decide⟩ (fun w h Y => PySem.W.kIn_of Y) ?F (fun _ _ a ns hl _ hS => Z.law_sp hS (Pk47.law_true ns hl)) (fun _ _ _ _ _ h => Z.cx_none h)
  case F =>
    intro w mg fa h KX G hmg
    refine' Pk47.all_mk (w := w) KX G hmg ?a0 ?l0 ?c0 ?k0 ?a1 ?l1 ?c1 ?k1 ?a2 ?l2 ?c2 ?k2 ?a3 ?l3 ?c3 ?k3 ?a4 ?l4 ?c4 ?k4 ?a5 ?l5 ?c5 ?k5 ?a6 ?l6 ?c6 ?k6 ?a7 ?l7 ?c7 ?k7 ?a8 ?l8 ?c8 ?k8 ?a9 ?l9 ?c9 ?k9 ?z_abs ?z_bool ?z_enumerate ?z_int ?z_isinstance ?z_len ?z_max ?z_min ?z_range ?z_set ?z_sorted ?z_tuple ?cw0 ?cw1 ?cx1_q ?cx1_k ?cx1_s ?cx1_t ?ex_1_0a ?ex_1_0b ?ex_1_0c ?ex_1_0d ?ki_1_1a ?ki_1_1b ?ki_1_1c ?cc1_hg ?cc1_hk ?cc1_hs ?cc1_hd ?cc1_ha ?cc1_hn ?cc1_ht ?cc1_hm
    (case a0 => k_is)
    (case l0 => k_is)
    (case c0 => k_is)
    (case k0 => k_is)
    (case a1 => k_is)
    (case l1 => k_is)
    (case c1 => k_is)
    (case k1 => k_is)
    (case a2 => k_is)
    (case l2 => k_is)
    (case c2 => k_is)
    (case k2 => k_is)
    (case a3 => k_is)
    (case l3 => k_is)
    (case c3 => k_is)
    (case k3 => k_is)
    (case a4 => k_is)
    (case l4 => k_is)
    (case c4 => k_is)
    (case k4 => k_is)
    (case a5 => k_is)
    (case l5 => k_is)
    (case c5 => k_is)
    (case k5 => k_is)
    (case a6 => k_is)
    (case l6 => k_is)
    (case c6 => k_is)
    (case k6 => k_is)
    (case a7 => k_is)
    (case l7 => k_is)
    (case c7 => k_is)
    (case k7 => k_is)
    (case a8 => k_is)
    (case l8 => k_is)
    (case c8 => k_is)
    (case k8 => k_is)
    (case a9 => k_is)
    (case l9 => k_is)
    (case c9 => k_is)
    (case k9 => k_is)
    (case z_abs => k_is)
    (case z_bool => k_is)
    (case z_enumerate => k_is)
    (case z_int => k_is)
    (case z_isinstance => k_is)
    (case z_len => k_is)
    (case z_max => k_is)
    (case z_min => k_is)
    (case z_range => k_is)
    (case z_set => k_is)
    (case z_sorted => k_is)
    (case z_tuple => k_is)
    (case cw0 => k_is)
    (case cw1 => k_is)
    (case cx1_q => k_exc)
    (case cx1_k => k_is)
    (case cx1_s => k_is)
    (case cx1_t => k_is)
    (case ex_1_0a => k_is)
    (case ex_1_0b => k_is)
    (case ex_1_0c => k_is)
    (case ex_1_0d => k_is)
    (case ki_1_1a => k_is)
    (case ki_1_1b => k_is)
    (case ki_1_1c => k_is)
    (case cc1_hg => k_is)
    (case cc1_hk => k_is)
    (case cc1_hs => k_is)
    (case cc1_hd => k_is)
    (case cc1_ha => k_is)
    (case cc1_hn => k_is)
    (case cc1_ht => k_is)
    (case cc1_hm => k_is)

end
