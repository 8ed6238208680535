import PyProof.Rows.All
import Wide.All
import OpenK.AllK
import Wide.FinOn
import HandS.ForMost
import HandS.ForExc
import HandS.CallSlots
import HandS.Walk
import HandS.Wide
import HandS.IsInst
import HandS.ExcIs
import HandS.ExcField
import HandS.ExcInit
import HandS.Defaults
import HandS.HeadHook4
import HandS.TupAny
import HandS.TupMul
import HandS.Deep
import HandS.TupLe
import HandS.WideBits
import HandS.More
import HandS.SetFor
import HandS.ExcOwn
import HandS.EndBits
import HandS.ClsMeth
import HandS.Comp
import HandS.RevRange
import HandS.Rev
import HandS.Head0
import HandS.Head1
import HandS.Head2
import HandS.HeadEnd
import HandS.HeadHook1
import HandS.HeadHook2
import HandS.HeadHook3
import KE.KExcIs
import PyProof.ListRange
import PyProof.CollectIter
import PyProof.FactsAll.range_iterator_1
import HandS.Conv
import HandS.Set
import HandS.Strs
import PyProof.Rows.SetFrom
import HandS.DictTup
import HandS.Exc
import HandS.Text
import PyProof.DictRoadsH
import KE.KDictCopyH
import KE.GoesNew
import KE.GoesMore
import HandS.Zip
import HandS.Replace
import HandS.Codes
import PySem.Challenge.RW_slackchain_k23_least_sums_reached
set_option Elab.async false
set_option linter.all false
set_option maxRecDepth 100000
set_option maxHeartbeats 0
/-! DL0: values as trees, the readings over them. -/
namespace DL
open PySem PySem.Spec PyProof.Rows L2

/-- a table's row, by a name (irreducible: comparing texts by whnf is slow without end) -/
@[irreducible] def lookS {α : Type} (a : String) (l : List (String × α)) : Option α := l.lookup a
theorem lookS_eq {α : Type} (a : String) (l : List (String × α)) : lookS a l = l.lookup a := by unfold lookS; rfl
@[simp] theorem lookS_nil {α : Type} (a : String) : lookS a ([] : List (String × α)) = none := by rw [lookS_eq]; rfl
@[simp] theorem lookS_cons {α : Type} (a k : String) (b : α) (l : List (String × α)) : lookS a ((k, b) :: l) = if k = a then some b else lookS a l := by
  rw [lookS_eq, lookS_eq, List.lookup_cons]
  by_cases h : k = a
  · subst h; simp
  · have : (a == k) = false := beq_eq_false_iff_ne.mpr fun e => h e.symm
    rw [this, if_neg h]
/-- a value as data: tuples, frozen lists, dicts and objects by what they hold; ref: an object that may change -/
inductive D where
  | non | bl (b : Bool) | int (i : Int) | str (x : Str)
  | tup (l : List D) | lst (l : List D) | rol (l : List D)
  | dic (ks : List Key) (vs : List D)
  | obj (c : String) (ns : List String) (vs : List D)
  | ref (a : Addr)

/-- what may change at an address -/
inductive AO where
  | lst (l : List D) | dic (kvs : List (Key × D)) | obj (c : String) (fs : List (String × D))
  | tk (hf : Str → Bool → Int) (kvs : List ((Str × Bool) × D))

abbrev AH := Addr → Option AO
def AH.put (A : AH) (a : Addr) (o : AO) : AH := fun b => if b = a then some o else A b
def AH.del (A : AH) (a : Addr) : AH := fun b => if b = a then none else A b
@[simp] theorem AH.put_same (A : AH) (a : Addr) (o : AO) : (A.put a o) a = some o := if_pos rfl
theorem AH.put_ne (A : AH) {a b : Addr} (o : AO) (h : b ≠ a) : (A.put a o) b = A b := if_neg h
@[simp] theorem AH.put_put (A : AH) (a : Addr) (o u : AO) : (A.put a o).put a u = A.put a u := by
  funext b; unfold AH.put; split <;> rfl
@[simp] theorem AH.del_put {A : AH} {a : Addr} {o : AO} (h : A a = none) : (A.put a o).del a = A := by
  funext b; simp only [AH.put, AH.del]
  by_cases hb : b = a
  · rw [if_pos hb, hb, h]
  · rw [if_neg hb, if_neg hb]
theorem AH.del_ne (A : AH) {a b : Addr} (h : b ≠ a) : (A.del a) b = A b := if_neg h
@[simp] theorem AH.del_same (A : AH) (a : Addr) : (A.del a) a = none := if_pos rfl
@[simp] theorem AH.put_none {A : AH} {a b : Addr} {o : AO} : (A.put a o) b = none ↔ b ≠ a ∧ A b = none := by
  unfold AH.put
  by_cases hb : b = a
  · rw [if_pos hb]; simp [hb]
  · rw [if_neg hb]; simp [hb]
/-! ### relations -/
section
variable (K : PySem.W.Frag)
mutual
def RV (Z : Hp) : D → V → Prop
  | .non, v => v = .non
  | .bl b, v => v = .bl b
  | .int i, v => v = .int i
  | .str x, v => v = .str x
  | .tup l, v => ∃ p vs, v = .ref p ∧ SqT K Z p vs ∧ RVs Z l vs
  | .lst l, v => ∃ p vs, v = .ref p ∧ Z p = some (.lst vs) ∧ RVs Z l vs
  | .rol l, v => ∃ p vs, v = .ref p ∧ SqL K Z p vs ∧ RVs Z l vs
  | .dic ks ds, v => ∃ p kvs, v = .ref p ∧ Z p = some (.dK kvs) ∧ kvs.map (·.1) = ks ∧ RVs Z ds (kvs.map (·.2))
  | .obj c ns ds, v => ∃ p dx fs, v = .ref p ∧ Z p = some (.ins (He.ga K (Str.ofString c)) dx fs) ∧ fs.map (·.1) = ns.map Str.ofString ∧ RVs Z ds (fs.map (·.2))
  | .ref a, v => v = .ref a
def RVs (Z : Hp) : List D → List V → Prop
  | [], vs => vs = []
  | d :: l, vs => ∃ v r, vs = v :: r ∧ RV Z d v ∧ RVs Z l r
end
end
variable {K : PySem.W.Frag} {Z Z' : Hp}
theorem rd_mono (e : Same Z Z') {a : Addr} {u : HO} (h : Rd Z a u) : Rd Z' a u := by
  rcases h with h | ⟨o, h⟩
  · exact .inl (e _ _ h)
  · exact .inr ⟨o, e _ _ h⟩
theorem sqL_mono (e : Same Z Z') {a : Addr} {xs : List V} (h : SqL K Z a xs) : SqL K Z' a xs := h.imp (rd_mono e) id
theorem sqT_mono (e : Same Z Z') {a : Addr} {xs : List V} (h : SqT K Z a xs) : SqT K Z' a xs := h.imp (rd_mono e) id
mutual
theorem RV.mono (e : Same Z Z') : ∀ {d : D} {v : V}, RV K Z d v → RV K Z' d v
  | .non, _, h => by simpa only [RV] using h
  | .bl _, _, h => by simpa only [RV] using h
  | .int _, _, h => by simpa only [RV] using h
  | .str _, _, h => by simpa only [RV] using h
  | .ref _, _, h => by simpa only [RV] using h
  | .tup l, _, h => by
    simp only [RV] at h ⊢
    obtain ⟨p, vs, h1, h2, h3⟩ := h
    exact ⟨p, vs, h1, sqT_mono e h2, RVs.mono e h3⟩
  | .lst l, _, h => by
    simp only [RV] at h ⊢
    obtain ⟨p, vs, h1, h2, h3⟩ := h
    exact ⟨p, vs, h1, e _ _ h2, RVs.mono e h3⟩
  | .rol l, _, h => by
    simp only [RV] at h ⊢
    obtain ⟨p, vs, h1, h2, h3⟩ := h
    exact ⟨p, vs, h1, sqL_mono e h2, RVs.mono e h3⟩
  | .dic ks ds, _, h => by
    simp only [RV] at h ⊢
    obtain ⟨p, kvs, h1, h2, h3, h4⟩ := h
    exact ⟨p, kvs, h1, e _ _ h2, h3, RVs.mono e h4⟩
  | .obj c ns ds, _, h => by
    simp only [RV] at h ⊢
    obtain ⟨p, dx, fs, h1, h2, h3, h4⟩ := h
    exact ⟨p, dx, fs, h1, e _ _ h2, h3, RVs.mono e h4⟩
theorem RVs.mono (e : Same Z Z') : ∀ {l : List D} {vs : List V}, RVs K Z l vs → RVs K Z' l vs
  | [], _, h => by simpa only [RVs] using h
  | d :: l, _, h => by
    simp only [RVs] at h ⊢
    obtain ⟨v, r, h1, h2, h3⟩ := h
    exact ⟨v, r, h1, RV.mono e h2, RVs.mono e h3⟩
end
theorem RVs.nil : RVs K Z [] [] := by simp only [RVs]
theorem RVs.cons {d : D} {v : V} {l : List D} {r : List V} (h : RV K Z d v) (t : RVs K Z l r) : RVs K Z (d :: l) (v :: r) := by
  simp only [RVs]; exact ⟨v, r, rfl, h, t⟩
theorem RVs.inv {d : D} {l : List D} {vs : List V} (h : RVs K Z (d :: l) vs) : ∃ v r, vs = v :: r ∧ RV K Z d v ∧ RVs K Z l r := by
  simpa only [RVs] using h
theorem RVs.inv0 {vs : List V} (h : RVs K Z [] vs) : vs = [] := by simpa only [RVs] using h
theorem RVs.len : ∀ {l : List D} {vs : List V}, RVs K Z l vs → vs.length = l.length
  | [], _, h => by rw [h.inv0]; rfl
  | d :: l, _, h => by
    obtain ⟨v, r, rfl, _, h3⟩ := h.inv
    rw [List.length_cons, List.length_cons, RVs.len h3]
theorem RVs.get : ∀ {l : List D} {vs : List V} {i : Nat} {v : V}, RVs K Z l vs → vs[i]? = some v → ∃ d, l[i]? = some d ∧ RV K Z d v
  | [], _, _, _, h, e => by rw [h.inv0] at e; simp at e
  | d :: l, _, 0, _, h, e => by
    obtain ⟨v, r, rfl, h2, _⟩ := h.inv
    simp at e; subst e; exact ⟨d, rfl, h2⟩
  | d :: l, _, i + 1, _, h, e => by
    obtain ⟨v, r, rfl, _, h3⟩ := h.inv
    simp only [List.getElem?_cons_succ] at e ⊢
    exact RVs.get h3 e
theorem RVs.get' : ∀ {l : List D} {vs : List V} {i : Nat} {d : D}, RVs K Z l vs → l[i]? = some d → ∃ v, vs[i]? = some v ∧ RV K Z d v
  | [], _, _, _, h, e => by simp at e
  | x :: l, _, 0, _, h, e => by
    obtain ⟨v, r, rfl, h2, _⟩ := h.inv
    simp at e; subst e; exact ⟨v, rfl, h2⟩
  | x :: l, _, i + 1, _, h, e => by
    obtain ⟨v, r, rfl, _, h3⟩ := h.inv
    simp only [List.getElem?_cons_succ] at e ⊢
    exact RVs.get' h3 e
theorem RVs.append : ∀ {l m : List D} {vs us : List V}, RVs K Z l vs → RVs K Z m us → RVs K Z (l ++ m) (vs ++ us)
  | [], _, _, _, h, q => by rw [h.inv0]; exact q
  | d :: l, _, _, _, h, q => by
    obtain ⟨v, r, rfl, h2, h3⟩ := h.inv
    exact RVs.cons h2 (RVs.append h3 q)
theorem RVs.take : ∀ {l : List D} {vs : List V} (n : Nat), RVs K Z l vs → RVs K Z (l.take n) (vs.take n)
  | _, _, 0, _ => by simp only [List.take_zero]; exact RVs.nil
  | [], _, n + 1, h => by rw [h.inv0]; exact RVs.nil
  | d :: l, _, n + 1, h => by
    obtain ⟨v, r, rfl, h2, h3⟩ := h.inv
    exact RVs.cons h2 (RVs.take n h3)
theorem RVs.drop : ∀ {l : List D} {vs : List V} (n : Nat), RVs K Z l vs → RVs K Z (l.drop n) (vs.drop n)
  | _, _, 0, h => h
  | [], _, n + 1, h => by rw [h.inv0]; exact RVs.nil
  | d :: l, _, n + 1, h => by
    obtain ⟨v, r, rfl, h2, h3⟩ := h.inv
    exact RVs.drop n h3
theorem RVs.set : ∀ {l : List D} {vs : List V} (i : Nat) {d : D} {v : V}, RVs K Z l vs → RV K Z d v → RVs K Z (l.set i d) (vs.set i v)
  | [], _, _, _, _, h, _ => by rw [h.inv0]; exact RVs.nil
  | x :: l, _, 0, _, _, h, q => by
    obtain ⟨v, r, rfl, h2, h3⟩ := h.inv
    exact RVs.cons q h3
  | x :: l, _, i + 1, _, _, h, q => by
    obtain ⟨v, r, rfl, h2, h3⟩ := h.inv
    exact RVs.cons h2 (RVs.set i h3 q)
theorem RVs.reverse : ∀ {l : List D} {vs : List V}, RVs K Z l vs → RVs K Z l.reverse vs.reverse
  | [], _, h => by rw [h.inv0]; exact RVs.nil
  | d :: l, _, h => by
    obtain ⟨v, r, rfl, h2, h3⟩ := h.inv
    rw [List.reverse_cons, List.reverse_cons]
    exact RVs.append (RVs.reverse h3) (RVs.cons h2 RVs.nil)

/-- a dict whose keys are pairs of a text and a truth: its entries -/
def TkO (hf : Str → Bool → Int) (a : Addr) (us : List ((Str × Bool) × Addr × V)) (h : Heap) : Prop :=
  (a == sysModules) = false ∧ us.length ≤ sizeLine ∧ (us.map (·.1)).Nodup ∧ ∃ vs : List Value, Vals (us.map (·.2.2)) vs ∧ ∃ o es ep, h.get? a = some o ∧ o.ExactDict ∧ o.data = .dict es ep ∧
    es.toList = (us.zip vs).map fun x => (⟨hf x.1.1.1 x.1.1.2, .ref x.1.2.1, x.2⟩ : DictEntry)
/-- an object that may change -/
def RO (K : PySem.W.Frag) (Z H : Hp) (a : Addr) : AO → Prop
  | .lst l => ∃ vs, H a = some (.lst vs) ∧ RVs K Z l vs
  | .dic kvs => ∃ us, H a = some (.dK us) ∧ us.map (·.1) = kvs.map (·.1) ∧ RVs K Z (kvs.map (·.2)) (us.map (·.2))
  | .obj c fs => ∃ dx us, H a = some (.ins (He.ga K (Str.ofString c)) dx us) ∧ us.map (·.1) = fs.map (fun p => Str.ofString p.1) ∧ RVs K Z (fs.map (·.2)) (us.map (·.2))
  | .tk hf kvs => ∃ us : List ((Str × Bool) × Addr × V), H a = some (.ext (TkO hf a us)) ∧ us.map (·.1) = kvs.map (·.1) ∧ RVs K Z (kvs.map (·.2)) (us.map (·.2.2)) ∧ ∀ u ∈ us, SqT K Z u.2.1 [.str u.1.1, .bl u.1.2]
structure RA (K : PySem.W.Frag) (Z : Hp) (A : AH) (H : Hp) : Prop where
  sub : Same Z H
  at_ : ∀ a o, A a = some o → Z a = none ∧ RO K Z H a o
theorem RO.mono {H : Hp} (e : Same Z Z') {a : Addr} {o : AO} (h : RO K Z H a o) : RO K Z' H a o := by
  cases o with
  | lst l => obtain ⟨vs, h1, h2⟩ := h; exact ⟨vs, h1, h2.mono e⟩
  | dic kvs => obtain ⟨us, h1, h2, h3⟩ := h; exact ⟨us, h1, h2, h3.mono e⟩
  | obj c fs => obtain ⟨dx, us, h1, h2, h3⟩ := h; exact ⟨dx, us, h1, h2, h3.mono e⟩
  | tk hf kvs => obtain ⟨us, h1, h2, h3, h4⟩ := h; exact ⟨us, h1, h2, h3.mono e, fun u hu => sqT_mono e (h4 u hu)⟩
theorem RO.keep {H H' : Hp} {a : Addr} {o : AO} (e : H' a = H a) (h : RO K Z H a o) : RO K Z H' a o := by
  cases o with
  | lst l => obtain ⟨vs, h1, h2⟩ := h; exact ⟨vs, e.trans h1, h2⟩
  | dic kvs => obtain ⟨us, h1, h2⟩ := h; exact ⟨us, e.trans h1, h2⟩
  | obj c fs => obtain ⟨dx, us, h1, h2⟩ := h; exact ⟨dx, us, e.trans h1, h2⟩
  | tk hf kvs => obtain ⟨us, h1, h2⟩ := h; exact ⟨us, e.trans h1, h2⟩
theorem RO.there {H : Hp} {a : Addr} {o : AO} (h : RO K Z H a o) : ∃ u, H a = some u := by
  cases o with
  | lst l => obtain ⟨vs, h1, _⟩ := h; exact ⟨_, h1⟩
  | dic kvs => obtain ⟨us, h1, _⟩ := h; exact ⟨_, h1⟩
  | obj c fs => obtain ⟨dx, us, h1, _⟩ := h; exact ⟨_, h1⟩
  | tk hf kvs => obtain ⟨us, h1, _⟩ := h; exact ⟨_, h1⟩
section
variable {A : AH} {H : Hp} {p : Addr}
theorem RA.fresh (R : RA K Z A H) (h : H p = none) : A p = none ∧ Z p = none := by
  constructor
  · cases e : A p with
    | none => rfl
    | some o =>
      obtain ⟨u, q⟩ := (R.at_ p o e).2.there
      rw [h] at q; cases q
  · cases e : Z p with
    | none => rfl
    | some o => rw [R.sub p o e] at h; cases h
/-- a new frozen object -/
theorem RA.newF (R : RA K Z A H) (h : H p = none) (o : HO) : Same Z (upd Z p o) ∧ RA K (upd Z p o) A (upd H p o) := by
  obtain ⟨hA, hZ⟩ := R.fresh h
  have s : Same Z (upd Z p o) := fun a u e => by rw [upd_ne (ne_of_none e hZ)]; exact e
  refine ⟨s, ⟨fun a u e => ?_, fun a u e => ?_⟩⟩
  · by_cases ha : a = p
    · subst ha; rw [upd_same] at e ⊢; exact e
    · rw [upd_ne ha] at e ⊢; exact R.sub a u e
  · have ha : a ≠ p := fun z => by rw [z, hA] at e; cases e
    obtain ⟨h1, h2⟩ := R.at_ a u e
    exact ⟨by rw [upd_ne ha]; exact h1, (h2.mono s).keep (upd_ne ha)⟩
/-- a new object that may change -/
theorem RA.newO (R : RA K Z A H) (h : H p = none) {o : HO} {u : AO} (q : RO K Z (upd H p o) p u) : RA K Z (A.put p u) (upd H p o) := by
  obtain ⟨hA, hZ⟩ := R.fresh h
  refine ⟨fun a u e => ?_, fun a v e => ?_⟩
  · rw [upd_ne (ne_of_none e hZ)]; exact R.sub a u e
  · by_cases ha : a = p
    · subst ha; rw [AH.put_same] at e; cases e; exact ⟨hZ, q⟩
    · rw [AH.put_ne A u ha] at e
      obtain ⟨h1, h2⟩ := R.at_ a v e
      exact ⟨h1, h2.keep (upd_ne ha)⟩
/-- an object is changed -/
theorem RA.write (R : RA K Z A H) {u : AO} {u' : AO} (h : A p = some u') {o : HO} (q : RO K Z (upd H p o) p u) : RA K Z (A.put p u) (upd H p o) := by
  have hZ := (R.at_ p u' h).1
  refine ⟨fun a u e => ?_, fun a v e => ?_⟩
  · rw [upd_ne (ne_of_none e hZ)]; exact R.sub a u e
  · by_cases ha : a = p
    · subst ha; rw [AH.put_same] at e; cases e; exact ⟨hZ, q⟩
    · rw [AH.put_ne A u ha] at e
      obtain ⟨h1, h2⟩ := R.at_ a v e
      exact ⟨h1, h2.keep (upd_ne ha)⟩
/-- an object changes no more -/
theorem RA.freeze (R : RA K Z A H) {o : AO} {u : HO} (h : A p = some o) (e : H p = some u) : Same Z (upd Z p u) ∧ RA K (upd Z p u) (A.del p) H := by
  have hZ := (R.at_ p o h).1
  have s : Same Z (upd Z p u) := fun a w e => by rw [upd_ne (ne_of_none e hZ)]; exact e
  refine ⟨s, ⟨fun a w q => ?_, fun a w q => ?_⟩⟩
  · by_cases ha : a = p
    · subst ha; rw [upd_same] at q; cases q; exact e
    · rw [upd_ne ha] at q; exact R.sub a w q
  · by_cases ha : a = p
    · subst ha; rw [AH.del_same] at q; cases q
    · rw [AH.del_ne A ha] at q
      obtain ⟨h1, h2⟩ := R.at_ a w q
      exact ⟨by rw [upd_ne ha]; exact h1, h2.mono s⟩
theorem RA.same {A' : AH} (R : RA K Z A H) (h : ∀ a o, A' a = some o → A a = some o) : RA K Z A' H := ⟨R.sub, fun a o e => R.at_ a o (h a o e)⟩
/-- the heap may grow by what nobody knows of -/
theorem RA.grow {H' : Hp} (R : RA K Z A H) (h : Same H H') : RA K Z A H' := ⟨R.sub.trans h, fun a o e => by
  obtain ⟨h1, h2⟩ := R.at_ a o e
  refine ⟨h1, ?_⟩
  obtain ⟨u, q⟩ := h2.there
  exact h2.keep ((h a u q).trans q.symm)⟩
end

abbrev DSt := List (Option D)
def RSl (K : PySem.W.Frag) (Z : Hp) : Option D → Option V → Prop
  | none, _ => True
  | some d, some v => RV K Z d v
  | some _, none => False
abbrev RS (K : PySem.W.Frag) (Z : Hp) : DSt → L2.St → Prop := Paired (RSl K Z)
theorem RSl.mono (e : Same Z Z') {a : Option D} {b : Option V} (h : RSl K Z a b) : RSl K Z' a b := by
  cases a with
  | none => trivial
  | some d => cases b with
    | none => exact h
    | some v => exact RV.mono e h
theorem RS.mono (e : Same Z Z') {δ : DSt} {σ : L2.St} (h : RS K Z δ σ) : RS K Z' δ σ := Paired.mapP h fun _ _ => RSl.mono e
theorem RS.get : ∀ {δ : DSt} {σ : L2.St} {i : Nat} {d : D}, RS K Z δ σ → δ[i]? = some (some d) → ∃ v, σ[i]? = some (some v) ∧ RV K Z d v
  | _, _, _, _, .nil, e => by simp at e
  | _, _, 0, _, .cons (a := a) (b := b) r _, e => by
    simp at e; subst e
    cases b with
    | none => exact r.elim
    | some v => exact ⟨v, rfl, r⟩
  | _, _, i + 1, _, .cons _ t, e => by
    simp only [List.getElem?_cons_succ] at e ⊢
    exact RS.get t e
theorem RS.set : ∀ {δ : DSt} {σ : L2.St} (i : Nat) {a : Option D} {b : Option V}, RS K Z δ σ → RSl K Z a b → RS K Z (δ.set i a) (σ.set i b)
  | _, _, _, _, _, .nil, _ => .nil
  | _, _, 0, _, _, .cons _ t, q => .cons q t
  | _, _, i + 1, _, _, .cons r t, q => .cons r (RS.set i t q)
theorem RS.len {δ : DSt} {σ : L2.St} (h : RS K Z δ σ) : δ.length = σ.length := Paired.length h

/-! ### readings over data -/
abbrev DK := D → AH → Prop
abbrev DE := DSt → AH → DK → Prop
abbrev DT := DSt → AH → (Bool → AH → Prop) → Prop
abbrev DA := DSt → AH → (List D → AH → Prop) → Prop
structure DEnds where
  nx : DSt → AH → Prop
  rt : DK
  bk : DSt → AH → Prop := fun _ _ => False
  ct : DSt → AH → Prop := fun _ _ => False
abbrev DS := DEnds → DSt → AH → Prop
/-- what is wished of an exception: its class, its fields -/
abbrev DX := String → List (String × D) → AH → Prop
abbrev DW := String → List (String × D) → DSt → AH → Prop

def liftE (K : PySem.W.Frag) (Z0 : Hp) (t : DE) : TE := fun σ H Q => ∃ Z δ A Kt, Same Z0 Z ∧ RS K Z δ σ ∧ RA K Z A H ∧ t δ A Kt ∧
  ∀ Z' d A' v H', Same Z Z' → RA K Z' A' H' → RV K Z' d v → Kt d A' → Q v H'
def liftT (K : PySem.W.Frag) (Z0 : Hp) (t : DT) : TT := fun σ H Q => ∃ Z δ A Kt, Same Z0 Z ∧ RS K Z δ σ ∧ RA K Z A H ∧ t δ A Kt ∧
  ∀ Z' b A' H', Same Z Z' → RA K Z' A' H' → Kt b A' → Q b H'
def liftA (K : PySem.W.Frag) (Z0 : Hp) (t : DA) : TA := fun σ H Q => ∃ Z δ A Kt, Same Z0 Z ∧ RS K Z δ σ ∧ RA K Z A H ∧ t δ A Kt ∧
  ∀ Z' ds A' vs H', Same Z Z' → RA K Z' A' H' → RVs K Z' ds vs → Kt ds A' → Q vs H'
structure RE (K : PySem.W.Frag) (Z : Hp) (DD : DEnds) (DV : Ends) : Prop where
  nx : ∀ Z' δ A σ H, Same Z Z' → RS K Z' δ σ → RA K Z' A H → DD.nx δ A → DV.nx σ H
  rt : ∀ Z' d A v H, Same Z Z' → RA K Z' A H → RV K Z' d v → DD.rt d A → DV.rt v H
  bk : ∀ Z' δ A σ H, Same Z Z' → RS K Z' δ σ → RA K Z' A H → DD.bk δ A → DV.bk σ H
  ct : ∀ Z' δ A σ H, Same Z Z' → RS K Z' δ σ → RA K Z' A H → DD.ct δ A → DV.ct σ H
theorem RE.mono {DD : DEnds} {DV : Ends} (e : Same Z Z') (h : RE K Z DD DV) : RE K Z' DD DV :=
  ⟨fun W δ A σ H s => h.nx W δ A σ H (e.trans s), fun W d A v H s => h.rt W d A v H (e.trans s), fun W δ A σ H s => h.bk W δ A σ H (e.trans s), fun W δ A σ H s => h.ct W δ A σ H (e.trans s)⟩
def liftS (K : PySem.W.Frag) (Z0 : Hp) (t : DS) : TS := fun DV σ H => ∃ Z δ A DD, Same Z0 Z ∧ RS K Z δ σ ∧ RA K Z A H ∧ t DD δ A ∧ RE K Z DD DV

abbrev QE (X : Cx) (Z0 : Hp) (e : Expr) (t : DE) : Prop := PE X e (liftE X.K Z0 t)
abbrev QT (X : Cx) (Z0 : Hp) (e : Expr) (t : DT) : Prop := PT X e (liftT X.K Z0 t)
abbrev QW (X : Cx) (Z0 : Hp) (e : Expr) (t : DT) : Prop := PW X e (liftT X.K Z0 t)
abbrev QA (X : Cx) (Z0 : Hp) (es : List Expr) (t : DA) : Prop := PA X es (liftA X.K Z0 t)
abbrev QS (X : Cx) (Z0 : Hp) (st : Stmt) (t : DS) : Prop := PS X st (liftS X.K Z0 t)
abbrev QSs (X : Cx) (Z0 : Hp) (st : List Stmt) (t : DS) : Prop := PSs X st (liftS X.K Z0 t)

theorem PE.imp {X : Cx} {e : Expr} {t u : TE} (h : PE X e t) (i : ∀ σ H Q, u σ H Q → t σ H Q) : PE X e u := ⟨fun pins s σ H Q I q => h.run pins s σ H Q I (i σ H Q q)⟩
theorem PT.imp {X : Cx} {e : Expr} {t u : TT} (h : PT X e t) (i : ∀ σ H Q, u σ H Q → t σ H Q) : PT X e u := ⟨fun pins s σ H Q I q => h.run pins s σ H Q I (i σ H Q q)⟩
theorem PW.imp {X : Cx} {e : Expr} {t u : TT} (h : PW X e t) (i : ∀ σ H Q, u σ H Q → t σ H Q) : PW X e u := ⟨fun wh pins s σ H Q I q => h.run wh pins s σ H Q I (i σ H Q q)⟩
theorem PA.imp {X : Cx} {e : List Expr} {t u : TA} (h : PA X e t) (i : ∀ σ H Q, u σ H Q → t σ H Q) : PA X e u := ⟨fun pos pins s σ H Q I q => h.run pos pins s σ H Q I (i σ H Q q)⟩
theorem PS.imp {X : Cx} {e : Stmt} {t u : TS} (h : PS X e t) (i : ∀ D σ H, u D σ H → t D σ H) : PS X e u := ⟨fun pins s σ H D I q => h.run pins s σ H D I (i D σ H q)⟩
theorem PSs.imp {X : Cx} {e : List Stmt} {t u : TS} (h : PSs X e t) (i : ∀ D σ H, u D σ H → t D σ H) : PSs X e u := ⟨fun pins s σ H D I q => h.run pins s σ H D I (i D σ H q)⟩

/-! ### promises -/
abbrev DSp := List D → AH → DK → DX → Prop
/-- an exception as data -/
def RX (K : PySem.W.Frag) (Z : Hp) (c : String) (fs : List (String × D)) (cv : Value) (dd : Option Addr) : Prop :=
  cv = .ref (He.ga K (Str.ofString c)) ∧ ((fs = [] ∧ dd = none) ∨ ∃ a us, fs ≠ [] ∧ dd = some a ∧ Z a = some (.xd us) ∧ us.map (·.1) = fs.map (fun p => Str.ofString p.1) ∧ RVs K Z (fs.map (·.2)) (us.map (·.2)))
theorem RX.mono (e : Same Z Z') {c : String} {fs : List (String × D)} {cv : Value} {dd : Option Addr} (h : RX K Z c fs cv dd) : RX K Z' c fs cv dd := by
  obtain ⟨h1, h2⟩ := h
  refine ⟨h1, ?_⟩
  rcases h2 with h2 | ⟨a, us, q0, q1, q2, q3, q4⟩
  · exact .inl h2
  · exact .inr ⟨a, us, q0, q1, e _ _ q2, q3, q4.mono e⟩
def liftSp (K : PySem.W.Frag) (sp : DSp) : Sp := fun vs H Q E => ∃ Z ds A Kt Ex, RVs K Z ds vs ∧ RA K Z A H ∧ sp ds A Kt Ex ∧
  (∀ Z' d A' v H', Same Z Z' → RA K Z' A' H' → RV K Z' d v → Kt d A' → Q v H') ∧
  (∀ Z' c fs A' cv dd H', Same Z Z' → RA K Z' A' H' → RX K Z' c fs cv dd → Ex c fs A' → E cv dd H')
/-- a wish, over the slots -/
def liftW (K : PySem.W.Frag) (Z0 : Hp) (w : DW) : WX := fun cv dd σ H => ∃ Z δ A c fs, Same Z0 Z ∧ RS K Z δ σ ∧ RA K Z A H ∧ RX K Z c fs cv dd ∧ w c fs δ A
end DL


/-! DL1: expressions over data. -/
namespace DL
open PySem PySem.Spec PyProof.Rows L2
variable {K : PySem.W.Frag} {Z Z' Z0 : Hp}
theorem rv_int {i : Int} {v : V} (h : RV K Z (.int i) v) : v = .int i := by simpa only [RV] using h
theorem rv_bl {b : Bool} {v : V} (h : RV K Z (.bl b) v) : v = .bl b := by simpa only [RV] using h
theorem rv_str {x : Str} {v : V} (h : RV K Z (.str x) v) : v = .str x := by simpa only [RV] using h
theorem rv_non {v : V} (h : RV K Z .non v) : v = .non := by simpa only [RV] using h
theorem rv_ref {a : Addr} {v : V} (h : RV K Z (.ref a) v) : v = .ref a := by simpa only [RV] using h
theorem rv_tup {l : List D} {v : V} (h : RV K Z (.tup l) v) : ∃ p vs, v = .ref p ∧ SqT K Z p vs ∧ RVs K Z l vs := by simpa only [RV] using h
theorem rv_lst {l : List D} {v : V} (h : RV K Z (.lst l) v) : ∃ p vs, v = .ref p ∧ Z p = some (.lst vs) ∧ RVs K Z l vs := by simpa only [RV] using h
theorem rv_rol {l : List D} {v : V} (h : RV K Z (.rol l) v) : ∃ p vs, v = .ref p ∧ SqL K Z p vs ∧ RVs K Z l vs := by simpa only [RV] using h
theorem rv_dic {ks : List Key} {l : List D} {v : V} (h : RV K Z (.dic ks l) v) : ∃ p kvs, v = .ref p ∧ Z p = some (.dK kvs) ∧ kvs.map (·.1) = ks ∧ RVs K Z l (kvs.map (·.2)) := by simpa only [RV] using h
theorem rv_obj {c : String} {ns : List String} {l : List D} {v : V} (h : RV K Z (.obj c ns l) v) : ∃ p dx fs, v = .ref p ∧ Z p = some (.ins (He.ga K (Str.ofString c)) dx fs) ∧ fs.map (·.1) = ns.map Str.ofString ∧ RVs K Z l (fs.map (·.2)) := by simpa only [RV] using h
theorem mk_int {i : Int} : RV K Z (.int i) (.int i) := by simp only [RV]
theorem mk_bl {b : Bool} : RV K Z (.bl b) (.bl b) := by simp only [RV]
theorem mk_str {x : Str} : RV K Z (.str x) (.str x) := by simp only [RV]
theorem mk_non : RV K Z .non .non := by simp only [RV]
theorem mk_ref {a : Addr} : RV K Z (.ref a) (.ref a) := by simp only [RV]
theorem mk_tup {l : List D} {p : Addr} {vs : List V} (h : SqT K Z p vs) (q : RVs K Z l vs) : RV K Z (.tup l) (.ref p) := by simp only [RV]; exact ⟨p, vs, rfl, h, q⟩
theorem mk_lst {l : List D} {p : Addr} {vs : List V} (h : Z p = some (.lst vs)) (q : RVs K Z l vs) : RV K Z (.lst l) (.ref p) := by simp only [RV]; exact ⟨p, vs, rfl, h, q⟩

/-! ### what is read of an object -/
/-- a list's items -/
def asL (A : AH) : D → Option (List D)
  | .lst l => some l
  | .rol l => some l
  | .ref a => match A a with
    | some (.lst l) => some l
    | _ => none
  | _ => none
/-- a list's or a tuple's items -/
def asS (A : AH) : D → Option (List D)
  | .tup l => some l
  | d => asL A d
def asDic (A : AH) : D → Option (List (Key × D))
  | .dic ks vs => some (ks.zip vs)
  | .ref a => match A a with
    | some (.dic kvs) => some kvs
    | _ => none
  | _ => none
def asObj (A : AH) : D → Option (String × List (String × D))
  | .obj c ns vs => some (c, ns.zip vs)
  | .ref a => match A a with
    | some (.obj c fs) => some (c, fs)
    | _ => none
  | _ => none
section
variable {A : AH} {H : Hp} {d : D} {v : V} {l : List D}
theorem asL_ok (R : RA K Z A H) (r : RV K Z d v) (h : asL A d = some l) : ∃ p vs, v = .ref p ∧ SqL K H p vs ∧ RVs K Z l vs := by
  cases d with
  | lst m =>
    obtain ⟨p, vs, e1, e2, e3⟩ := rv_lst r
    cases (show some m = some l from h)
    exact ⟨p, vs, e1, SqL.of (R.sub _ _ e2), e3⟩
  | rol m =>
    obtain ⟨p, vs, e1, e2, e3⟩ := rv_rol r
    cases (show some m = some l from h)
    exact ⟨p, vs, e1, sqL_mono R.sub e2, e3⟩
  | ref a =>
    have e := rv_ref r
    have h' : (match A a with | some (.lst l) => some l | _ => none) = some l := h
    split at h'
    · rename_i m q
      cases h'
      obtain ⟨vs, e2, e3⟩ := (R.at_ a _ q).2
      exact ⟨a, vs, e, SqL.of e2, e3⟩
    · cases h'
  | _ => cases h
theorem asS_ok (R : RA K Z A H) (r : RV K Z d v) (h : asS A d = some l) : ∃ p vs, v = .ref p ∧ (SqL K H p vs ∨ SqT K H p vs) ∧ RVs K Z l vs := by
  cases d with
  | tup m =>
    obtain ⟨p, vs, e1, e2, e3⟩ := rv_tup r
    cases (show some m = some l from h)
    exact ⟨p, vs, e1, .inr (sqT_mono R.sub e2), e3⟩
  | _ =>
    obtain ⟨p, vs, e1, e2, e3⟩ := asL_ok R r h
    exact ⟨p, vs, e1, .inl e2, e3⟩
theorem asDic_ok {kvs : List (Key × D)} (R : RA K Z A H) (r : RV K Z d v) (h : asDic A d = some kvs) :
    ∃ p us, v = .ref p ∧ H p = some (.dK us) ∧ us.map (·.1) = kvs.map (·.1) ∧ RVs K Z (kvs.map (·.2)) (us.map (·.2)) := by
  cases d with
  | dic ks ds =>
    obtain ⟨p, us, e1, e2, e3, e4⟩ := rv_dic r
    cases (show some (ks.zip ds) = some kvs from h)
    have hl : ds.length = ks.length := by
      have := e4.len
      rw [List.length_map] at this
      rw [← e3, List.length_map]; omega
    refine ⟨p, us, e1, R.sub _ _ e2, ?_, ?_⟩
    · rw [e3]
      exact (List.map_fst_zip (by omega)).symm
    · rw [show (ks.zip ds).map (·.2) = ds from List.map_snd_zip (by omega)]
      exact e4
  | ref a =>
    have e := rv_ref r
    have h' : (match A a with | some (.dic l) => some l | _ => none) = some kvs := h
    split at h'
    · rename_i m q
      cases h'
      obtain ⟨us, e2, e3, e4⟩ := (R.at_ a _ q).2
      exact ⟨a, us, e, e2, e3, e4⟩
    · cases h'
  | _ => cases h
theorem asObj_ok {c : String} {fs : List (String × D)} (R : RA K Z A H) (r : RV K Z d v) (h : asObj A d = some (c, fs)) :
    ∃ p dx us, v = .ref p ∧ H p = some (.ins (He.ga K (Str.ofString c)) dx us) ∧ us.map (·.1) = fs.map (fun p => Str.ofString p.1) ∧ RVs K Z (fs.map (·.2)) (us.map (·.2)) := by
  cases d with
  | obj c' ns ds =>
    obtain ⟨p, dx, us, e1, e2, e3, e4⟩ := rv_obj r
    obtain ⟨rfl, rfl⟩ := Prod.mk.inj (Option.some.inj (show some (c', ns.zip ds) = some (c, fs) from h))
    have hl : ds.length = ns.length := by
      have h1 := e4.len
      have h2 := congrArg List.length e3
      simp only [List.length_map] at h1 h2
      omega
    refine ⟨p, dx, us, e1, R.sub _ _ e2, ?_, ?_⟩
    · have h3 : (ns.zip ds).map (fun p => Str.ofString p.1) = ((ns.zip ds).map (·.1)).map Str.ofString := by rw [List.map_map]; rfl
      rw [e3, h3, List.map_fst_zip (by omega)]
    · rw [show (ns.zip ds).map (·.2) = ds from List.map_snd_zip (by omega)]
      exact e4
  | ref a =>
    have e := rv_ref r
    have h' : (match A a with | some (.obj c fs) => some (c, fs) | _ => none) = some (c, fs) := h
    split at h'
    · rename_i m q
      cases h'
      obtain ⟨dx, us, e2, e3, e4⟩ := (R.at_ a _ ‹_›).2
      exact ⟨a, dx, us, e, e2, e3, e4⟩
    · cases h'
  | _ => cases h
end
/-! ### new lists -/
abbrev Mk := List D → AH → DK → Prop
def mkO : Mk := fun l A Q => ∀ p, A p = none → Q (.ref p) (A.put p (.lst l))
def mkF : Mk := fun l A Q => Q (.lst l) A
/-- what is behind a reading -/
abbrev Kont (K : PySem.W.Frag) (Z : Hp) (Kt : DK) (Q : VK) : Prop := ∀ Z' d A' v H', Same Z Z' → RA K Z' A' H' → RV K Z' d v → Kt d A' → Q v H'
structure MkOk (K : PySem.W.Frag) (mk : Mk) : Prop where
  ok : ∀ {Z : Hp} {A : AH} {H : Hp} {l : List D} {vs : List V} {Kt : DK} {Q : VK}, RA K Z A H → RVs K Z l vs → mk l A Kt → Kont K Z Kt Q → ∀ p, H p = none → Q (.ref p) (upd H p (.lst vs))
theorem mkO_ok : MkOk K mkO := ⟨fun {Z A H l vs Kt Q} R r h k p hp =>
  k Z (.ref p) _ _ _ (Same.refl Z) (R.newO (u := .lst l) hp ⟨vs, upd_same, r⟩) mk_ref (h p (R.fresh hp).1)⟩
theorem mkF_ok : MkOk K mkF := ⟨fun {Z A H l vs Kt Q} R r h k p hp => by
  obtain ⟨s, R'⟩ := R.newF hp (.lst vs)
  exact k _ (.lst l) A _ _ s R' (mk_lst upd_same (r.mono s)) h⟩

/-! ### names, constants, tuples, lists -/
section
variable {X : Cx} {e a b : Expr} {es : List Expr} {pos : Pos}
def eVar (i : Nat) : DE := fun δ A Q => match δ[i]? with
  | some (some d) => Q d A
  | _ => False
theorem qe_var {i : Nat} (h : PE X e (tVar i)) : QE X Z0 e (eVar i) := PE.imp h fun σ H Q ⟨Z, δ, A, Kt, z, rs, ra, t, k⟩ => by
  unfold eVar at t
  split at t
  · rename_i d q
    obtain ⟨v, e1, e2⟩ := rs.get q
    exact ⟨v, e1, k Z d A v H (Same.refl Z) ra e2 t⟩
  · exact t.elim
def eC (d : D) : DE := fun _ A Q => Q d A
theorem qe_c {d : D} {v : V} (r : ∀ Z, RV X.K Z d v) (h : PE X e (tC v)) : QE X Z0 e (eC d) := PE.imp h fun σ H Q ⟨Z, δ, A, Kt, z, rs, ra, t, k⟩ => k Z d A v H (Same.refl Z) ra (r Z) t
theorem qe_int {i : Int} {j : Nat} : QE X Z0 (.Constant (.int i) j pos) (eC (.int i)) := qe_c (fun _ => mk_int) pe_int
theorem qe_bl {i : Bool} {j : Nat} : QE X Z0 (.Constant (.bool i) j pos) (eC (.bl i)) := qe_c (fun _ => mk_bl) pe_bl
theorem qe_str {i : Str} {j : Nat} : QE X Z0 (.Constant (.str i) j pos) (eC (.str i)) := qe_c (fun _ => mk_str) pe_str
theorem qe_non {j : Nat} : QE X Z0 (.Constant .none j pos) (eC .non) := qe_c (fun _ => mk_non) pe_non

def aNil : DA := fun _ A Q => Q [] A
def aCons (t : DE) (u : DA) : DA := fun δ A Q => t δ A fun d A1 => u δ A1 fun ds A2 => Q (d :: ds) A2
theorem qa_nil : QA X Z0 [] aNil := PA.imp pa_nil fun σ H Q ⟨Z, δ, A, Kt, z, rs, ra, t, k⟩ => k Z [] A [] H (Same.refl Z) ra RVs.nil t
theorem qa_cons {t : DE} {u : DA} (ha : QE X Z0 e t) (hr : QA X Z0 es u) (hs : starEach (e :: es) X.env = (false, eval e X.env) :: starEach es X.env := by rfl) : QA X Z0 (e :: es) (aCons t u) :=
  PA.imp (pa_cons ha hr hs) fun σ H Q ⟨Z, δ, A, Kt, z, rs, ra, t, k⟩ =>
    ⟨Z, δ, A, _, z, rs, ra, t, fun Z1 d A1 v H1 s1 ra1 rv t1 => ⟨Z1, δ, A1, _, z.trans s1, rs.mono s1, ra1, t1, fun Z2 ds A2 vs H2 s2 ra2 rvs t2 => k Z2 (d :: ds) A2 (v :: vs) H2 (s1.trans s2) ra2 (RVs.cons (rv.mono s2) rvs) t2⟩⟩
theorem big_line : 1000000 ≤ sizeLine := by rw [sizeLine_eq]; decide
/-- the most items that a reading lets a list have -/
abbrev Few (n : Nat) : Prop := n < 1000000
theorem few_line {n : Nat} (h : Few n) : n ≤ sizeLine := Nat.le_trans (Nat.le_of_lt h) big_line
def eTup (t : DA) : DE := fun δ A Q => t δ A fun ds A1 => Few ds.length ∧ Q (.tup ds) A1
theorem qe_tup {x1} {t : DA} (h : QA X Z0 es t) : QE X Z0 (.Tuple es x1 pos) (eTup t) := PE.imp (pe_tup h) fun σ H Q ⟨Z, δ, A, Kt, z, rs, ra, t, k⟩ =>
  ⟨Z, δ, A, _, z, rs, ra, t, fun Z1 ds A1 vs H1 s1 ra1 rv t1 => ⟨by rw [rv.len]; exact few_line t1.1, fun p hp => by
    obtain ⟨s, R'⟩ := ra1.newF hp (.tup vs)
    exact k _ (.tup ds) A1 _ _ (s1.trans s) R' (mk_tup (SqT.of upd_same) (rv.mono s)) t1.2⟩⟩
def eLst (mk : Mk) (t : DA) : DE := fun δ A Q => t δ A fun ds A1 => Few ds.length ∧ mk ds A1 Q
theorem Kont.mono {Kt : DK} {Q : VK} (k : Kont K Z Kt Q) (s : Same Z Z') : Kont K Z' Kt Q := fun W d A v H s' => k W d A v H (s.trans s')
theorem qe_lst {mk : Mk} {t : DA} (m : MkOk X.K mk) (h : QA X Z0 es t) : QE X Z0 (.List es pos) (eLst mk t) := PE.imp (pe_lst h) fun σ H Q ⟨Z, δ, A, Kt, z, rs, ra, t, k⟩ =>
  ⟨Z, δ, A, _, z, rs, ra, t, fun Z1 ds A1 vs H1 s1 ra1 rv t1 => ⟨by rw [rv.len]; exact few_line t1.1, m.ok ra1 rv t1.2 (Kont.mono k s1)⟩⟩

/-! ### operators -/
abbrev DOp := D → D → AH → DK → Prop
def LiftOp (K : PySem.W.Frag) (rd : DOp) (r : R2) : Prop := ∀ (Z : Hp) (A : AH) (H : Hp) (x y : D) (vx vy : V) (Kt : DK) (Q : VK), RA K Z A H → RV K Z x vx → RV K Z y vy → rd x y A Kt → Kont K Z Kt Q → r vx vy H Q
def eBin (rd : DOp) (ta tb : DE) : DE := fun δ A Q => ta δ A fun x A1 => tb δ A1 fun y A2 => rd x y A2 Q
theorem lift_bin {rd : DOp} {r : R2} {ta tb : DE} {σ : L2.St} {H : Hp} {Q : VK} (l : LiftOp K rd r) (h : liftE K Z0 (eBin rd ta tb) σ H Q) : tOp r (liftE K Z0 ta) (liftE K Z0 tb) σ H Q := by
  obtain ⟨Z, δ, A, Kt, z, rs, ra, t, k⟩ := h
  exact ⟨Z, δ, A, _, z, rs, ra, t, fun Z1 d A1 v H1 s1 ra1 rv t1 => ⟨Z1, δ, A1, _, z.trans s1, rs.mono s1, ra1, t1, fun Z2 d2 A2 v2 H2 s2 ra2 rv2 t2 => l Z2 A2 H2 d d2 v v2 Kt Q ra2 (rv.mono s2) rv2 t2 (Kont.mono k (s1.trans s2))⟩⟩
variable {ta tb tc : DE}
theorem qe_op {op : Operator} {rd : DOp} {r : R2} (l : LiftOp X.K rd r) (ho : OpR X (binaryOp op) r) (ha : QE X Z0 a ta) (hb : QE X Z0 b tb) : QE X Z0 (.BinOp a op b pos) (eBin rd ta tb) :=
  PE.imp (pe_op ho ha hb) fun σ H Q h => lift_bin l h
theorem qe_cmp {op : CmpOp} {rd : DOp} {r : R2} (l : LiftOp X.K rd r) (ho : OpR X (compareOp op) r) (ha : QE X Z0 a ta) (hb : QE X Z0 b tb) (hm : behindInMarks op b = false) : QE X Z0 (.Compare a [op] [b] pos) (eBin rd ta tb) :=
  PE.imp (pe_cmpR ho ha hb hm) fun σ H Q h => lift_bin l h
/-- a truth as a test -/
def bE (t : DE) : DT := fun δ A Q => t δ A fun d A1 => match d with
  | .bl b => Q b A1
  | _ => False
theorem bE_of {t : TE} {u : DE} (h : ∀ σ H Q, liftE K Z0 u σ H Q → t σ H Q) : ∀ σ H Q, liftT K Z0 (bE u) σ H Q → tTest t σ H Q := fun σ H Q ⟨Z, δ, A, Kt, z, rs, ra, t, k⟩ => by
  refine h σ H _ ⟨Z, δ, A, _, z, rs, ra, t, fun Z1 d A1 v H1 s1 ra1 rv t1 => ?_⟩
  cases d with
  | bl b => exact ⟨b, rv_bl rv, k Z1 b A1 H1 s1 ra1 t1⟩
  | _ => exact t1.elim
theorem qt_cmp {op : CmpOp} {rd : DOp} {r : R2} (l : LiftOp X.K rd r) (ho : OpR X (compareOp op) r) (ha : QE X Z0 a ta) (hb : QE X Z0 b tb) (hm : behindInMarks op b = false) : QT X Z0 (.Compare a [op] [b] pos) (bE (eBin rd ta tb)) :=
  PT.imp (pt_cmpR ho ha hb hm) (bE_of (t := tOp r (liftE X.K Z0 ta) (liftE X.K Z0 tb)) fun σ H Q h => lift_bin l h)
theorem qt_val {t : DE} (h : QE X Z0 e t) (he : ∀ whole, isTrue e X.env whole = (do let v ← whole; standAt e.pos; holding [v] (truthy v)) := by intro _; rfl) : QT X Z0 e (bE t) :=
  PT.imp (pt_val h he) (bE_of (t := liftE X.K Z0 t) fun σ H Q h => h)
/-- a < b < c -/
def eChain (rd rd' : DOp) (ta tb tc : DE) : DE := fun δ A Q => ta δ A fun x A1 => tb δ A1 fun y A2 => rd x y A2 fun z A3 => match z with
  | .bl k => (k = true → tc δ A3 fun w A4 => rd' y w A4 Q) ∧ (k = false → Q (.bl false) A3)
  | _ => False
end
end DL


/-! DL2: operators over data. -/
namespace DL
open PySem PySem.Spec PyProof.Rows L2
variable {K : PySem.W.Frag} {Z Z' Z0 : Hp} {X : Cx}

/-! ### and, or, not -/
section
variable {a b : Expr} {rest : List Expr} {pos : Pos} {t u : DT} {ta tb : DE}
def bAnd (t u : DT) : DT := fun δ A Q => t δ A fun b A1 => (b = true → u δ A1 Q) ∧ (b = false → Q false A1)
def bOr (t u : DT) : DT := fun δ A Q => t δ A fun b A1 => (b = true → Q true A1) ∧ (b = false → u δ A1 Q)
def bNot (t : DT) : DT := fun δ A Q => t δ A fun b A1 => Q (!b) A1
theorem qw_and1 (h : QT X Z0 a t) : QW X Z0 (.BoolOp .And [a] pos) t := pw_and1 h
theorem qw_or1 (h : QT X Z0 a t) : QW X Z0 (.BoolOp .Or [a] pos) t := pw_or1 h
theorem qw_and (ha : QT X Z0 a t) (hb : QW X Z0 (.BoolOp .And (b :: rest) pos) u) : QW X Z0 (.BoolOp .And (a :: b :: rest) pos) (bAnd t u) :=
  PW.imp (pw_and ha hb) fun σ H Q ⟨Z, δ, A, Kt, z, rs, ra, t, k⟩ => ⟨Z, δ, A, _, z, rs, ra, t, fun Z1 c A1 H1 s1 ra1 t1 => by
    cases c with
    | true => exact iteT ⟨Z1, δ, A1, Kt, z.trans s1, rs.mono s1, ra1, t1.1 rfl, fun Z2 b2 A2 H2 s2 => k Z2 b2 A2 H2 (s1.trans s2)⟩
    | false => exact iteF (k Z1 false A1 H1 s1 ra1 (t1.2 rfl))⟩
theorem qw_or (ha : QT X Z0 a t) (hb : QW X Z0 (.BoolOp .Or (b :: rest) pos) u) : QW X Z0 (.BoolOp .Or (a :: b :: rest) pos) (bOr t u) :=
  PW.imp (pw_or ha hb) fun σ H Q ⟨Z, δ, A, Kt, z, rs, ra, t, k⟩ => ⟨Z, δ, A, _, z, rs, ra, t, fun Z1 c A1 H1 s1 ra1 t1 => by
    cases c with
    | false => exact iteF ⟨Z1, δ, A1, Kt, z.trans s1, rs.mono s1, ra1, t1.2 rfl, fun Z2 b2 A2 H2 s2 => k Z2 b2 A2 H2 (s1.trans s2)⟩
    | true => exact iteT (k Z1 true A1 H1 s1 ra1 (t1.1 rfl))⟩
theorem qt_w {e : Expr} (h : QW X Z0 e t) : QT X Z0 e t := h.pt
theorem qt_not (h : QT X Z0 a t) : QT X Z0 (.UnaryOp .Not a pos) (bNot t) :=
  PT.imp (pt_not h) fun σ H Q ⟨Z, δ, A, Kt, z, rs, ra, t, k⟩ => ⟨Z, δ, A, _, z, rs, ra, t, fun Z1 c A1 H1 s1 ra1 t1 => k Z1 (!c) A1 H1 s1 ra1 t1⟩
def eAnd (ta tb : DE) : DE := fun δ A Q => ta δ A fun d A1 => match d with
  | .bl c => (c = true → tb δ A1 Q) ∧ (c = false → Q (.bl false) A1)
  | _ => False
def eNot (ta : DE) : DE := fun δ A Q => ta δ A fun d A1 => match d with
  | .bl c => Q (.bl (!c)) A1
  | _ => False
theorem qe_one {op} (h : QE X Z0 a ta) : QE X Z0 (.BoolOp op [a] pos) ta := pe_one h
theorem qe_and (ha : QE X Z0 a ta) (hb : QE X Z0 (.BoolOp .And (b :: rest) pos) tb) : QE X Z0 (.BoolOp .And (a :: b :: rest) pos) (eAnd ta tb) :=
  PE.imp (pe_and ha hb) fun σ H Q ⟨Z, δ, A, Kt, z, rs, ra, t, k⟩ => ⟨Z, δ, A, _, z, rs, ra, t, fun Z1 d A1 v H1 s1 ra1 rv t1 => by
    cases d with
    | bl c =>
      refine ⟨c, rv_bl rv, ?_⟩
      cases c with
      | true => exact iteT ⟨Z1, δ, A1, Kt, z.trans s1, rs.mono s1, ra1, t1.1 rfl, Kont.mono k s1⟩
      | false => exact iteF (k Z1 _ A1 _ H1 s1 ra1 mk_bl (t1.2 rfl))
    | _ => exact t1.elim⟩
theorem qe_not (ha : QE X Z0 a ta) : QE X Z0 (.UnaryOp .Not a pos) (eNot ta) :=
  PE.imp (pe_not ha) fun σ H Q ⟨Z, δ, A, Kt, z, rs, ra, t, k⟩ => ⟨Z, δ, A, _, z, rs, ra, t, fun Z1 d A1 v H1 s1 ra1 rv t1 => by
    cases d with
    | bl c => exact ⟨c, rv_bl rv, k Z1 _ A1 _ H1 s1 ra1 mk_bl t1⟩
    | _ => exact t1.elim⟩
end

/-! ### arithmetic -/
def opAdd (mk : Mk) : DOp := fun x y A Q => match x, y with
  | .int i, .int j => Q (.int (i + j)) A
  | .str s, .str t => Few (s.length + t.length) ∧ Q (.str (s ++ t)) A
  | .tup l, .tup m => Few (l.length + m.length) ∧ Q (.tup (l ++ m)) A
  | x, y => match asL A x, asL A y with
    | some l, some m => Few (l.length + m.length) ∧ mk (l ++ m) A Q
    | _, _ => False
/-- of two lists that are read in any way -/
def rCatL (K : PySem.W.Frag) : R2 := fun x y H Q => ∃ l b xs zs, x = .ref l ∧ y = .ref b ∧ SqL K H l xs ∧ SqL K H b zs ∧ xs.length + zs.length ≤ sizeLine ∧ ∀ p, H p = none → Q (.ref p) (upd H p (.lst (xs ++ zs)))
theorem op_catL : OpR X (binaryOp .Add) (rCatL X.K) := by
  intro pins s σ H x y v u Q I rx ry h
  obtain ⟨l, b, xs, zs, rfl, rfl, hH, hB, hz, q⟩ := h
  cases rx
  cases ry
  obtain ⟨its, r, pl, z⟩ := I.list hH
  obtain ⟨its2, r2, pl2, z2⟩ := I.list hB
  obtain ⟨⟨cls, dd, data, sl⟩, n, ho, hc, hd, hdt⟩ := pl
  obtain ⟨⟨cls2, dd2, data2, sl2⟩, n2, ho2, hc2, hd2, hdt2⟩ := pl2
  simp only at hc hd hdt hc2 hd2 hdt2
  subst hc hd hdt hc2 hd2 hdt2
  have hl := r.length
  have hl2 := r2.length
  have e : its.toArray ++ its2.toArray = (its ++ its2).toArray := by simp
  refine concat_meets ⟨_, ho, rfl⟩ ⟨_, ho2, rfl⟩ noFill_list_add seq_list_add PySem.F.slot_list_add PySem.F.entry_list_add (PySem.F.args_list_add_2 _ _) (list_addW l b its.toArray its2.toArray n n2 none none sl sl2 (by simp only [List.size_toArray]; omega)) ⟨ho, ho2, ?_⟩
  rw [e]
  refine ⟨.ref s.heap.objs.size, _, I.laid (t' := s.toks) (o := .lst (xs ++ zs)) (fun b ob q => Heap.get?_push_of_some _ q) (Nat.le_refl _) ?_, rfl, q _ (I.hok.fresh (Nat.le_refl _))⟩
  exact ⟨by rw [List.length_append]; exact hz, _, 0, r.append r2, Heap.get?_push_size _ rfl⟩
def rAddAll (K : PySem.W.Frag) : R2 := fun x y H Q => (rI0 (fun i j => .int (i + j)) x y H Q) ∨ (∃ i j, x = .str i ∧ y = .str j ∧ i.length + j.length ≤ sizeLine ∧ Q (.str (i ++ j)) H) ∨ rCatA K x y H Q ∨ rCatL K x y H Q
theorem op_addAll : OpR X (binaryOp .Add) (rAddAll X.K) := op_add.or (op_add_str.or (op_catA.or op_catL))
theorem opAdd_lst {mk : Mk} {x y : D} {A : AH} {Q : DK} (h : opAdd mk x y A Q) :
    (∃ i j, x = .int i ∧ y = .int j ∧ Q (.int (i + j)) A) ∨ (∃ s t, x = .str s ∧ y = .str t ∧ Few (s.length + t.length) ∧ Q (.str (s ++ t)) A) ∨ (∃ l m, x = .tup l ∧ y = .tup m ∧ Few (l.length + m.length) ∧ Q (.tup (l ++ m)) A) ∨
      (∃ l m, asL A x = some l ∧ asL A y = some m ∧ Few (l.length + m.length) ∧ mk (l ++ m) A Q) := by
  unfold opAdd at h
  split at h
  · exact .inl ⟨_, _, rfl, rfl, h⟩
  · exact .inr (.inl ⟨_, _, rfl, rfl, h.1, h.2⟩)
  · exact .inr (.inr (.inl ⟨_, _, rfl, rfl, h.1, h.2⟩))
  · split at h
    · rename_i q1 q2
      exact .inr (.inr (.inr ⟨_, _, q1, q2, h.1, h.2⟩))
    · exact h.elim
theorem lift_add {mk : Mk} (m : MkOk K mk) : LiftOp K (opAdd mk) (rAddAll K) := fun Z A H x y vx vy Kt Q R rx ry h k => by
  rcases opAdd_lst h with ⟨i, j, rfl, rfl, h⟩ | ⟨s, t, rfl, rfl, hf, h⟩ | ⟨l, mm, rfl, rfl, hf, h⟩ | ⟨l, mm, hx, hy, hf, h⟩
  · exact .inl ⟨i, j, rv_int rx, rv_int ry, k Z _ A _ H (Same.refl Z) R mk_int h⟩
  · exact .inr (.inl ⟨s, t, rv_str rx, rv_str ry, few_line hf, k Z _ A _ H (Same.refl Z) R mk_str h⟩)
  · obtain ⟨p, vs, e1, e2, e3⟩ := rv_tup rx
    obtain ⟨p2, us, f1, f2, f3⟩ := rv_tup ry
    refine .inr (.inr (.inl ⟨p, p2, vs, us, e1, f1, sqT_mono R.sub e2, sqT_mono R.sub f2, by rw [e3.len, f3.len]; exact few_line hf, fun z => ?_, fun _ z => ?_, fun _ _ q hq => ?_⟩))
    · subst z
      refine k Z _ A _ H (Same.refl Z) R (mk_tup f2 ?_) h
      have : l = [] := List.eq_nil_of_length_eq_zero (by have := e3.len; simpa using this.symm)
      subst this; exact f3
    · subst z
      refine k Z _ A _ H (Same.refl Z) R (mk_tup e2 ?_) h
      have : mm = [] := List.eq_nil_of_length_eq_zero (by have := f3.len; simpa using this.symm)
      subst this; rw [List.append_nil]; exact e3
    · obtain ⟨s, R'⟩ := R.newF hq (.tup (vs ++ us))
      exact k _ _ A _ _ s R' (mk_tup (SqT.of upd_same) ((e3.append f3).mono s)) h
  · obtain ⟨p, vs, e1, e2, e3⟩ := asL_ok R rx hx
    obtain ⟨p2, us, f1, f2, f3⟩ := asL_ok R ry hy
    exact .inr (.inr (.inr ⟨p, p2, vs, us, e1, f1, e2, f2, by rw [e3.len, f3.len]; exact few_line hf, m.ok R (e3.append f3) h k⟩))

def opSub : DOp := fun x y A Q => match x, y with
  | .int i, .int j => Q (.int (i - j)) A
  | _, _ => False
theorem lift_sub : LiftOp K opSub (rI0 fun i j => .int (i - j)) := fun Z A H x y vx vy Kt Q R rx ry h k => by
  unfold opSub at h
  split at h
  · exact ⟨_, _, rv_int rx, rv_int ry, k Z _ A _ H (Same.refl Z) R mk_int h⟩
  · exact h.elim
/-- a product that the machine lets be -/
def MulOk (i j : Int) : Prop := i.natAbs < 2 ^ 64 ∨ j.natAbs < 2 ^ 64 ∨ ∃ a b : Nat, i.natAbs < 2 ^ a ∧ j.natAbs < 2 ^ b ∧ a + b ≤ 134217728
theorem MulOk.ok {i j : Int} (h : MulOk i j) : IntMulOk i j := by
  rcases h with h | h | ⟨a, b, h1, h2, h3⟩
  · exact CMul.ok (.inl ⟨by omega, by omega⟩)
  · exact CMul.ok (.inr ⟨by omega, by omega⟩)
  · exact (mulx_ok h1 h2 h3).ok
/-- s * n -/
def strRep (x : Str) (n : Nat) : Str := ⟨(List.replicate n x.cps.toList).flatten.toArray⟩
theorem foldl_rep (c : Array Nat) : ∀ (n : Nat) (a : Array Nat), ((List.replicate n c).foldl (· ++ ·) a).toList = a.toList ++ (List.replicate n c.toList).flatten
  | 0, a => by simp
  | n + 1, a => by
    rw [List.replicate_succ, List.foldl_cons, foldl_rep c n (a ++ c), List.replicate_succ, List.flatten_cons, Array.toList_append, List.append_assoc]
theorem strRep_eq (x : Str) (n : Nat) : (⟨(List.replicate n x.cps).foldl (· ++ ·) #[]⟩ : Str) = strRep x n := by
  unfold strRep
  congr 1
  apply Array.toList_inj.mp
  rw [foldl_rep]
  simp
def opMul : DOp := fun x y A Q => match x, y with
  | .int i, .int j => MulOk i j ∧ Q (.int (i * j)) A
  | .str s, .int n => (s.length ≤ 1000 ∧ n.natAbs ≤ 1000) ∧ Q (.str (strRep s n.toNat)) A
  | _, _ => False
def rMulStr : R2 := fun x y H Q => ∃ s n, x = .str s ∧ y = .int n ∧ (s.length ≤ 1000 ∧ n.natAbs ≤ 1000) ∧ Q (.str (strRep s n.toNat)) H
theorem op_mulStr : OpR X (binaryOp .Mult) rMulStr := by
  intro pins s σ H x y v u Q I rx ry h
  obtain ⟨z, n, rfl, rfl, ⟨h1, h2⟩, q⟩ := h
  obtain ⟨t, rfl⟩ := rx
  obtain ⟨t', rfl⟩ := ry
  have e1 : decide (n < -(2 ^ 63 : Int)) = false := decide_eq_false (by omega)
  have e2 : decide (n ≥ 2 ^ 63) = false := decide_eq_false (by omega)
  have hm : z.length * n.toNat ≤ 1000 * 1000 := Nat.mul_le_mul h1 (by omega)
  refine PySem.P.mul_str (by rw [e1, e2]; rfl) (fun hn _ => ?_) (fun hn _ => ?_) ?_
  · intro hc
    have h3 : (1000 : Int) ≤ (2 ^ 63 - 1) / n := by
      have hn1 : 1 ≤ n := by omega
      have hn2 : n ≤ 1000 := by omega
      refine (Int.le_ediv_iff_mul_le (by omega)).mpr ?_
      have : 1000 * n ≤ 1000 * 1000 := Int.mul_le_mul_of_nonneg_left hn2 (by decide)
      omega
    omega
  · have h9 : sizeLine = 16777216 := sizeLine_eq
    exact (decide_eq_false (by omega) : decide (z.length * n.toNat > sizeLine) = false)
  · by_cases hn : n < 1
    · rw [if_pos hn]
      refine ⟨by decide, ?_⟩
      refine ⟨.str _, H, I.tok _, ⟨_, rfl⟩, ?_⟩
      have e : strRep z n.toNat = Str.empty := by
        have : n.toNat = 0 := by omega
        rw [this]; rfl
      rw [← e]; exact q
    · rw [if_neg hn]
      by_cases h0 : (n == 1 || z.length == 0) = true
      · rw [if_pos h0]
        have e : strRep z n.toNat = z := by
          apply PyProof.Rows.ext_toList
          unfold strRep
          rw [Bool.or_eq_true] at h0
          rcases h0 with h0 | h0
          · have : n = 1 := by simpa using h0
            subst this; simp
          · have : z.cps.size = 0 := by simpa [Str.length] using h0
            have e0 : z.cps = #[] := Array.eq_empty_of_size_eq_zero this
            rw [e0]; simp
        refine ⟨.str z, H, I, ⟨_, rfl⟩, ?_⟩
        rw [← e]; exact q
      · rw [if_neg h0, strRep_eq]
        refine ⟨?_, ?_⟩
        · unfold strRep
          have : sizeLine = 16777216 := sizeLine_eq
          unfold Str.length at hm ⊢
          have e3 : (List.replicate n.toNat z.cps.toList).flatten.length = n.toNat * z.cps.size := by simp [List.length_flatten]
          show (List.replicate n.toNat z.cps.toList).flatten.toArray.size ≤ sizeLine
          rw [List.size_toArray, e3, Nat.mul_comm]
          omega
        · exact ⟨.str _, H, I.tok _, ⟨_, rfl⟩, q⟩

theorem lift_mul : LiftOp K opMul (fun x y H Q => rI (fun i j => IntMulOk i j) (fun i j => .int (i * j)) x y H Q ∨ rMulStr x y H Q) := fun Z A H x y vx vy Kt Q R rx ry h k => by
  unfold opMul at h
  split at h
  · exact .inl ⟨_, _, rv_int rx, rv_int ry, h.1.ok, k Z _ A _ H (Same.refl Z) R mk_int h.2⟩
  · exact .inr ⟨_, _, rv_str rx, rv_int ry, h.1, k Z _ A _ H (Same.refl Z) R mk_str h.2⟩
  · exact h.elim
theorem op_mulAll : OpR X (binaryOp .Mult) (fun x y H Q => rI (fun i j => IntMulOk i j) (fun i j => .int (i * j)) x y H Q ∨ rMulStr x y H Q) := (opI fun _ _ _ _ _ _ _ hc q => mul_int q hc).or op_mulStr
/-- a divisor that the machine takes -/
def DivOk (j : Int) : Prop := j ≠ 0 ∧ j.natAbs < 2 ^ 9000
def opDiv : DOp := fun x y A Q => match x, y with
  | .int i, .int j => DivOk j ∧ Q (.int (i.fdiv j)) A
  | _, _ => False
theorem op_fdivD : OpR X (binaryOp .FloorDiv) (rI (fun _ j => DivOk j) fun i j => .int (i.fdiv j)) := opI fun i j _ _ _ _ _ hc q =>
  floordiv_int hc.1 q (.inl (PyProof.noPylong_of_log2 (PySem.Flt.log2_lt_of (by decide) hc.2)))
theorem lift_div : LiftOp K opDiv (rI (fun _ j => DivOk j) fun i j => .int (i.fdiv j)) := fun Z A H x y vx vy Kt Q R rx ry h k => by
  unfold opDiv at h
  split at h
  · exact ⟨_, _, rv_int rx, rv_int ry, h.1, k Z _ A _ H (Same.refl Z) R mk_int h.2⟩
  · exact h.elim
def opMod : DOp := fun x y A Q => match x, y with
  | .int i, .int j => j ≠ 0 ∧ Q (.int (i.fmod j)) A
  | _, _ => False
theorem lift_mod : LiftOp K opMod (rI (fun _ j => j ≠ 0) fun i j => .int (i.fmod j)) := fun Z A H x y vx vy Kt Q R rx ry h k => by
  unfold opMod at h
  split at h
  · exact ⟨_, _, rv_int rx, rv_int ry, h.1, k Z _ A _ H (Same.refl Z) R mk_int h.2⟩
  · exact h.elim
def opPow : DOp := fun x y A Q => match x, y with
  | .int i, .int j => (0 ≤ j ∧ j ≤ 1000000 ∧ i.natAbs < 2 ^ 64) ∧ Q (.int (i ^ j.toNat)) A
  | _, _ => False
theorem lift_pow : LiftOp K opPow (rI CPow fun i j => .int (i ^ j.toNat)) := fun Z A H x y vx vy Kt Q R rx ry h k => by
  unfold opPow at h
  split at h
  · exact ⟨_, _, rv_int rx, rv_int ry, h.1, k Z _ A _ H (Same.refl Z) R mk_int h.2⟩
  · exact h.elim
def eNeg (t : DE) : DE := fun δ A Q => t δ A fun d A1 => match d with
  | .int i => Q (.int (-i)) A1
  | _ => False
section
variable {a b : Expr} {pos : Pos} {ta tb : DE}
theorem qe_neg (h : QE X Z0 a ta) : QE X Z0 (.UnaryOp .USub a pos) (eNeg ta) := PE.imp (pe_un un_neg h) fun σ H Q ⟨Z, δ, A, Kt, z, rs, ra, t, k⟩ =>
  ⟨Z, δ, A, _, z, rs, ra, t, fun Z1 d A1 v H1 s1 ra1 rv t1 => by
    cases d with
    | int i => exact ⟨i, rv_int rv, k Z1 _ A1 _ H1 s1 ra1 mk_int t1⟩
    | _ => exact t1.elim⟩
theorem qe_add {mk : Mk} (m : MkOk X.K mk) (ha : QE X Z0 a ta) (hb : QE X Z0 b tb) : QE X Z0 (.BinOp a .Add b pos) (eBin (opAdd mk) ta tb) := qe_op (lift_add m) op_addAll ha hb
theorem qe_sub (ha : QE X Z0 a ta) (hb : QE X Z0 b tb) : QE X Z0 (.BinOp a .Sub b pos) (eBin opSub ta tb) := qe_op lift_sub op_sub ha hb
theorem qe_mul (ha : QE X Z0 a ta) (hb : QE X Z0 b tb) : QE X Z0 (.BinOp a .Mult b pos) (eBin opMul ta tb) := qe_op lift_mul op_mulAll ha hb
theorem qe_div (ha : QE X Z0 a ta) (hb : QE X Z0 b tb) : QE X Z0 (.BinOp a .FloorDiv b pos) (eBin opDiv ta tb) := qe_op lift_div op_fdivD ha hb
theorem qe_mod (ha : QE X Z0 a ta) (hb : QE X Z0 b tb) : QE X Z0 (.BinOp a .Mod b pos) (eBin opMod ta tb) := qe_op lift_mod op_modN ha hb
theorem qe_pow (ha : QE X Z0 a ta) (hb : QE X Z0 b tb) : QE X Z0 (.BinOp a .Pow b pos) (eBin opPow ta tb) := qe_op lift_pow op_pow ha hb
end

/-! ### order of ints, is None, is True -/
def opCmp (p : Int → Int → Bool) : DOp := fun x y A Q => match x, y with
  | .int i, .int j => Q (.bl (p i j)) A
  | _, _ => False
theorem lift_cmp {p : Int → Int → Bool} : LiftOp K (opCmp p) (rI0 fun i j => .bl (p i j)) := fun Z A H x y vx vy Kt Q R rx ry h k => by
  unfold opCmp at h
  split at h
  · exact ⟨_, _, rv_int rx, rv_int ry, k Z _ A _ H (Same.refl Z) R mk_bl h⟩
  · exact h.elim
def D.isNon : D → Bool
  | .non => true
  | _ => false
theorem rv_isNon {d : D} {v : V} (r : RV K Z d v) : decide (v = .non) = d.isNon := by
  cases d with
  | non => rw [rv_non r]; rfl
  | bl b => rw [rv_bl r]; rfl
  | int b => rw [rv_int r]; rfl
  | str b => rw [rv_str r]; rfl
  | tup l => obtain ⟨p, _, e, _⟩ := rv_tup r; rw [e]; rfl
  | lst l => obtain ⟨p, _, e, _⟩ := rv_lst r; rw [e]; rfl
  | rol l => obtain ⟨p, _, e, _⟩ := rv_rol r; rw [e]; rfl
  | dic ks l => obtain ⟨p, _, e, _⟩ := rv_dic r; rw [e]; rfl
  | obj c ns l => obtain ⟨p, _, _, e, _⟩ := rv_obj r; rw [e]; rfl
  | ref a => rw [rv_ref r]; rfl
def opIs (neg : Bool) : DOp := fun x y A Q => match y with
  | .non => Q (.bl (xor neg x.isNon)) A
  | .bl b => match x with
    | .bl a => Q (.bl (xor neg (a == b))) A
    | _ => False
  | _ => False
theorem lift_is : LiftOp K (opIs false) (fun x y H Q => (y = .non ∧ Q (.bl (decide (x = .non))) H) ∨ ∃ a b, x = .bl a ∧ y = .bl b ∧ Q (.bl (decide (a = b))) H) := fun Z A H x y vx vy Kt Q R rx ry h k => by
  unfold opIs at h
  split at h
  · refine .inl ⟨rv_non ry, ?_⟩
    rw [rv_isNon rx]
    refine k Z _ A _ H (Same.refl Z) R mk_bl ?_
    simpa using h
  · split at h
    · rename_i b _ a
      refine .inr ⟨a, b, rv_bl rx, rv_bl ry, k Z _ A _ H (Same.refl Z) R mk_bl ?_⟩
      simpa [Bool.beq_eq_decide_eq] using h
    · exact h.elim
  · exact h.elim
theorem lift_isnot : LiftOp K (opIs true) (fun x y H Q => (y = .non ∧ Q (.bl (!decide (x = .non))) H) ∨ ∃ a b, x = .bl a ∧ y = .bl b ∧ Q (.bl (!decide (a = b))) H) := fun Z A H x y vx vy Kt Q R rx ry h k => by
  unfold opIs at h
  split at h
  · refine .inl ⟨rv_non ry, ?_⟩
    rw [rv_isNon rx]
    refine k Z _ A _ H (Same.refl Z) R mk_bl ?_
    simpa using h
  · split at h
    · rename_i b _ a
      refine .inr ⟨a, b, rv_bl rx, rv_bl ry, k Z _ A _ H (Same.refl Z) R mk_bl ?_⟩
      simpa [Bool.beq_eq_decide_eq] using h
    · exact h.elim
  · exact h.elim
theorem op_isAll : OpR X (compareOp .Is) (fun x y H Q => (y = .non ∧ Q (.bl (decide (x = .non))) H) ∨ ∃ a b, x = .bl a ∧ y = .bl b ∧ Q (.bl (decide (a = b))) H) := op_isN.or op_is_bl
theorem op_isnotAll : OpR X (compareOp .IsNot) (fun x y H Q => (y = .non ∧ Q (.bl (!decide (x = .non))) H) ∨ ∃ a b, x = .bl a ∧ y = .bl b ∧ Q (.bl (!decide (a = b))) H) := op_notN.or op_isnot_bl

/-! ### == of data -/
mutual
/-- data, of depth n at most -/
def dt : Nat → D → Bool
  | _, .non => true
  | _, .bl _ => true
  | _, .int _ => true
  | _, .str x => PyData.strOk x
  | n + 1, .tup l => dts n l
  | n + 1, .lst l => dts n l
  | n + 1, .rol l => dts n l
  | _, _ => false
def dts : Nat → List D → Bool
  | _, [] => true
  | n, d :: l => dt n d && dts n l
end
mutual
def py : D → PyData
  | .non => .none
  | .bl b => .bool b
  | .int i => .int i
  | .str x => .str x
  | .tup l => .tuple (pys l)
  | .lst l => .list (pys l)
  | .rol l => .list (pys l)
  | .dic _ _ => .none
  | .obj _ _ _ => .none
  | .ref _ => .none
def pys : List D → List PyData
  | [] => []
  | d :: l => py d :: pys l
end
mutual
/-- == -/
def deq : D → D → Bool
  | .non, .non => true
  | .bl a, .bl b => a == b
  | .bl a, .int j => (if a then 1 else 0) == j
  | .int i, .bl b => i == (if b then 1 else 0)
  | .int i, .int j => i == j
  | .str x, .str y => x == y
  | .tup l, .tup m => deqs l m
  | .lst l, .lst m => deqs l m
  | .lst l, .rol m => deqs l m
  | .rol l, .lst m => deqs l m
  | .rol l, .rol m => deqs l m
  | _, _ => false
def deqs : List D → List D → Bool
  | [], [] => true
  | d :: l, e :: m => deq d e && deqs l m
  | _, _ => false
end
mutual
theorem dt_canLay : ∀ (n : Nat) (d : D), dt n d = true → (py d).canLay0 = true ∧ (py d).depth ≤ n
  | _, .non, _ => by simp [py, PyData.canLay0, PyData.depth]
  | _, .bl _, _ => by simp [py, PyData.canLay0, PyData.depth]
  | _, .int _, _ => by simp [py, PyData.canLay0, PyData.depth]
  | _, .str x, h => by simp only [dt] at h; simp [py, PyData.canLay0, PyData.depth, h]
  | n + 1, .tup l, h => by
    simp only [dt] at h
    have := dts_canLay n l h
    simp [py, PyData.canLay0, PyData.depth, this.1, this.2]
  | n + 1, .lst l, h => by
    simp only [dt] at h
    have := dts_canLay n l h
    simp [py, PyData.canLay0, PyData.depth, this.1, this.2]
  | n + 1, .rol l, h => by
    simp only [dt] at h
    have := dts_canLay n l h
    simp [py, PyData.canLay0, PyData.depth, this.1, this.2]
  | 0, .tup l, h => by simp [dt] at h
  | 0, .lst l, h => by simp [dt] at h
  | 0, .rol l, h => by simp [dt] at h
  | _, .dic _ _, h => by simp [dt] at h
  | _, .obj _ _ _, h => by simp [dt] at h
  | _, .ref _, h => by simp [dt] at h
theorem dts_canLay : ∀ (n : Nat) (l : List D), dts n l = true → PyData.canLayAll0 (pys l) = true ∧ PyData.depthAll (pys l) ≤ n
  | _, [], _ => by simp [pys, PyData.canLayAll0, PyData.depthAll]
  | n, d :: l, h => by
    simp only [dts, Bool.and_eq_true] at h
    have h1 := dt_canLay n d h.1
    have h2 := dts_canLay n l h.2
    simp [pys, PyData.canLayAll0, PyData.depthAll, h1.1, h2.1, Nat.max_le, h1.2, h2.2]
end

mutual
theorem deq_eqv : ∀ (d e : D) (n m : Nat), dt n d = true → dt m e = true → PyData.eqv (py d) (py e) = deq d e
  | .non, e, _, _, _, h => by cases e <;> first | rfl | simp [dt] at h | simp [py, PyData.eqv, deq]
  | .bl _, e, _, _, _, h => by cases e <;> first | rfl | simp [dt] at h | simp [py, PyData.eqv, deq]
  | .int _, e, _, _, _, h => by cases e <;> first | rfl | simp [dt] at h | simp [py, PyData.eqv, deq]
  | .str _, e, _, _, _, h => by cases e <;> first | rfl | simp [dt] at h | simp [py, PyData.eqv, deq]
  | .tup l, e, 0, _, h0, h => by simp [dt] at h0
  | .lst l, e, 0, _, h0, h => by simp [dt] at h0
  | .rol l, e, 0, _, h0, h => by simp [dt] at h0
  | .tup l, e, n + 1, m, h0, h => by
    simp only [dt] at h0
    cases e with
    | tup k => cases m with
      | zero => simp [dt] at h
      | succ m => simp only [dt] at h; simp only [py, PyData.eqv, deq]; exact deqs_eqv l k n m h0 h
    | dic _ _ => simp [dt] at h
    | obj _ _ _ => simp [dt] at h
    | ref _ => simp [dt] at h
    | _ => simp [py, PyData.eqv, deq]
  | .lst l, e, n + 1, m, h0, h => by
    simp only [dt] at h0
    cases e with
    | lst k => cases m with
      | zero => simp [dt] at h
      | succ m => simp only [dt] at h; simp only [py, PyData.eqv, deq]; exact deqs_eqv l k n m h0 h
    | rol k => cases m with
      | zero => simp [dt] at h
      | succ m => simp only [dt] at h; simp only [py, PyData.eqv, deq]; exact deqs_eqv l k n m h0 h
    | dic _ _ => simp [dt] at h
    | obj _ _ _ => simp [dt] at h
    | ref _ => simp [dt] at h
    | _ => simp [py, PyData.eqv, deq]
  | .rol l, e, n + 1, m, h0, h => by
    simp only [dt] at h0
    cases e with
    | lst k => cases m with
      | zero => simp [dt] at h
      | succ m => simp only [dt] at h; simp only [py, PyData.eqv, deq]; exact deqs_eqv l k n m h0 h
    | rol k => cases m with
      | zero => simp [dt] at h
      | succ m => simp only [dt] at h; simp only [py, PyData.eqv, deq]; exact deqs_eqv l k n m h0 h
    | dic _ _ => simp [dt] at h
    | obj _ _ _ => simp [dt] at h
    | ref _ => simp [dt] at h
    | _ => simp [py, PyData.eqv, deq]
  | .dic _ _, _, _, _, h0, _ => by simp [dt] at h0
  | .obj _ _ _, _, _, _, h0, _ => by simp [dt] at h0
  | .ref _, _, _, _, h0, _ => by simp [dt] at h0
theorem deqs_eqv : ∀ (l k : List D) (n m : Nat), dts n l = true → dts m k = true → PyData.eqvAll (pys l) (pys k) = deqs l k
  | [], [], _, _, _, _ => by simp [pys, PyData.eqvAll, deqs]
  | [], _ :: _, _, _, _, _ => by simp [pys, PyData.eqvAll, deqs]
  | _ :: _, [], _, _, _, _ => by simp [pys, PyData.eqvAll, deqs]
  | d :: l, e :: k, n, m, h1, h2 => by
    simp only [dts, Bool.and_eq_true] at h1 h2
    simp only [pys, PyData.eqvAll, deqs]
    rw [deq_eqv d e n m h1.1 h2.1, deqs_eqv l k n m h1.2 h2.2]
end
mutual
theorem dp_of {A : AH} {H : Hp} (R : RA K Z A H) : ∀ (d : D) (v : V) (n : Nat), dt n d = true → RV K Z d v → Dp K H v (py d)
  | .non, v, _, _, r => by rw [rv_non r]; simp only [py]; exact .non
  | .bl _, v, _, _, r => by rw [rv_bl r]; simp only [py]; exact .bl _
  | .int _, v, _, _, r => by rw [rv_int r]; simp only [py]; exact .int _
  | .str _, v, _, _, r => by rw [rv_str r]; simp only [py]; exact .str _
  | .tup l, v, 0, h, r => by simp [dt] at h
  | .lst l, v, 0, h, r => by simp [dt] at h
  | .rol l, v, 0, h, r => by simp [dt] at h
  | .tup l, v, n + 1, h, r => by
    simp only [dt] at h
    obtain ⟨p, vs, rfl, e2, e3⟩ := rv_tup r
    simp only [py]
    exact .tup (sqT_mono R.sub e2) (dps_of R l vs n h e3)
  | .lst l, v, n + 1, h, r => by
    simp only [dt] at h
    obtain ⟨p, vs, rfl, e2, e3⟩ := rv_lst r
    simp only [py]
    exact .lst (SqL.of (R.sub _ _ e2)) (dps_of R l vs n h e3)
  | .rol l, v, n + 1, h, r => by
    simp only [dt] at h
    obtain ⟨p, vs, rfl, e2, e3⟩ := rv_rol r
    simp only [py]
    exact .lst (sqL_mono R.sub e2) (dps_of R l vs n h e3)
  | .dic _ _, _, _, h0, _ => by simp [dt] at h0
  | .obj _ _ _, _, _, h0, _ => by simp [dt] at h0
  | .ref _, _, _, h0, _ => by simp [dt] at h0
theorem dps_of {A : AH} {H : Hp} (R : RA K Z A H) : ∀ (l : List D) (vs : List V) (n : Nat), dts n l = true → RVs K Z l vs → DpAll K H vs (pys l)
  | [], vs, _, _, r => by rw [r.inv0]; simp only [pys]; exact .nil
  | d :: l, vs, n, h, r => by
    simp only [dts, Bool.and_eq_true] at h
    obtain ⟨v, u, rfl, r1, r2⟩ := r.inv
    simp only [pys]
    exact .cons (dp_of R d v n h.1 r1) (dps_of R l u n h.2 r2)
end
/-- a list that may change, as it stands -/
def drf (A : AH) : D → D
  | .ref a => match A a with
    | some (.lst l) => .lst l
    | _ => .ref a
  | d => d
theorem dp_drf {A : AH} {H : Hp} (R : RA K Z A H) {d : D} {v : V} {n : Nat} (h : dt n (drf A d) = true) (r : RV K Z d v) : Dp K H v (py (drf A d)) := by
  cases d with
  | ref a =>
    have e : drf A (.ref a) = (match A a with | some (.lst l) => .lst l | _ => .ref a) := rfl
    rw [e] at h ⊢
    split at h
    · rename_i l q
      obtain ⟨vs, e2, e3⟩ := (R.at_ a _ q).2
      rw [rv_ref r]
      cases n with
      | zero => simp [dt] at h
      | succ n =>
        simp only [dt] at h
        simp only [py]
        exact .lst (SqL.of e2) (dps_of R l vs n h e3)
    · simp [dt] at h
  | _ => exact dp_of R _ _ n h r
def opEq (neg : Bool) : DOp := fun x y A Q => dt 60 (drf A x) = true ∧ dt 60 (drf A y) = true ∧ Q (.bl (xor neg (deq (drf A x) (drf A y)))) A
theorem lift_eq : LiftOp K (opEq false) (rEqD K) := fun Z A H x y vx vy Kt Q R rx ry ⟨h1, h2, h⟩ k => by
  obtain ⟨c1, c2⟩ := dt_canLay _ _ h1
  obtain ⟨c3, c4⟩ := dt_canLay _ _ h2
  refine ⟨_, _, dp_drf R h1 rx, dp_drf R h2 ry, ?_, ?_, ?_⟩
  · unfold SeqAt.shaped; rw [c1, Bool.true_and]; exact decide_eq_true (by omega)
  · unfold SeqAt.shaped; rw [c3, Bool.true_and]; exact decide_eq_true (by omega)
  · rw [deq_eqv _ _ _ _ h1 h2]
    exact k Z _ A _ H (Same.refl Z) R mk_bl (by simpa using h)
theorem lift_ne : LiftOp K (opEq true) (rNeD K) := fun Z A H x y vx vy Kt Q R rx ry ⟨h1, h2, h⟩ k => by
  obtain ⟨c1, c2⟩ := dt_canLay _ _ h1
  obtain ⟨c3, c4⟩ := dt_canLay _ _ h2
  refine ⟨_, _, dp_drf R h1 rx, dp_drf R h2 ry, ?_, ?_, ?_⟩
  · unfold SeqAt.shaped; rw [c1, Bool.true_and]; exact decide_eq_true (by omega)
  · unfold SeqAt.shaped; rw [c3, Bool.true_and]; exact decide_eq_true (by omega)
  · rw [deq_eqv _ _ _ _ h1 h2]
    exact k Z _ A _ H (Same.refl Z) R mk_bl (by simpa using h)

/-! ### in -/
theorem dts_any (y : D) (n : Nat) (hy : dt n y = true) : ∀ (l : List D) (m : Nat), dts m l = true → (pys l).any (fun z => PyData.eqv z (py y)) = l.any (fun z => deq z y)
  | [], _, _ => by simp [pys]
  | d :: l, m, h => by
    simp only [dts, Bool.and_eq_true] at h
    simp only [pys, List.any_cons]
    rw [deq_eqv d y m n h.1 hy, dts_any y n hy l m h.2]
/-- a dict's key -/
def asKey : D → Option Key
  | .int i => some (.inl i)
  | .str x => some (.inr x)
  | _ => none
theorem asKey_ok {d : D} {v : V} {k : Key} (r : RV K Z d v) (h : asKey d = some k) : v = kV k := by
  cases d with
  | int i => cases (show some (Sum.inl i) = some k from h); exact rv_int r
  | str i => cases (show some (Sum.inr i) = some k from h); exact rv_str r
  | _ => cases h
/-- the value at a key -/
def dget (kvs : List (Key × D)) (k : Key) : Option D := (kvs.find? fun kv => decide (kv.1 = k)).map (·.2)
theorem dget_ok {k : Key} : ∀ {kvs : List (Key × D)} {us : List (Key × V)}, us.map (·.1) = kvs.map (·.1) → RVs K Z (kvs.map (·.2)) (us.map (·.2)) →
    (dget kvs k = none ∧ valV us k = none) ∨ ∃ d v, dget kvs k = some d ∧ valV us k = some v ∧ RV K Z d v
  | [], us, e, _ => by
    have : us = [] := by simpa using e
    subst this; exact .inl ⟨rfl, rfl⟩
  | (k1, d) :: kvs, [], e, _ => by simp at e
  | (k1, d) :: kvs, (k2, v) :: us, e, r => by
    simp only [List.map_cons, List.cons.injEq] at e
    obtain ⟨e1, e2⟩ := e
    have e1 : k2 = k1 := e1
    subst e1
    obtain ⟨v', u', hv, r1, r2⟩ := RVs.inv (show RVs K Z (d :: kvs.map (·.2)) (v :: us.map (·.2)) from r)
    obtain ⟨rfl, rfl⟩ := List.cons.inj hv
    by_cases hk : k2 = k
    · refine .inr ⟨d, v, ?_, ?_, r1⟩
      · simp [dget, List.find?_cons, hk]
      · exact valV_pos (p := (k2, v)) hk
    · have ih := dget_ok (k := k) e2 r2
      have h1 : dget ((k2, d) :: kvs) k = dget kvs k := by simp [dget, List.find?_cons, hk]
      have h2 : valV ((k2, v) :: us) k = valV us k := valV_neg (p := (k2, v)) hk
      rw [h1, h2]
      exact ih
def opIn (neg : Bool) : DOp := fun x y A Q => match asDic A y, asKey x with
  | some kvs, some k => Q (.bl (xor neg (dget kvs k).isSome)) A
  | some _, none => False
  | none, _ => match x, y with
    | .str c, .str z => c.cps.size = 1 ∧ Q (.bl (xor neg (decide (c.cps.getD 0 0 ∈ z.cps.toList)))) A
    | x, .tup l => (flatD x && l.all flatD) = true ∧ Q (.bl (xor neg (l.any fun z => deq z x))) A
    | x, y => match asL A y with
      | some l => dt 60 (drf A x) = true ∧ dts 59 l = true ∧ Q (.bl (xor neg (l.any fun z => deq z (drf A x)))) A
      | none => False
where flatD : D → Bool
  | .non => true | .bl _ => true | .int _ => true | .str _ => true | _ => false

def rInDict (neg : Bool) : R2 := fun x y H Q => ∃ a o, y = .ref a ∧ DGet H a x o ∧ Q (.bl (xor neg o.isSome)) H
theorem op_inDict (hu : X.A.units + 1 < cLine) : OpR X (compareOp .In) (rInDict false) := by
  intro pins s σ H x y v u Q I rx ry h
  obtain ⟨a, o, rfl, g, q⟩ := h
  obtain rfl : u = Value.ref a := ry
  exact d_in hu I g rx fun s3 I3 => ⟨.bl o.isSome, H, I3, rfl, by simpa using q⟩
theorem op_notInDict (hu : X.A.units + 1 < cLine) : OpR X (compareOp .NotIn) (rInDict true) := by
  intro pins s σ H x y v u Q I rx ry h
  obtain ⟨a, o, rfl, g, q⟩ := h
  obtain rfl : u = Value.ref a := ry
  exact d_notIn hu I g rx fun s3 I3 => ⟨.bl (!o.isSome), H, I3, rfl, by simpa using q⟩
def rInSign (neg : Bool) : R2 := fun x y H Q => ∃ (c : Nat) (z : Str), x = .str ⟨#[c]⟩ ∧ y = .str z ∧ Q (.bl (xor neg (decide (c ∈ z.cps.toList)))) H
theorem op_inSign : OpR X (compareOp .In) (rInSign false) := by
  intro pins s σ H x y v u Q I rx ry ⟨c, z, h1, h2, q⟩
  exact op_in_sign pins s σ H x y v u Q I rx ry ⟨c, z, h1, h2, by simpa using q⟩
theorem op_notInSign : OpR X (compareOp .NotIn) (rInSign true) := by
  intro pins s σ H x y v u Q I rx ry ⟨c, z, h1, h2, q⟩
  exact op_notIn_sign pins s σ H x y v u Q I rx ry ⟨c, z, h1, h2, by simpa using q⟩
def rInAll (K : PySem.W.Frag) (neg : Bool) (rd : R2) : R2 := fun x y H Q => rInDict neg x y H Q ∨ rInSign neg x y H Q ∨ rIn K neg x y H Q ∨ rd x y H Q
theorem op_inAll (hu : X.A.units + 65 < cLine) : OpR X (compareOp .In) (rInAll X.K false (rInD X.K)) := (op_inDict (by omega)).or (op_inSign.or (op_in_seq.or (op_inD hu)))
theorem op_notInAll (hu : X.A.units + 65 < cLine) : OpR X (compareOp .NotIn) (rInAll X.K true (rNotInD X.K)) := (op_notInDict (by omega)).or (op_notInSign.or (op_notIn_seq.or (op_notInD hu)))
theorem flat_rv {d : D} {v : V} (r : RV K Z d v) (h : opIn.flatD d = true) : flatV v = true := by
  cases d with
  | non => rw [rv_non r]; rfl
  | bl b => rw [rv_bl r]; rfl
  | int b => rw [rv_int r]; rfl
  | str b => rw [rv_str r]; rfl
  | _ => cases h
theorem flat_eq {d e : D} {v u : V} (r : RV K Z d v) (q : RV K Z e u) (h : opIn.flatD d = true) (h' : opIn.flatD e = true) : eqV v u = deq d e := by
  cases d with
  | non => rw [rv_non r]; cases e with
    | non => rw [rv_non q]; simp [eqV, deq]
    | bl b => rw [rv_bl q]; simp [eqV, deq]
    | int b => rw [rv_int q]; simp [eqV, deq]
    | str b => rw [rv_str q]; simp [eqV, deq]
    | _ => cases h'
  | bl b => rw [rv_bl r]; cases e with
    | non => rw [rv_non q]; simp [eqV, deq]
    | bl b => rw [rv_bl q]; simp [eqV, deq]
    | int b => rw [rv_int q]; simp [eqV, deq]
    | str b => rw [rv_str q]; simp [eqV, deq]
    | _ => cases h'
  | int b => rw [rv_int r]; cases e with
    | non => rw [rv_non q]; simp [eqV, deq]
    | bl b => rw [rv_bl q]; simp [eqV, deq]
    | int b => rw [rv_int q]; simp [eqV, deq]
    | str b => rw [rv_str q]; simp [eqV, deq]
    | _ => cases h'
  | str b => rw [rv_str r]; cases e with
    | non => rw [rv_non q]; simp [eqV, deq]
    | bl b => rw [rv_bl q]; simp [eqV, deq]
    | int b => rw [rv_int q]; simp [eqV, deq]
    | str b => rw [rv_str q]; simp [eqV, deq]
    | _ => cases h'
  | _ => cases h
theorem flat_any {x : D} {vx : V} (rx : RV K Z x vx) (hx : opIn.flatD x = true) : ∀ {l : List D} {vs : List V}, RVs K Z l vs → l.all opIn.flatD = true → vs.all flatV = true ∧ inV vx vs = l.any (fun z => deq z x)
  | [], vs, r, _ => by rw [r.inv0]; exact ⟨rfl, rfl⟩
  | d :: l, vs, r, h => by
    obtain ⟨v, u, rfl, r1, r2⟩ := r.inv
    simp only [List.all_cons, Bool.and_eq_true] at h
    have ih := flat_any rx hx r2 h.2
    refine ⟨by simp only [List.all_cons, Bool.and_eq_true]; exact ⟨flat_rv r1 h.1, ih.1⟩, ?_⟩
    have e := ih.2
    unfold inV at e ⊢
    rw [List.any_cons, List.any_cons, e, flat_eq r1 rx h.1 hx]
theorem opIn_cases {neg : Bool} {x y : D} {A : AH} {Q : DK} (h : opIn neg x y A Q) :
    (∃ kvs k, asDic A y = some kvs ∧ asKey x = some k ∧ Q (.bl (xor neg (dget kvs k).isSome)) A) ∨
    (∃ c z, x = .str c ∧ y = .str z ∧ c.cps.size = 1 ∧ Q (.bl (xor neg (decide (c.cps.getD 0 0 ∈ z.cps.toList)))) A) ∨
    (∃ l, y = .tup l ∧ (opIn.flatD x && l.all opIn.flatD) = true ∧ Q (.bl (xor neg (l.any fun z => deq z x))) A) ∨
    ∃ l, asL A y = some l ∧ dt 60 (drf A x) = true ∧ dts 59 l = true ∧ Q (.bl (xor neg (l.any fun z => deq z (drf A x)))) A := by
  unfold opIn at h
  split at h
  · rename_i kvs k h1 h2
    exact .inl ⟨kvs, k, h1, h2, h⟩
  · exact h.elim
  · split at h
    · exact .inr (.inl ⟨_, _, rfl, rfl, h.1, h.2⟩)
    · exact .inr (.inr (.inl ⟨_, rfl, h.1, h.2⟩))
    · split at h
      · rename_i l q
        exact .inr (.inr (.inr ⟨l, q, h⟩))
      · exact h.elim
theorem asL_dp {A : AH} {H : Hp} (R : RA K Z A H) {d : D} {v : V} {l : List D} {n : Nat} (r : RV K Z d v) (h : asL A d = some l) (q : dts n l = true) : Dp K H v (.list (pys l)) := by
  obtain ⟨p, vs, e1, e2, e3⟩ := asL_ok R r h
  rw [e1]
  exact .lst e2 (dps_of R l vs n q e3)
theorem one_sign {c : Str} (h : c.cps.size = 1) : c = ⟨#[c.cps.getD 0 0]⟩ := by
  apply PyProof.Rows.ext_toList
  have h2 : c.cps.toList.length = 1 := by simpa using h
  match hc : c.cps.toList, h2 with
  | [x], _ =>
    have : c.cps = #[x] := by apply Array.toList_inj.mp; simpa using hc
    rw [this]; simp
theorem lift_in0 {neg : Bool} {rd : R2} (hrd : ∀ x y H Q, (∃ d ds, Dp K H x d ∧ Dp K H y (.list ds) ∧ SeqAt.shaped d = true ∧ SeqAt.shaped (.list ds) = true ∧ Q (.bl (xor neg (ds.any fun z => PyData.eqv z d))) H) → rd x y H Q) : LiftOp K (opIn neg) (rInAll K neg rd) := fun Z A H x y vx vy Kt Q R rx ry h k => by
  rcases opIn_cases h with ⟨kvs, ky, h1, h2, h⟩ | ⟨c, z, rfl, rfl, h1, h⟩ | ⟨l, rfl, h1, h⟩ | ⟨l, h1, h2, h3, h⟩
  · obtain ⟨p, us, e1, e2, e3, e4⟩ := asDic_ok R ry h1
    refine .inl ⟨p, valV us ky, e1, ?_, ?_⟩
    · rw [asKey_ok rx h2]; exact DGet.k e2
    · refine k Z _ A _ H (Same.refl Z) R mk_bl ?_
      rcases dget_ok (k := ky) e3 e4 with ⟨q1, q2⟩ | ⟨d, v, q1, q2, _⟩
      · rw [q2]; rw [q1] at h; exact h
      · rw [q2]; rw [q1] at h; exact h
  · refine .inr (.inl ⟨c.cps.getD 0 0, z, ?_, rv_str ry, k Z _ A _ H (Same.refl Z) R mk_bl h⟩)
    rw [rv_str rx]; exact congrArg V.str (one_sign h1)
  · obtain ⟨p, vs, e1, e2, e3⟩ := rv_tup ry
    simp only [Bool.and_eq_true] at h1
    obtain ⟨f1, f2⟩ := flat_any rx h1.1 e3 h1.2
    refine .inr (.inr (.inl ⟨p, vs, e1, .inr (sqT_mono R.sub e2), flat_rv rx h1.1, f1, ?_⟩))
    rw [f2]
    refine k Z _ A _ H (Same.refl Z) R ?_ h
    cases neg <;> simp [RV]
  · obtain ⟨c1, c2⟩ := dt_canLay _ _ h2
    obtain ⟨c3, c4⟩ := dts_canLay _ _ h3
    refine .inr (.inr (.inr (hrd _ _ _ _ ⟨_, _, dp_drf R h2 rx, asL_dp R ry h1 h3, ?_, ?_, ?_⟩)))
    · unfold SeqAt.shaped; rw [c1, Bool.true_and]; exact decide_eq_true (by omega)
    · unfold SeqAt.shaped; simp only [PyData.canLay0, PyData.depth]; rw [c3, Bool.true_and]; exact decide_eq_true (by omega)
    · rw [dts_any _ _ h2 _ _ h3]
      exact k Z _ A _ H (Same.refl Z) R mk_bl h
theorem lift_in : LiftOp K (opIn false) (rInAll K false (rInD K)) := lift_in0 fun x y H Q ⟨d, ds, h1, h2, h3, h4, h5⟩ => ⟨d, ds, h1, h2, h3, h4, by simpa using h5⟩
theorem lift_notin : LiftOp K (opIn true) (rInAll K true (rNotInD K)) := lift_in0 fun x y H Q ⟨d, ds, h1, h2, h3, h4, h5⟩ => ⟨d, ds, h1, h2, h3, h4, by simpa using h5⟩
end DL


/-! DL3: subscripts, slices, fields, built-in functions and methods over data. -/
namespace DL
open PySem PySem.Spec PyProof.Rows L2
variable {K : PySem.W.Frag} {Z Z' Z0 : Hp} {X : Cx}

/-! ### subscripts -/
def opIx : DOp := fun x y A Q => match y with
  | .int i => (match x with
    | .str z => Few z.length ∧ (match atI z.cps.toList i with
      | some c => Q (.str ⟨#[c]⟩) A
      | none => False)
    | x => match asS A x with
      | some l => (match atI l i with
        | some d => Q d A
        | none => False)
      | none => match asDic A x with
        | some kvs => (match dget kvs (.inl i) with
          | some d => Q d A
          | none => False)
        | none => False)
  | .str k => (match asDic A x with
    | some kvs => (match dget kvs (.inr k) with
      | some d => Q d A
      | none => False)
    | none => False)
  | _ => False
def rIxD : R2 := fun x y H Q => ∃ a v, x = .ref a ∧ DGet H a y (some v) ∧ Q v H
theorem ix_dict (hu : X.A.units + 1 < cLine) : IxR X rIxD := by
  intro value slice pins s σ H x y v u Q I rx ry h hs
  obtain ⟨a, w, rfl, g, q⟩ := h
  obtain rfl : v = Value.ref a := rx
  exact tail_any (dict_typeIs I g) PySem.F.slot_dict_getitem.lookup (d_getItem hu I g ry fun w' s3 I3 rw' => ⟨w, H, I3, rw', q⟩) hs
def rIxAll (K : PySem.W.Frag) : R2 := fun x y H Q => rIxL K x y H Q ∨ rIxT K x y H Q ∨ rIxS x y H Q ∨ rIxD x y H Q
theorem ix_all (hu : X.A.units + 1 < cLine) : IxR X (rIxAll X.K) := ix_list.or (ix_tup.or (ix_str.or (ix_dict hu)))
theorem atI_rvs {l : List D} {vs : List V} {i : Int} {d : D} (r : RVs K Z l vs) (h : atI l i = some d) : ∃ v, atI vs i = some v ∧ RV K Z d v := by
  unfold atI at h ⊢
  rw [r.len]
  cases e : ixN l.length i with
  | none => rw [e] at h; cases h
  | some j =>
    rw [e] at h
    obtain ⟨v, h1, h2⟩ := r.get' (show l[j]? = some d from h)
    exact ⟨v, h1, h2⟩
theorem opIx_cases {x y : D} {A : AH} {Q : DK} (h : opIx x y A Q) :
    (∃ i z c, y = .int i ∧ x = .str z ∧ Few z.length ∧ atI z.cps.toList i = some c ∧ Q (.str ⟨#[c]⟩) A) ∨ (∃ i l d, y = .int i ∧ asS A x = some l ∧ atI l i = some d ∧ Q d A) ∨
      (∃ k kvs d, asKey y = some k ∧ asDic A x = some kvs ∧ dget kvs k = some d ∧ Q d A) := by
  unfold opIx at h
  split at h
  · rename_i i
    split at h
    · obtain ⟨h1, h2⟩ := h
      split at h2
      · rename_i c q
        exact .inl ⟨i, _, c, rfl, rfl, h1, q, h2⟩
      · exact h2.elim
    · split at h
      · rename_i l q
        split at h
        · rename_i d q2
          exact .inr (.inl ⟨i, l, d, rfl, q, q2, h⟩)
        · exact h.elim
      · split at h
        · rename_i kvs q
          split at h
          · rename_i d q2
            exact .inr (.inr ⟨.inl i, kvs, d, rfl, q, q2, h⟩)
          · exact h.elim
        · exact h.elim
  · rename_i k
    split at h
    · rename_i kvs q
      split at h
      · rename_i d q2
        exact .inr (.inr ⟨.inr k, kvs, d, rfl, q, q2, h⟩)
      · exact h.elim
    · exact h.elim
  · exact h.elim
theorem lift_ix : LiftOp K opIx (rIxAll K) := fun Z A H x y vx vy Kt Q R rx ry h k => by
  rcases opIx_cases h with ⟨i, z, c, rfl, rfl, h1, h2, h⟩ | ⟨i, l, d, rfl, h1, h2, h⟩ | ⟨ky, kvs, d, h1, h2, h3, h⟩
  · exact .inr (.inr (.inl ⟨z, i, c, rv_str rx, rv_int ry, few_line h1, h2, k Z _ A _ H (Same.refl Z) R mk_str h⟩))
  · obtain ⟨p, vs, e1, e2, e3⟩ := asS_ok R rx h1
    obtain ⟨v, f1, f2⟩ := atI_rvs e3 h2
    rcases e2 with e2 | e2
    · exact .inl ⟨p, vs, i, v, e1, rv_int ry, e2, f1, k Z _ A _ H (Same.refl Z) R f2 h⟩
    · exact .inr (.inl ⟨p, vs, i, v, e1, rv_int ry, e2, f1, k Z _ A _ H (Same.refl Z) R f2 h⟩)
  · obtain ⟨p, us, e1, e2, e3, e4⟩ := asDic_ok R rx h2
    rcases dget_ok (k := ky) e3 e4 with ⟨q1, _⟩ | ⟨d', v, q1, q2, q3⟩
    · rw [q1] at h3; cases h3
    · rw [q1] at h3; cases h3
      refine .inr (.inr (.inr ⟨p, v, e1, ?_, k Z _ A _ H (Same.refl Z) R q3 h⟩))
      rw [asKey_ok ry h1, ← q2]; exact DGet.k e2
section
variable {a b e : Expr} {es : List Expr} {pos p2 : Pos} {ta tb : DE} {lo hi : Option Expr}
theorem qe_ix (hu : X.A.units + 1 < cLine) (ha : QE X Z0 a ta) (hb : QE X Z0 b tb) (hs : PlainIx b) : QE X Z0 (.Subscript a b pos) (eBin opIx ta tb) :=
  PE.imp (pe_ix (ix_all hu) ha hb hs) fun σ H Q h => lift_bin lift_ix h

/-! ### slices -/
abbrev DOpt := DSt → AH → (Option Int → AH → Prop) → Prop
def liftO (K : PySem.W.Frag) (Z0 : Hp) (t : DOpt) : TO := fun σ H Q => ∃ Z δ A Kt, Same Z0 Z ∧ RS K Z δ σ ∧ RA K Z A H ∧ t δ A Kt ∧
  ∀ Z' o A' H', Same Z Z' → RA K Z' A' H' → Kt o A' → Q o H'
def oNone : DOpt := fun _ A Q => Q none A
def oSome (t : DE) : DOpt := fun δ A Q => t δ A fun d A1 => match d with
  | .int i => Q (some i) A1
  | _ => False
abbrev QO (X : Cx) (Z0 : Hp) (e : Option Expr) (t : DOpt) : Prop := PO X e (liftO X.K Z0 t)
theorem PO.imp {X : Cx} {e : Option Expr} {t u : TO} (h : PO X e t) (i : ∀ σ H Q, u σ H Q → t σ H Q) : PO X e u := ⟨fun pins s σ H Q I q => h.run pins s σ H Q I (i σ H Q q)⟩
theorem qo_none : QO X Z0 none oNone := PO.imp po_none fun σ H Q ⟨Z, δ, A, Kt, z, rs, ra, t, k⟩ => k Z none A H (Same.refl Z) ra t
theorem qo_some (h : QE X Z0 e ta) : QO X Z0 (some e) (oSome ta) := PO.imp (po_some h) fun σ H Q ⟨Z, δ, A, Kt, z, rs, ra, t, k⟩ =>
  ⟨Z, δ, A, _, z, rs, ra, t, fun Z1 d A1 v H1 s1 ra1 rv t1 => by
    cases d with
    | int i => exact ⟨i, rv_int rv, k Z1 _ A1 H1 s1 ra1 t1⟩
    | _ => exact t1.elim⟩
/-- the items lo .. hi -/
def cutD (l : List D) (lo hi : Option Int) : List D := (l.drop (HT.sIx l.length 0 lo)).take (HT.sIx l.length l.length hi - HT.sIx l.length 0 lo)
theorem cut_rvs {l : List D} {vs : List V} (r : RVs K Z l vs) (lo hi : Option Int) : RVs K Z (cutD l lo hi) (cutV vs lo hi) := by
  unfold cutD cutV
  rw [r.len]
  exact (r.drop _).take _
def opSl (mk : Mk) (x : D) (lo hi : Option Int) : AH → DK → Prop := fun A Q => match x with
  | .str z => Few z.length ∧ Q (.str (cutS z lo hi)) A
  | .tup l => Q (.tup (cutD l lo hi)) A
  | x => match asL A x with
    | some l => mk (cutD l lo hi) A Q
    | none => False
def eSl (mk : Mk) (t : DE) (lo hi : DOpt) : DE := fun δ A Q => t δ A fun x A1 => lo δ A1 fun l A2 => hi δ A2 fun h A3 => opSl mk x l h A3 Q
def rSlAll (K : PySem.W.Frag) : V → Option Int → Option Int → Hp → VK → Prop := fun x lo hi H Q => rSlS x lo hi H Q ∨ rSlA K x lo hi H Q ∨ rSlL K x lo hi H Q
theorem sl_all : SlR X (rSlAll X.K) := sl_str.or (sl_tupA.or sl_list)
theorem opSl_cases {mk : Mk} {x : D} {lo hi : Option Int} {A : AH} {Q : DK} (h : opSl mk x lo hi A Q) :
    (∃ z, x = .str z ∧ Few z.length ∧ Q (.str (cutS z lo hi)) A) ∨ (∃ l, x = .tup l ∧ Q (.tup (cutD l lo hi)) A) ∨ ∃ l, asL A x = some l ∧ mk (cutD l lo hi) A Q := by
  unfold opSl at h
  split at h
  · exact .inl ⟨_, rfl, h⟩
  · exact .inr (.inl ⟨_, rfl, h⟩)
  · split at h
    · rename_i l q
      exact .inr (.inr ⟨l, q, h⟩)
    · exact h.elim
theorem qe_sl {mk : Mk} (m : MkOk X.K mk) {tl th : DOpt} (he : QE X Z0 e ta) (hl : QO X Z0 lo tl) (hu : QO X Z0 hi th) : QE X Z0 (.Subscript e (.Slice lo hi none p2) pos) (eSl mk ta tl th) :=
  PE.imp (pe_slice sl_all he hl hu) fun σ H Q ⟨Z, δ, A, Kt, z, rs, ra, t, k⟩ => ⟨Z, δ, A, _, z, rs, ra, t, fun Z1 d A1 v H1 s1 ra1 rv t1 =>
    ⟨Z1, δ, A1, _, z.trans s1, rs.mono s1, ra1, t1, fun Z2 l A2 H2 s2 ra2 t2 => ⟨Z2, δ, A2, _, (z.trans s1).trans s2, (rs.mono s1).mono s2, ra2, t2, fun Z3 h A3 H3 s3 ra3 t3 => by
      have rx := (rv.mono s2).mono s3
      have k3 : Kont X.K Z3 Kt Q := Kont.mono k ((s1.trans s2).trans s3)
      rcases opSl_cases t3 with ⟨z, rfl, h1, t4⟩ | ⟨l', rfl, t4⟩ | ⟨l', h1, t4⟩
      · exact .inl ⟨z, rv_str rx, few_line h1, k3 Z3 _ A3 _ H3 (Same.refl _) ra3 mk_str t4⟩
      · obtain ⟨p, vs, e1, e2, e3⟩ := rv_tup rx
        refine .inr (.inl ⟨p, vs, e1, sqT_mono ra3.sub e2, fun hw => ?_, fun _ q hq => ?_⟩)
        · refine k3 Z3 _ A3 _ H3 (Same.refl _) ra3 (mk_tup e2 ?_) t4
          have hc : cutD l' l h = l' := by
            unfold cutD
            rw [← e3.len, hw.1, hw.2, List.drop_zero, Nat.sub_zero, e3.len, List.take_length]
          rw [hc]; exact e3
        · obtain ⟨s, R'⟩ := ra3.newF hq (.tup (cutV vs l h))
          exact k3 _ _ A3 _ _ s R' (mk_tup (SqT.of upd_same) ((cut_rvs e3 l h).mono s)) t4
      · obtain ⟨p, vs, e1, e2, e3⟩ := asL_ok ra3 rx h1
        exact .inr (.inr ⟨p, vs, e1, e2, m.ok ra3 (cut_rvs e3 l h) t4 k3⟩)⟩⟩⟩
end

/-! ### fields -/
theorem map_inj_toNat : ∀ {a b : List Char}, a.map Char.toNat = b.map Char.toNat → a = b
  | [], [], _ => rfl
  | [], _ :: _, h => by simp at h
  | _ :: _, [], h => by simp at h
  | c :: a, d :: b, h => by
    simp only [List.map_cons, List.cons.injEq] at h
    rw [Char.toNat_inj.mp h.1, map_inj_toNat h.2]
theorem ofString_inj {a b : String} (h : Str.ofString a = Str.ofString b) : a = b := by
  rw [Str.ofString_eq_toList, Str.ofString_eq_toList] at h
  have h2 : a.toList.map Char.toNat = b.toList.map Char.toNat := by
    have := congrArg (fun z : Str => z.cps.toList) h
    simpa using this
  have h3 : a.toList = b.toList := map_inj_toNat h2
  exact String.toList_inj.mp h3
theorem look_ok {f : String} : ∀ {fs : List (String × D)} {us : List (Str × V)}, us.map (·.1) = fs.map (fun p => Str.ofString p.1) → RVs K Z (fs.map (·.2)) (us.map (·.2)) →
    (fs.lookup f = none ∧ us.lookup (Str.ofString f) = none) ∨ ∃ d v, fs.lookup f = some d ∧ us.lookup (Str.ofString f) = some v ∧ RV K Z d v
  | [], us, e, _ => by
    have : us = [] := by simpa using e
    subst this; exact .inl ⟨rfl, rfl⟩
  | (k1, d) :: kvs, [], e, _ => by simp at e
  | (k1, d) :: kvs, (k2, v) :: us, e, r => by
    simp only [List.map_cons, List.cons.injEq] at e
    obtain ⟨e1, e2⟩ := e
    have e1 : k2 = Str.ofString k1 := e1
    subst e1
    obtain ⟨v', u', hv, r1, r2⟩ := RVs.inv (show RVs K Z (d :: kvs.map (·.2)) (v :: us.map (·.2)) from r)
    obtain ⟨rfl, rfl⟩ := List.cons.inj hv
    by_cases hk : f = k1
    · subst hk
      refine .inr ⟨d, v, ?_, ?_, r1⟩
      · simp [List.lookup]
      · simp [List.lookup]
    · have ih := look_ok (f := f) e2 r2
      have hk2 : (Str.ofString f == Str.ofString k1) = false := beq_eq_false_iff_ne.mpr fun z => hk (ofString_inj z)
      have h1 : ((k1, d) :: kvs).lookup f = kvs.lookup f := by simp [List.lookup, beq_eq_false_iff_ne.mpr hk]
      have h2 : ((Str.ofString k1, v) :: us).lookup (Str.ofString f) = us.lookup (Str.ofString f) := by simp [List.lookup, hk2]
      rw [h1, h2]
      exact ih
/-- a class whose field f is plain -/
structure FldOk (K : PySem.W.Frag) (c f : String) : Prop where
  cls : Cls K (He.ga K (Str.ofString c))
  no : NoAttr K (He.ga K (Str.ofString c)) (Str.ofString f)
def eFld (cs : List String) (f : String) (t : DE) : DE := fun δ A Q => t δ A fun d A1 => match asObj A1 d with
  | some (c, fs) => c ∈ cs ∧ (match lookS f fs with
    | some d => Q d A1
    | none => False)
  | none => False
section
variable {a b e o : Expr} {es : List Expr} {pos p2 : Pos} {ta tb : DE} {cs : List String} {f : String}
theorem qe_fld (hf : ∀ c ∈ cs, FldOk X.K c f) (he : QE X Z0 e ta) (hb : attributeBase e (Str.ofString f) X.env (eval e X.env) = eval e X.env) : QE X Z0 (.Attribute e (Str.ofString f) pos) (eFld cs f ta) :=
  PE.imp (pe_fld he hb) fun σ H Q ⟨Z, δ, A, Kt, z, rs, ra, t, k⟩ => ⟨Z, δ, A, _, z, rs, ra, t, fun Z1 d A1 v H1 s1 ra1 rv t1 => by
    split at t1
    · rename_i c fs q
      obtain ⟨hc, t1⟩ := t1
      obtain ⟨p, dx, us, e1, e2, e3, e4⟩ := asObj_ok ra1 rv q
      split at t1
      · rename_i d' q2
        rw [lookS_eq] at q2
        rcases look_ok (f := f) e3 e4 with ⟨h1, _⟩ | ⟨d2, v2, h1, h2, h3⟩
        · rw [q2] at h1; cases h1
        · rw [q2] at h1; cases h1
          exact ⟨p, _, dx, us, v2, e1, e2, (hf c hc).cls, (hf c hc).no, h2, k Z1 _ A1 _ H1 s1 ra1 h3 t1⟩
      · exact t1.elim
    · exact t1.elim⟩

/-! ### built-in functions -/
abbrev DCall := List D → AH → DK → Prop
def LiftCall (K : PySem.W.Frag) (rd : DCall) (r : List V → Hp → VK → Prop) : Prop := ∀ (Z : Hp) (A : AH) (H : Hp) (ds : List D) (vs : List V) (Kt : DK) (Q : VK), RA K Z A H → RVs K Z ds vs → rd ds A Kt → Kont K Z Kt Q → r vs H Q
def eCB (rd : DCall) (t : DA) : DE := fun δ A Q => t δ A fun ds A1 => rd ds A1 Q
theorem lift_cb {rd : DCall} {r : List V → Hp → VK → Prop} {t : DA} {σ : L2.St} {H : Hp} {Q : VK} (l : LiftCall K rd r) (h : liftE K Z0 (eCB rd t) σ H Q) : tCB r (liftA K Z0 t) σ H Q := by
  obtain ⟨Z, δ, A, Kt, z, rs, ra, t, k⟩ := h
  exact ⟨Z, δ, A, _, z, rs, ra, t, fun Z1 ds A1 vs H1 s1 ra1 rv t1 => l Z1 A1 H1 ds vs Kt Q ra1 rv t1 (Kont.mono k s1)⟩
variable {x : Str} {id T : String} {rd : DCall} {r : List V → Hp → VK → Prop} {t : DA} {p : Pos}
theorem qe_callB (l : LiftCall X.K rd r) (hc : CallR X (.builtin id) r) (hg : Gl X x) (hm : X.mg x = none) (hv : bootBuiltins x = some (.builtin id)) (ha : QA X Z0 (e :: es) t) (hn : x ≠ "__name__" := by decide) (hdb : (x == ("__debug__" : Str)) = false := by decide)
    (he : starEach (e :: es) X.env = (false, eval e X.env) :: starEach es X.env := by rfl) (hpl : (backTo pos (starEach es X.env)).any (·.1) = false := by rfl) : QE X Z0 (.Call (.Name x p) (e :: es) [] pos) (eCB rd t) :=
  PE.imp (pe_callB hc hg hm hv ha hn hdb he hpl) fun σ H Q h => lift_cb l h
theorem qe_callTy (l : LiftCall X.K rd r) (hc : CallR X (.type T) r) (hg : Gl X x) (hm : X.mg x = none) (hv : bootBuiltins x = some (.type T)) (ha : QA X Z0 (e :: es) t) (hn : x ≠ "__name__" := by decide) (hdb : (x == ("__debug__" : Str)) = false := by decide)
    (he : starEach (e :: es) X.env = (false, eval e X.env) :: starEach es X.env := by rfl) (hpl : (backTo pos (starEach es X.env)).any (·.1) = false := by rfl) : QE X Z0 (.Call (.Name x p) (e :: es) [] pos) (eCB rd t) :=
  PE.imp (pe_callTy hc hg hm hv ha hn hdb he hpl) fun σ H Q h => lift_cb l h
end
theorem CallR.or {f : Value} {r r' : List V → Hp → VK → Prop} (h : CallR X f r) (h' : CallR X f r') : CallR X f (fun xs H Q => r xs H Q ∨ r' xs H Q) := by
  intro pins s σ H xs us Q I rx q
  rcases q with q | q
  · exact h pins s σ H xs us Q I rx q
  · exact h' pins s σ H xs us Q I rx q
theorem RVs.one {d : D} {vs : List V} (h : RVs K Z [d] vs) : ∃ v, vs = [v] ∧ RV K Z d v := by
  obtain ⟨v, r, rfl, h1, h2⟩ := h.inv
  rw [h2.inv0]
  exact ⟨v, rfl, h1⟩
theorem RVs.two {d e : D} {vs : List V} (h : RVs K Z [d, e] vs) : ∃ v u, vs = [v, u] ∧ RV K Z d v ∧ RV K Z e u := by
  obtain ⟨v, r, rfl, h1, h2⟩ := h.inv
  obtain ⟨u, rfl, h3⟩ := h2.one
  exact ⟨v, u, rfl, h1, h3⟩
def bAbs : DCall := fun ds A Q => match ds with
  | [.int i] => Q (.int i.natAbs) A
  | _ => False
theorem lift_abs : LiftCall K bAbs (fun xs H Q => ∃ i, xs = [.int i] ∧ Q (.int (if i < 0 then -i else i)) H) := fun Z A H ds vs Kt Q R r h k => by
  unfold bAbs at h
  split at h
  · rename_i i
    obtain ⟨v, rfl, rv⟩ := r.one
    refine ⟨i, by rw [rv_int rv], ?_⟩
    have e : (if i < 0 then -i else i) = (i.natAbs : Int) := by split <;> omega
    rw [e]
    exact k Z _ A _ H (Same.refl Z) R mk_int h
  · exact h.elim
def bMin : DCall := fun ds A Q => match ds with
  | [.int i, .int j] => Q (.int (if j < i then j else i)) A
  | _ => False
def bLen : DCall := fun ds A Q => match ds with
  | [.str s] => Few s.length ∧ Q (.int s.length) A
  | [d] => (match asS A d with
    | some l => Q (.int l.length) A
    | none => match asDic A d with
      | some kvs => Q (.int kvs.length) A
      | none => False)
  | _ => False
theorem lift_len : LiftCall K bLen (fun xs H Q => (∃ x n, xs = [x] ∧ LenV K x H n ∧ Q (.int n) H) ∨ ∃ a kvs, xs = [.ref a] ∧ H a = some (.dK kvs) ∧ Q (.int kvs.length) H) := fun Z A H ds vs Kt Q R r h k => by
  unfold bLen at h
  split at h
  · obtain ⟨v, rfl, rv⟩ := r.one
    exact .inl ⟨.str _, _, by rw [rv_str rv], ⟨few_line h.1, rfl⟩, k Z _ A _ H (Same.refl Z) R mk_int h.2⟩
  · obtain ⟨v, rfl, rv⟩ := r.one
    split at h
    · rename_i l q
      obtain ⟨p, us, e1, e2, e3⟩ := asS_ok R rv q
      refine .inl ⟨.ref p, us.length, by rw [e1], ?_, ?_⟩
      · rcases e2 with e2 | e2
        · exact .inl ⟨us, e2, rfl⟩
        · exact .inr ⟨us, e2, rfl⟩
      · rw [e3.len]; exact k Z _ A _ H (Same.refl Z) R mk_int h
    · split at h
      · rename_i kvs q
        obtain ⟨p, us, e1, e2, e3, e4⟩ := asDic_ok R rv q
        refine .inr ⟨p, us, by rw [e1], e2, ?_⟩
        have : us.length = kvs.length := by have := congrArg List.length e3; simpa using this
        rw [this]; exact k Z _ A _ H (Same.refl Z) R mk_int h
      · exact h.elim
  · exact h.elim
theorem call_lenAll : CallR X (.builtin "len") (fun xs H Q => (∃ x n, xs = [x] ∧ LenV X.K x H n ∧ Q (.int n) H) ∨ ∃ a kvs, xs = [.ref a] ∧ H a = some (.dK kvs) ∧ Q (.int kvs.length) H) := by
  refine CallR.or call_len ?_
  intro pins s σ H xs us Q I r h
  obtain ⟨a, kvs, rfl, hk, q⟩ := h
  obtain ⟨u, rfl, rx⟩ := vals1 r
  obtain rfl : u = Value.ref a := rx
  exact d_len I (.inl hk) fun t s' I' => ⟨.int kvs.length, H, I', ⟨t, rfl⟩, q⟩
/-- the text of a number -/
def numStr (i : Int) : Str := Str.ofString (toString i)
def bStr : DCall := fun ds A Q => match ds with
  | [.int i] => i.natAbs < 2 ^ 1900 ∧ Q (.str (numStr i)) A
  | _ => False
def keyD : Key → D
  | .inl i => .int i
  | .inr x => .str x
def bList (mk : Mk) : DCall := fun ds A Q => match ds with
  | [d] => (match asS A d with
    | some l => mk l A Q
    | none => match asDic A d with
      | some kvs => mk (kvs.map fun kv => keyD kv.1) A Q
      | none => False)
  | _ => False
theorem rvs_keys : ∀ (us : List (Key × V)), RVs K Z (us.map fun kv => keyD kv.1) (us.map fun kv => kV kv.1)
  | [] => RVs.nil
  | (k, v) :: us => RVs.cons (by cases k with
      | inl i => exact mk_int
      | inr x => exact mk_str) (rvs_keys us)
theorem lift_list {mk : Mk} (m : MkOk K mk) : LiftCall K (bList mk) (fun xs H Q => (∃ p ys, xs = [.ref p] ∧ (SqL K H p ys ∨ SqT K H p ys) ∧ ∀ l, H l = none → Q (.ref l) (upd H l (.lst ys))) ∨
    ∃ a kvs, xs = [.ref a] ∧ Rd H a (.dK kvs) ∧ ∀ p, H p = none → Q (.ref p) (upd H p (.lst (kvs.map fun kv => kV kv.1)))) := fun Z A H ds vs Kt Q R r h k => by
  unfold bList at h
  split at h
  · obtain ⟨v, rfl, rv⟩ := r.one
    split at h
    · rename_i l q
      obtain ⟨p, us, e1, e2, e3⟩ := asS_ok R rv q
      exact .inl ⟨p, us, by rw [e1], e2, m.ok R e3 h k⟩
    · split at h
      · rename_i kvs q
        obtain ⟨p, us, e1, e2, e3, e4⟩ := asDic_ok R rv q
        refine .inr ⟨p, us, by rw [e1], .inl e2, m.ok R ?_ h k⟩
        have e5 : (kvs.map fun kv => keyD kv.1) = us.map fun kv => keyD kv.1 := by
          have h1 : (kvs.map fun kv => keyD kv.1) = (kvs.map (·.1)).map keyD := by rw [List.map_map]; rfl
          rw [h1, ← e3, List.map_map]; rfl
        rw [e5]
        exact rvs_keys us
      · exact h.elim
  · exact h.elim
theorem call_listAll (hc : X.calm = true) : CallR X (.type "list") (fun xs H Q => (∃ p ys, xs = [.ref p] ∧ (SqL X.K H p ys ∨ SqT X.K H p ys) ∧ ∀ l, H l = none → Q (.ref l) (upd H l (.lst ys))) ∨
    ∃ a kvs, xs = [.ref a] ∧ Rd H a (.dK kvs) ∧ ∀ p, H p = none → Q (.ref p) (upd H p (.lst (kvs.map fun kv => kV kv.1)))) := CallR.or call_list_of (call_listD hc)
end DL


/-! DL4: statements, loops, calls of the text's own defs. -/
namespace DL
open PySem PySem.Spec PyProof.Rows L2
variable {K : PySem.W.Frag} {Z Z' Z0 : Hp} {X : Cx}

/-! ### blocks -/
section
variable {st : Stmt} {rest a b : List Stmt} {t u : DS} {e c : Expr} {te : DE} {tc : DT} {pos : Pos}
def sNext : DS := fun D δ A => D.nx δ A
def sSeq (t u : DS) : DS := fun D δ A => t { D with nx := u D } δ A
def sBreak : DS := fun D δ A => D.bk δ A
def sCont : DS := fun D δ A => D.ct δ A
def sDrop (te : DE) : DS := fun D δ A => te δ A fun _ A1 => D.nx δ A1
def sRet (te : DE) : DS := fun D δ A => te δ A D.rt
def sRetN : DS := fun D _ A => D.rt .non A
def sIf (c : DT) (t u : DS) : DS := fun D δ A => c δ A fun b A1 => (b = true → t D δ A1) ∧ (b = false → u D δ A1)
theorem lift_next {D : Ends} {σ : L2.St} {H : Hp} (h : liftS K Z0 sNext D σ H) : D.nx σ H := by
  obtain ⟨Z, δ, A, DD, z, rs, ra, t, re⟩ := h
  exact re.nx Z δ A σ H (Same.refl Z) rs ra t
theorem qss_nil : QSs X Z0 [] sNext := PSs.imp pss_nil fun D σ H h => lift_next h
theorem qss_cons (h1 : QS X Z0 st t) (h2 : QSs X Z0 rest u) : QSs X Z0 (st :: rest) (sSeq t u) := PSs.imp (pss_cons h1 h2) fun D σ H ⟨Z, δ, A, DD, z, rs, ra, t, re⟩ =>
  ⟨Z, δ, A, { DD with nx := u DD }, z, rs, ra, t, ⟨fun Z1 δ1 A1 σ1 H1 s1 rs1 ra1 t1 => ⟨Z1, δ1, A1, DD, z.trans s1, rs1, ra1, t1, re.mono s1⟩, re.rt, re.bk, re.ct⟩⟩
theorem qss_one (h1 : QS X Z0 st t) : QSs X Z0 [st] t := PSs.imp (pss_one h1) fun D σ H h => h
theorem qs_expr (he : QE X Z0 e te) (hs : swapsWith e none pos.line X.env = pure false := by rfl) : QS X Z0 (.Expr e pos) (sDrop te) := PS.imp (ps_expr he hs) fun D σ H ⟨Z, δ, A, DD, z, rs, ra, t, re⟩ =>
  ⟨Z, δ, A, _, z, rs, ra, t, fun Z1 d A1 v H1 s1 ra1 rv t1 => re.nx Z1 δ A1 σ H1 s1 (rs.mono s1) ra1 t1⟩
theorem qs_ret (he : QE X Z0 e te) : QS X Z0 (.Return (some e) pos) (sRet te) := PS.imp (ps_ret he) fun D σ H ⟨Z, δ, A, DD, z, rs, ra, t, re⟩ =>
  ⟨Z, δ, A, _, z, rs, ra, t, fun Z1 d A1 v H1 s1 ra1 rv t1 => re.rt Z1 d A1 v H1 s1 ra1 rv t1⟩
theorem qs_if (hc : QT X Z0 c tc) (ha : QSs X Z0 a t) (hb : QSs X Z0 b u) : QS X Z0 (.If c a b pos) (sIf tc t u) := PS.imp (ps_if hc ha hb) fun D σ H ⟨Z, δ, A, DD, z, rs, ra, t, re⟩ =>
  ⟨Z, δ, A, _, z, rs, ra, t, fun Z1 k A1 H1 s1 ra1 t1 => by
    cases k with
    | true => exact iteT ⟨Z1, δ, A1, DD, z.trans s1, rs.mono s1, ra1, t1.1 rfl, re.mono s1⟩
    | false => exact iteF ⟨Z1, δ, A1, DD, z.trans s1, rs.mono s1, ra1, t1.2 rfl, re.mono s1⟩⟩
end

/-! ### targets -/
abbrev DG := D → DSt → AH → (DSt → AH → Prop) → Prop
abbrev DGs := List D → DSt → AH → (DSt → AH → Prop) → Prop
def liftG (K : PySem.W.Frag) (Z0 : Hp) (g : DG) : TG := fun v σ H Q => ∃ Z d δ A Kt, Same Z0 Z ∧ RV K Z d v ∧ RS K Z δ σ ∧ RA K Z A H ∧ g d δ A Kt ∧
  ∀ Z' δ' A' σ' H', Same Z Z' → RS K Z' δ' σ' → RA K Z' A' H' → Kt δ' A' → Q σ' H'
def liftGs (K : PySem.W.Frag) (Z0 : Hp) (g : DGs) : TGs := fun vs σ H Q => ∃ Z ds δ A Kt, Same Z0 Z ∧ RVs K Z ds vs ∧ RS K Z δ σ ∧ RA K Z A H ∧ g ds δ A Kt ∧
  ∀ Z' δ' A' σ' H', Same Z Z' → RS K Z' δ' σ' → RA K Z' A' H' → Kt δ' A' → Q σ' H'
abbrev QG (X : Cx) (Z0 : Hp) (e : Expr) (g : DG) : Prop := PG X e (liftG X.K Z0 g)
abbrev QGs (X : Cx) (Z0 : Hp) (e : List Expr) (g : DGs) : Prop := PGs X e (liftGs X.K Z0 g)
theorem PG.imp {e : Expr} {t u : TG} (h : PG X e t) (i : ∀ v σ H Q, u v σ H Q → t v σ H Q) : PG X e u := ⟨fun pins s σ H v w Q I r q => h.run pins s σ H v w Q I r (i v σ H Q q)⟩
theorem PG.or {e : Expr} {t u : TG} (h : PG X e t) (h' : PG X e u) : PG X e (fun v σ H Q => t v σ H Q ∨ u v σ H Q) := ⟨fun pins s σ H v w Q I r q => q.elim (h.run pins s σ H v w Q I r) (h'.run pins s σ H v w Q I r)⟩
theorem PGs.imp {e : List Expr} {t u : TGs} (h : PGs X e t) (i : ∀ v σ H Q, u v σ H Q → t v σ H Q) : PGs X e u := ⟨fun pins s σ H v w Q I r q => h.run pins s σ H v w Q I r (i v σ H Q q)⟩
def dgName (i : Nat) : DG := fun d δ A Q => Q (δ.set i (some d)) A
def dgNil : DGs := fun ds δ A Q => match ds with
  | [] => Q δ A
  | _ => False
def dgCons (g : DG) (gs : DGs) : DGs := fun ds δ A Q => match ds with
  | d :: r => g d δ A fun δ1 A1 => gs r δ1 A1 Q
  | [] => False
def dgTup (n : Nat) (gs : DGs) : DG := fun d δ A Q => match asS A d with
  | some l => l.length = n ∧ gs l δ A Q
  | none => False
section
variable {e : Expr} {es : List Expr} {g : DG} {gs : DGs} {pos : Pos} {k : Nat}
theorem qg_name {i : Nat} {x : Str} (hN : X.N.Nodup) (hi : X.N[i]? = some x) (hx : Loc X.env.scope x) (hf : X.fn x = true ∨ X.env.scope.names.lookup x = some .local := by first | exact .inl rfl | exact .inr rfl | assumption) : QG X Z0 (.Name x pos) (dgName i) :=
  PG.imp (pg_name hN hi hx hf) fun v σ H Q ⟨Z, d, δ, A, Kt, z, rv, rs, ra, t, k⟩ => k Z _ A _ H (Same.refl Z) (rs.set i (a := some d) (b := some v) rv) ra t
theorem qgs_nil : QGs X Z0 [] dgNil := PGs.imp pgs_nil fun vs σ H Q ⟨Z, ds, δ, A, Kt, z, rv, rs, ra, t, k⟩ => by
  unfold dgNil at t
  split at t
  · exact ⟨rv.inv0, k Z δ A σ H (Same.refl Z) rs ra t⟩
  · exact t.elim
theorem qgs_cons (h1 : QG X Z0 e g) (h2 : QGs X Z0 es gs) (hs : (assignEach (e :: es) X.env).map (·.2) = assign e X.env :: (assignEach es X.env).map (·.2) := by rfl) : QGs X Z0 (e :: es) (dgCons g gs) :=
  PGs.imp (pgs_cons h1 h2 hs) fun vs σ H Q ⟨Z, ds, δ, A, Kt, z, rv, rs, ra, t, k⟩ => by
  unfold dgCons at t
  split at t
  · obtain ⟨v, r, e1, r1, r2⟩ := rv.inv
    exact ⟨v, r, e1, Z, _, δ, A, _, z, r1, rs, ra, t, fun Z1 δ1 A1 σ1 H1 s1 rs1 ra1 t1 => ⟨Z1, _, δ1, A1, Kt, z.trans s1, r2.mono s1, rs1, ra1, t1, fun Z2 δ2 A2 σ2 H2 s2 => k Z2 δ2 A2 σ2 H2 (s1.trans s2)⟩⟩
  · exact t.elim
theorem qg_tup {n : Nat} (hc : X.calm = true) (h : QGs X Z0 es gs) (hn : (assignEach es X.env).length = n := by rfl) (hst : (assignEach es X.env).findIdx? (·.1) = none := by rfl) : QG X Z0 (.Tuple es k pos) (dgTup n gs) :=
  PG.imp (PG.or (pg_tup hc h hn hst) (pg_lst hc h hn hst)) fun v σ H Q ⟨Z, d, δ, A, Kt, z, rv, rs, ra, t, k⟩ => by
  unfold dgTup at t
  split at t
  · rename_i l q
    obtain ⟨p, vs, e1, e2, e3⟩ := asS_ok ra rv q
    have hl : vs.length = n := by rw [e3.len]; exact t.1
    have fin : liftGs X.K Z0 gs vs σ H Q := ⟨Z, l, δ, A, Kt, z, e3, rs, ra, t.2, k⟩
    rcases e2 with e2 | e2
    · exact .inr ⟨p, vs, e1, e2, hl, fin⟩
    · exact .inl ⟨p, vs, e1, e2, hl, fin⟩
  · exact t.elim
end

/-! ### stores -/
section
variable {e tg o : Expr} {te to : DE} {g : DG} {pos pos' : Pos}
def sAsg (te : DE) (g : DG) : DS := fun D δ A => te δ A fun d A1 => g d δ A1 D.nx
theorem lift_asg {D : Ends} {σ : L2.St} {H : Hp} (h : liftS K Z0 (sAsg te g) D σ H) : tAsg (liftE K Z0 te) (liftG K Z0 g) D σ H := by
  obtain ⟨Z, δ, A, DD, z, rs, ra, t, re⟩ := h
  exact ⟨Z, δ, A, _, z, rs, ra, t, fun Z1 d A1 v H1 s1 ra1 rv t1 => ⟨Z1, d, δ, A1, DD.nx, z.trans s1, rv, rs.mono s1, ra1, t1, fun Z2 δ2 A2 σ2 H2 s2 => re.nx Z2 δ2 A2 σ2 H2 (s1.trans s2)⟩⟩
theorem qs_asg (he : QE X Z0 e te) (hg : QG X Z0 tg g) (hs : swapsWithSole [tg] e pos.line X.env = pure false := by rfl) (hw : swappedStores [tg] e X.env = pure none := by rfl) (h1 : (assignEach [tg] X.env).map (·.2) = [assign tg X.env] := by rfl) :
    QS X Z0 (.Assign [tg] e pos) (sAsg te g) := PS.imp (ps_asg he hg hs hw h1) fun D σ H h => lift_asg h
theorem qs_set {i : Nat} {x : Str} (hN : X.N.Nodup) (hi : X.N[i]? = some x) (hx : Loc X.env.scope x) (he : QE X Z0 e te) (hs : swapsWith e (some (.Name x pos')) pos.line X.env = pure false := by rfl)
    (hf : X.fn x = true ∨ X.env.scope.names.lookup x = some .local := by first | exact .inl rfl | exact .inr rfl | assumption) : QS X Z0 (.Assign [.Name x pos'] e pos) (sAsg te (dgName i)) :=
  PS.imp (ps_set hN hi hx he hs hf) fun D σ H ⟨Z, δ, A, DD, z, rs, ra, t, re⟩ =>
    ⟨Z, δ, A, _, z, rs, ra, t, fun Z1 d A1 v H1 s1 ra1 rv t1 => re.nx Z1 _ A1 _ H1 s1 ((rs.mono s1).set i (a := some d) (b := some v) rv) ra1 t1⟩
/-- a, b = x, y -/
def sPar (i j : Nat) (ta : DA) : DS := fun D δ A => ta δ A fun ds A1 => match ds with
  | [d, e] => D.nx ((δ.set i (some d)).set j (some e)) A1
  | _ => False
theorem qs_par {i j : Nat} {x y : Str} {a b : Expr} {ta : DA} {px py pt : Pos} {kt k2 pt2} (hc : X.calm = true) (hN : X.N.Nodup) (hi : X.N[i]? = some x) (hj : X.N[j]? = some y) (hij : i ≠ j)
    (hx : X.env.scope.names.lookup x = some .local) (hy : X.env.scope.names.lookup y = some .local) (ha : QA X Z0 [a, b] ta)
    (hw : swappedStores [.Tuple [.Name x px, .Name y py] kt pt] (.Tuple [a, b] k2 pt2) X.env = pure (some [x, y]))
    (hs : swapsWithSole [.Tuple [.Name x px, .Name y py] kt pt] (.Tuple [a, b] k2 pt2) pos.line X.env = pure false := by rfl) :
    QS X Z0 (.Assign [.Tuple [.Name x px, .Name y py] kt pt] (.Tuple [a, b] k2 pt2) pos) (sPar i j ta) := PS.imp (ps_par hc hN hi hj hij hx hy ha hw hs) fun D σ H ⟨Z, δ, A, DD, z, rs, ra, t, re⟩ =>
  ⟨Z, δ, A, _, z, rs, ra, t, fun Z1 ds A1 vs H1 s1 ra1 rv t1 => by
    split at t1
    · obtain ⟨v, u, rfl, r1, r2⟩ := rv.two
      exact ⟨v, u, rfl, re.nx Z1 _ A1 _ H1 s1 (((rs.mono s1).set i (a := some _) (b := some v) r1).set j (a := some _) (b := some u) r2) ra1 t1⟩
    · exact t1.elim⟩
end

/-! ### while -/
def whileN (c : DT) (body : DS) (D : DEnds) : Nat → DSt → AH → Prop
  | 0, _, _ => False
  | n + 1, δ, A => c δ A fun b A1 => (b = true → body { D with nx := whileN c body D n, ct := whileN c body D n, bk := D.nx } δ A1) ∧ (b = false → D.nx δ A1)
def sWhile (c : DT) (body : DS) : DS := fun D δ A => ∃ n, whileN c body D n δ A
theorem qs_while {c : Expr} {body : List Stmt} {tc : DT} {tb : DS} {pos : Pos} (hp : PassesOwn (model X.prog X.w) X.A X.env X.xe) (hc : QT X Z0 c tc) (hb : QSs X Z0 body tb) : QS X Z0 (.While c body [] pos) (sWhile tc tb) :=
  PS.imp (ps_while hp hc hb) fun D σ H ⟨Z, δ, A, DD, z, rs, ra, ⟨n, t⟩, re⟩ => by
  refine ⟨fun m σ H => ∃ Z1 δ A, Same Z Z1 ∧ RS X.K Z1 δ σ ∧ RA X.K Z1 A H ∧ whileN tc tb DD m δ A, ⟨n, Z, δ, A, Same.refl Z, rs, ra, t⟩, fun m σ H ⟨Z1, δ, A, s1, rs, ra, t⟩ => ?_⟩
  cases m with
  | zero => exact t.elim
  | succ m =>
    refine ⟨Z1, δ, A, _, z.trans s1, rs, ra, t, fun Z2 b A2 H2 s2 ra2 t2 => ?_⟩
    cases b with
    | true =>
      refine iteT ⟨fun σ' H' => ∃ Z3 δ A, Same Z Z3 ∧ RS X.K Z3 δ σ' ∧ RA X.K Z3 A H' ∧ whileN tc tb DD m δ A, fun σ' H' q => ⟨m, Nat.lt_succ_self m, q⟩, ?_⟩
      have re2 := re.mono (s1.trans s2)
      have nx : ∀ Z' δ A σ H, Same Z2 Z' → RS X.K Z' δ σ → RA X.K Z' A H → whileN tc tb DD m δ A → ∃ Z3 δ A, Same Z Z3 ∧ RS X.K Z3 δ σ ∧ RA X.K Z3 A H ∧ whileN tc tb DD m δ A :=
        fun Z3 δ3 A3 σ3 H3 s3 rs3 ra3 t3 => ⟨Z3, δ3, A3, (s1.trans s2).trans s3, rs3, ra3, t3⟩
      exact ⟨Z2, δ, A2, _, (z.trans s1).trans s2, rs.mono s2, ra2, t2.1 rfl, ⟨nx, re2.rt, re2.nx, nx⟩⟩
    | false => exact iteF (re.nx Z2 δ A2 σ H2 (s1.trans s2) (rs.mono s2) ra2 (t2.2 rfl))

/-! ### what a for walks -/
/-- the items, and what must hold of the objects at each turn -/
abbrev DI := DSt → AH → (List D → (AH → Prop) → AH → Prop) → Prop
structure WalkD (K : PySem.W.Frag) (Z : Hp) (J : It) (l : List D) (g : AH → Prop) : Prop where
  ex : ∃ (G : Hp → Prop) (Y : Nat → Hp → V → Hp → Prop), Walk J l.length G Y ∧ (∀ Z' A H, Same Z Z' → RA K Z' A H → g A → G H) ∧
    ∀ i Z' A H x H', i < l.length → Same Z Z' → RA K Z' A H → g A → Y i H x H' → ∃ Z2 d, Same Z' Z2 ∧ RA K Z2 A H' ∧ l[i]? = some d ∧ RV K Z2 d x
def liftI (K : PySem.W.Frag) (Z0 : Hp) (it : DI) : TI := fun σ H R => ∃ Z δ A Kt, Same Z0 Z ∧ RS K Z δ σ ∧ RA K Z A H ∧ it δ A Kt ∧
  ∀ Z' l g A' J H', Same Z Z' → RA K Z' A' H' → WalkD K Z' J l g → Kt l g A' → R J H'
abbrev QI (X : Cx) (Z0 : Hp) (tg e : Expr) (it : DI) : Prop := PI X tg e (liftI X.K Z0 it)
theorem PI.imp {tg e : Expr} {t u : TI} (h : PI X tg e t) (i : ∀ σ H R, u σ H R → t σ H R) : PI X tg e u := ⟨fun pins s σ H R I q => h.run pins s σ H R I (i σ H R q)⟩
theorem PI.or {tg e : Expr} {t u : TI} (h : PI X tg e t) (h' : PI X tg e u) : PI X tg e (fun σ H R => t σ H R ∨ u σ H R) := ⟨fun pins s σ H R I q => q.elim (h.run pins s σ H R I) (h'.run pins s σ H R I)⟩
def forD (g : AH → Prop) (tg : DG) (body : DS) (DD : DEnds) : List D → DSt → AH → Prop
  | [], δ, A => g A ∧ DD.nx δ A
  | x :: l, δ, A => g A ∧ tg x δ A fun δ1 A1 => body { DD with nx := forD g tg body DD l, ct := forD g tg body DD l, bk := DD.nx } δ1 A1
def sFor (it : DI) (tg : DG) (body : DS) : DS := fun D δ A => it δ A fun l g A1 => forD g tg body D l δ A1
theorem qs_for {tg iter : Expr} {body : List Stmt} {it : DI} {g : DG} {tb : DS} {pos : Pos} (hp : PassesOwn (model X.prog X.w) X.A X.env X.xe) (hc : X.calm = true) (hi : QI X Z0 tg iter it) (hg : QG X Z0 tg g) (hb : QSs X Z0 body tb)
    (hs : ∀ x, foldedSetIterable iter X.env x = pure x := by intro _; rfl) : QS X Z0 (.For tg iter body [] pos) (sFor it g tb) :=
  PS.imp (ps_for hp hc hi hg hb hs) fun D σ H ⟨Z, δ, A, DD, z, rs, ra, t, re⟩ => by
  refine ⟨Z, δ, A, _, z, rs, ra, t, fun Z1 l gd A1 J H1 s1 ra1 w t1 => ?_⟩
  obtain ⟨G, Y, wk, hG, hY⟩ := w.ex
  refine ⟨fun i m σ H => m = l.length - i ∧ i ≤ l.length ∧ ∃ Z2 δ2 A2, Same Z1 Z2 ∧ RS X.K Z2 δ2 σ ∧ RA X.K Z2 A2 H ∧ forD gd g tb DD (l.drop i) δ2 A2,
    ⟨l.length, by omega, Nat.zero_le _, Z1, δ, A1, Same.refl Z1, rs.mono s1, ra1, t1⟩, fun i m σ H ⟨em, hi, Z2, δ2, A2, s2, rs2, ra2, t2⟩ => ?_⟩
  by_cases hlt : i < l.length
  · have ed : l.drop i = l[i] :: l.drop (i + 1) := List.drop_eq_getElem_cons hlt
    rw [ed] at t2
    obtain ⟨tg2, t2⟩ := t2
    have nx : ∀ (σ' : L2.St) (H' : Hp), (∃ Z2 δ2 A2, Same Z1 Z2 ∧ RS X.K Z2 δ2 σ' ∧ RA X.K Z2 A2 H' ∧ forD gd g tb DD (l.drop (i + 1)) δ2 A2) → ∃ m', m' < m ∧ m' = l.length - (i + 1) ∧ i + 1 ≤ l.length ∧ ∃ Z2 δ2 A2, Same Z1 Z2 ∧ RS X.K Z2 δ2 σ' ∧ RA X.K Z2 A2 H' ∧ forD gd g tb DD (l.drop (i + 1)) δ2 A2 :=
      fun σ' H' q => ⟨l.length - (i + 1), by omega, rfl, hlt, q⟩
    refine .inr ⟨wk.goes i H hlt (hG Z2 A2 H s2 ra2 tg2), _, nx, fun x H' hy => ?_⟩
    obtain ⟨Z3, d, s3, ra3, hd, rv⟩ := hY i Z2 A2 H x H' hlt s2 ra2 tg2 (wk.yields i H x H' hlt (hG Z2 A2 H s2 ra2 tg2) hy)
    have ed2 : l[i] = d := by rw [List.getElem?_eq_getElem hlt] at hd; exact Option.some.inj hd
    rw [ed2] at t2
    refine ⟨Z3, d, δ2, A2, _, ((z.trans s1).trans s2).trans s3, rv, rs2.mono s3, ra3, t2, fun Z4 δ4 A4 σ4 H4 s4 rs4 ra4 t4 => ?_⟩
    have s14 : Same Z1 Z4 := (s2.trans s3).trans s4
    have re4 := re.mono (s1.trans s14)
    have again : ∀ Z' δ A σ H, Same Z4 Z' → RS X.K Z' δ σ → RA X.K Z' A H → forD gd g tb DD (l.drop (i + 1)) δ A → ∃ Z2 δ2 A2, Same Z1 Z2 ∧ RS X.K Z2 δ2 σ ∧ RA X.K Z2 A2 H ∧ forD gd g tb DD (l.drop (i + 1)) δ2 A2 :=
      fun Z5 δ5 A5 σ5 H5 s5 rs5 ra5 t5 => ⟨Z5, δ5, A5, s14.trans s5, rs5, ra5, t5⟩
    exact ⟨Z4, δ4, A4, _, (z.trans s1).trans s14, rs4, ra4, t4, ⟨again, re4.rt, re4.nx, again⟩⟩
  · have ei : i = l.length := by omega
    subst ei
    rw [List.drop_length] at t2
    exact .inl ⟨wk.stops H (hG Z2 A2 H s2 ra2 t2.1), re.nx Z2 δ2 A2 σ H (s1.trans s2) rs2 ra2 t2.2⟩
/-- over a list, a tuple -/
def iSeq (t : DE) : DI := fun δ A R => t δ A fun d A1 => match d with
  | .tup l => R l (fun _ => True) A1
  | .lst l => R l (fun _ => True) A1
  | .rol l => R l (fun _ => True) A1
  | .ref a => (match A1 a with
    | some (.lst l) => R l (fun A' => A' a = some (.lst l)) A1
    | _ => False)
  | _ => False
def iSeqH (K : PySem.W.Frag) (tl : TE) : TI := fun σ H R => tl σ H fun x H1 => ∃ a, x = .ref a ∧ ((∃ xs, SqL K H1 a xs ∧ R (Itl K a) H1) ∨ ∃ xs, SqT K H1 a xs ∧ R (Itt K a) H1)
theorem pi_seqH {tg l : Expr} {tl : TE} (hl : PE X l tl) : PI X tg l (iSeqH X.K tl) := by
  refine ⟨fun pins s σ H R I h => ?_⟩
  refine thn (hl.run pins s σ H _ I h) fun v s1 ⟨x, H1, I1, r1, q1⟩ => ?_
  obtain ⟨a, e, q⟩ := q1
  subst e
  cases r1
  have fp : ∀ b ∈ [s1.heap.objs.size], FpOk X pins H1 b := fun b hb => by
    have e : b = s1.heap.objs.size := by simpa using hb
    subst e
    exact I1.fpOk (Nat.le_refl _) (I1.hok.fresh (Nat.le_refl _))
  rcases q with ⟨xs, hq, q⟩ | ⟨xs, hq, q⟩
  · obtain ⟨its, rv, p, hz⟩ := I1.list hq
    refine wpAny_pyIter_list p.isList ?_
    exact ⟨s1.heap.objs.size, [s1.heap.objs.size], _, _, H1, rfl, I1.kept (t' := s1.toks) fun b o e => Heap.get?_push_of_some _ e, turn_list a _, ⟨_, Heap.get?_push_size _ rfl, rfl, rfl⟩, fp, q⟩
  · obtain ⟨its, rv, p, hz⟩ := I1.tuple hq
    refine wpAny_pyIter_tuple (show s1.heap.IsTuple a its.toArray from p) ?_
    exact ⟨s1.heap.objs.size, [s1.heap.objs.size], _, _, H1, rfl, I1.kept (t' := s1.toks) fun b o e => Heap.get?_push_of_some _ e, turn_tuple a _, ⟨_, Heap.get?_push_size _ rfl, rfl, rfl⟩, fp, q⟩
theorem walkD_list {a : Addr} {l : List D} {vs : List V} {g : AH → Prop} (r : RVs K Z l vs) (hG : ∀ Z' A H, Same Z Z' → RA K Z' A H → g A → SqL K H a vs) : WalkD K Z (Itl K a) l g :=
  ⟨_, _, r.len ▸ walk_list (a := a) (xs := vs), hG, fun i Z' A H x H' hi s ra _ hy => by
    obtain ⟨rfl, hx⟩ := hy
    obtain ⟨d, h1, h2⟩ := r.get hx
    exact ⟨Z', d, Same.refl _, ra, h1, h2.mono s⟩⟩
theorem walkD_tup {a : Addr} {l : List D} {vs : List V} {g : AH → Prop} (r : RVs K Z l vs) (h : SqT K Z a vs) : WalkD K Z (Itt K a) l g :=
  ⟨_, _, r.len ▸ walk_tup (a := a) (xs := vs), fun Z' A H s ra _ => sqT_mono (s.trans ra.sub) h, fun i Z' A H x H' hi s ra _ hy => by
    obtain ⟨rfl, hx⟩ := hy
    obtain ⟨d, h1, h2⟩ := r.get hx
    exact ⟨Z', d, Same.refl _, ra, h1, h2.mono s⟩⟩
theorem walkD_mut {a : Addr} {l : List D} : WalkD K Z (Itl K a) l (fun A' => A' a = some (.lst l)) :=
  ⟨fun H => ∃ vs, SqL K H a vs ∧ vs.length = l.length, fun i H x H' => H' = H ∧ ∀ xs, SqL K H a xs → xs[i]? = some x,
    ⟨fun i H hi ⟨vs, q, e⟩ => ⟨vs, vs[i]'(by omega), q, by simp [e, hi]⟩, fun H ⟨vs, q, e⟩ => ⟨vs, q, by omega⟩, fun i H x H' hi _ y => y⟩,
    fun Z' A H s ra g => by
      obtain ⟨vs, e2, e3⟩ := (ra.at_ a _ g).2
      exact ⟨vs, SqL.of e2, e3.len⟩,
    fun i Z' A H x H' hi s ra g ⟨eH, hy⟩ => by
      subst eH
      obtain ⟨vs, e2, e3⟩ := (ra.at_ a _ g).2
      obtain ⟨d, h1, h2⟩ := e3.get (hy vs (SqL.of e2))
      exact ⟨Z', d, Same.refl _, ra, h1, h2⟩⟩
theorem qi_seq {tg e : Expr} {t : DE} (h : QE X Z0 e t) : QI X Z0 tg e (iSeq t) := PI.imp (pi_seqH h) fun σ H R ⟨Z, δ, A, Kt, z, rs, ra, t, k⟩ =>
  ⟨Z, δ, A, _, z, rs, ra, t, fun Z1 d A1 v H1 s1 ra1 rv t1 => by
    cases d with
    | tup l =>
      obtain ⟨p, vs, e1, e2, e3⟩ := rv_tup rv
      exact ⟨p, e1, .inr ⟨vs, sqT_mono ra1.sub e2, k Z1 l _ A1 _ H1 s1 ra1 (walkD_tup e3 e2) t1⟩⟩
    | lst l =>
      obtain ⟨p, vs, e1, e2, e3⟩ := rv_lst rv
      exact ⟨p, e1, .inl ⟨vs, SqL.of (ra1.sub _ _ e2), k Z1 l _ A1 _ H1 s1 ra1 (walkD_list e3 fun Z' A H s ra _ => SqL.of (ra.sub _ _ (s _ _ e2))) t1⟩⟩
    | rol l =>
      obtain ⟨p, vs, e1, e2, e3⟩ := rv_rol rv
      exact ⟨p, e1, .inl ⟨vs, sqL_mono ra1.sub e2, k Z1 l _ A1 _ H1 s1 ra1 (walkD_list e3 fun Z' A H s ra _ => sqL_mono (s.trans ra.sub) e2) t1⟩⟩
    | ref a =>
      have t1' : (match A1 a with | some (.lst l) => Kt l (fun A' => A' a = some (.lst l)) A1 | _ => False) := t1
      split at t1'
      · rename_i l q
        obtain ⟨vs, e2, e3⟩ := (ra1.at_ a _ q).2
        exact ⟨a, rv_ref rv, .inl ⟨vs, SqL.of e2, k Z1 l _ A1 _ H1 s1 ra1 walkD_mut t1'⟩⟩
      · exact t1'.elim
    | _ => exact t1.elim⟩

/-! ### ranges, texts -/
def rngD (lo : Int) (n : Nat) : List D := (List.range n).map fun i => .int (lo + (i : Nat))
theorem walkD_range {lo : Int} {n : Nat} : WalkD K Z (Itr lo n) (rngD lo n) (fun _ => True) :=
  ⟨fun _ => True, YFn fun i => .int (lo + i), by have := walk_range (lo := lo) (n := n); unfold rngD; rw [List.length_map, List.length_range]; exact this, fun _ _ _ _ _ _ => trivial, fun i Z' A H x H' hi s ra _ ⟨e1, e2⟩ => by
    subst e1 e2
    unfold rngD at hi ⊢
    rw [List.length_map, List.length_range] at hi
    exact ⟨Z', .int (lo + (i : Nat)), Same.refl _, ra, by simp [hi], mk_int⟩⟩
abbrev Small (i : Int) : Prop := i.natAbs < 2 ^ 62
def iRng1 (t : DA) : DI := fun δ A R => t δ A fun ds A1 => match ds with
  | [.int n] => Small n ∧ R (rngD 0 n.toNat) (fun _ => True) A1
  | _ => False
def iRng2 (t : DA) : DI := fun δ A R => t δ A fun ds A1 => match ds with
  | [.int i, .int j] => (Small i ∧ Small j) ∧ R (rngD i (j - i).toNat) (fun _ => True) A1
  | _ => False
theorem qi_range1 {tg a : Expr} {t : DA} {p pos : Pos} (hg : Gl X "range") (hm : X.mg "range" = none) (ha : QA X Z0 [a] t) (hs : starEach [a] X.env = [(false, eval a X.env)] := by rfl) : QI X Z0 tg (.Call (.Name "range" p) [a] [] pos) (iRng1 t) :=
  PI.imp (pi_range1 hg hm ha hs) fun σ H R ⟨Z, δ, A, Kt, z, rs, ra, t, k⟩ => ⟨Z, δ, A, _, z, rs, ra, t, fun Z1 ds A1 vs H1 s1 ra1 rv t1 => by
    split at t1
    · obtain ⟨v, rfl, r1⟩ := rv.one
      exact ⟨_, by rw [rv_int r1], by have := t1.1; unfold Small at this; omega, by have := t1.1; unfold Small at this; omega, k Z1 _ _ A1 _ H1 s1 ra1 walkD_range t1.2⟩
    · exact t1.elim⟩
/-- a text's signs -/
def signsD (z : Str) : List D := z.cps.toList.map fun c => .str ⟨#[c]⟩
def iText (t : DE) : DI := fun δ A R => t δ A fun d A1 => match d with
  | .str z => R (signsD z) (fun _ => True) A1
  | _ => False
theorem walkD_str {z : Str} : WalkD K Z (Its z) (signsD z) (fun _ => True) :=
  ⟨fun _ => True, fun i H v H' => H' = H ∧ ∃ c, z.cps[i]? = some c ∧ v = .str ⟨#[c]⟩, by have := walk_str (z := z); unfold signsD; rw [List.length_map, Array.length_toList]; exact this, fun _ _ _ _ _ _ => trivial, fun i Z' A H x H' hi s ra _ ⟨e1, c, e2, e3⟩ => by
    subst e1 e3
    refine ⟨Z', .str ⟨#[c]⟩, Same.refl _, ra, ?_, mk_str⟩
    unfold signsD
    rw [List.getElem?_map, Array.getElem?_toList, e2]; rfl⟩
theorem qi_str {tg e : Expr} {t : DE} (h : QE X Z0 e t) : QI X Z0 tg e (iText t) := PI.imp (pi_str h) fun σ H R ⟨Z, δ, A, Kt, z, rs, ra, t, k⟩ =>
  ⟨Z, δ, A, _, z, rs, ra, t, fun Z1 d A1 v H1 s1 ra1 rv t1 => by
    cases d with
    | str z => exact ⟨z, rv_str rv, k Z1 _ _ A1 _ H1 s1 ra1 walkD_str t1⟩
    | _ => exact t1.elim⟩

/-! ### raise, the text's own defs -/
section
variable {w : DW}
def sRaise (w : DW) (c : String) : DS := fun _ δ A => w c [] δ A
theorem qs_raise {c : String} {e : Expr} {pos : Pos} (hc : X.calm = true) (tk : Takes X (liftW X.K Z0 w)) (he : PMk X e (fun _ H Q => Q (.ref (He.ga X.K (Str.ofString c))) none H)) : QS X Z0 (.Raise (some e) none pos) (sRaise w c) :=
  PS.imp (ps_raise hc tk he) fun D σ H ⟨Z, δ, A, DD, z, rs, ra, t, re⟩ => ⟨Z, δ, A, c, [], z, rs, ra, ⟨rfl, .inl ⟨rfl, rfl⟩⟩, t⟩
/-- f(..), by the promise of f; what f raises is wished for as w says -/
def eCall (w : DW) (sp : DSp) (dvs : List D) (t : DA) : DE := fun δ A Q => t δ A fun ds A1 => sp (ds ++ dvs) A1 Q fun c fs A2 => w c fs δ A2
theorem lift_call {sp : DSp} {dvs : List D} {ws : List V} {t : DA} {σ : L2.St} {H : Hp} {Q : VK} (hd : ∀ Z, RVs K Z dvs ws) (h : liftE K Z0 (eCall w sp dvs t) σ H Q) : tCallSD (liftSp K sp) ws (WE (liftW K Z0 w)) (liftA K Z0 t) σ H Q := by
  obtain ⟨Z, δ, A, Kt, z, rs, ra, t, k⟩ := h
  exact ⟨Z, δ, A, _, z, rs, ra, t, fun Z1 ds A1 vs H1 s1 ra1 rv t1 => ⟨Z1, ds ++ dvs, A1, Kt, _, rv.append (hd Z1), ra1, t1, Kont.mono k s1, fun Z2 c fs A2 cv dd H2 s2 ra2 rx q => ⟨Z2, δ, A2, c, fs, (z.trans s1).trans s2, (rs.mono s1).mono s2, ra2, rx, q⟩⟩⟩
/-- a def of the text, by its promise -/
structure DFn (P : Program) (w : World) (K : PySem.W.Frag) (mg : Str → Option Value) (base : Heap) (k : Nat) (x : Str) (sp : DSp) (dvs : List D) : Prop where
  ex : ∃ (f : Addr) (fd : FuncData) (ps : List Str) (ds : List Value) (ws : List V), FnOk P w K mg base (CX P w) k f fd ps (liftSp K sp) ∧ mg x = some (.ref f) ∧ PySem.W.keepIn K (.ref f) = true ∧ Binds K fd ps ds ∧ Vals ws ds ∧ ∀ Z, RVs K Z dvs ws
variable {x : Str} {k j : Nat} {sp : DSp} {dvs : List D} {e : Expr} {es : List Expr} {t : DA} {p pos : Pos}
theorem qe_call (F : DFn X.prog X.w X.K X.mg X.base k x sp dvs) (hr : Room j X.A) (hk : k ≤ j) (hg : Gl X x) (tk : Takes X (liftW X.K Z0 w)) (ha : QA X Z0 (e :: es) t) (hdb : (x == ("__debug__" : Str)) = false := by decide)
    (he : starEach (e :: es) X.env = (false, eval e X.env) :: starEach es X.env := by rfl) (hpl : (backTo pos (starEach es X.env)).any (·.1) = false := by rfl) : QE X Z0 (.Call (.Name x p) (e :: es) [] pos) (eCall w sp dvs t) := by
  obtain ⟨f, fd, ps, ds, ws, F, hm, kp, b, d, hd⟩ := F.ex
  exact PE.imp (pe_callSD F (hr.mono hk) hg hm kp b d (fun σ => passAt tk σ) ha hdb he hpl) fun σ H Q h => lift_call hd h
end
/-- a def keeps its promise -/
@[simp] def startD (n : Nat) (ds : List D) : DSt := ds.map some ++ List.replicate (n - ds.length) none
theorem start_rs : ∀ {ds : List D} {vs : List V} (m : Nat), RVs K Z ds vs → RS K Z (ds.map some ++ List.replicate m none) (vs.map some ++ List.replicate m none)
  | [], vs, m, r => by
    rw [r.inv0]
    simp only [List.map_nil, List.nil_append]
    induction m with
    | zero => exact .nil
    | succ m ih => rw [List.replicate_succ, List.replicate_succ]; exact .cons trivial ih
  | d :: ds, vs, m, r => by
    obtain ⟨v, u, rfl, r1, r2⟩ := r.inv
    exact .cons (a := some d) (b := some v) r1 (start_rs m r2)
theorem fn_ok {P : Program} {w : World} {mg : Str → Option Value} {base : Heap} {x qual : Str} {params : Arguments} {body : List Stmt} {scope : Scope} {dvs : List V} {kws : List (Str × V)} {f : Addr} {fd : FuncData} {N ps : List Str} {k : Nat} {sp : DSp} {t : DW → DS}
    (F : FunD K x qual params body scope dvs kws f fd) (S : FnScope N ps scope) (len : ∀ ds A Q E, sp ds A Q E → ds.length = ps.length)
    (hder : ∀ (cdv : Value) (A : Around) (outer : List Env) (s : Shared) (H : Hp) (E : XK) (Z0 : Hp) (wd : DW), Room k (A.deeper (envOfC qual scope s.heap.objs.size f cdv)) → Takes (cxOf (CX P w) P w K mg base N qual scope f cdv A outer s H E) (liftW K Z0 wd) → QSs (cxOf (CX P w) P w K mg base N qual scope f cdv A outer s H E) Z0 body (t wd))
    (hrd : ∀ ds A Q E, sp ds A Q E → t (fun c fs _ A => E c fs A) { nx := fun _ A => Q .non A, rt := Q } (startD N.length ds) A) : FnOk P w K mg base (CX P w) (k + 1) f fd ps (liftSp K sp) := by
  refine F.ok S (fun vs H Q E ⟨Z, ds, A, Kt, Ex, r, ra, h, _, _⟩ => by rw [r.len]; exact len ds A Kt Ex h) fun cdv A0 outer s H vs Q E hr ⟨Z, ds, A, Kt, Ex, r, ra, h, hq, he⟩ => ?_
  have tk : Takes (cxOf (CX P w) P w K mg base N qual scope f cdv A0 outer s H E) (liftW K Z fun c fs _ A => Ex c fs A) :=
    Takes.imp (takes_of rfl rfl rfl rfl) fun cv dd σ H' ⟨Z', δ, A', c, fs, z, rs, ra', rx, q⟩ => he Z' c fs A' cv dd H' z ra' rx q
  refine ⟨_, hder cdv A0 outer s H E Z (fun c fs _ A => Ex c fs A) hr tk, Z, startD N.length ds, A, _, Same.refl Z, ?_, ra, hrd ds A Kt Ex h, ?_⟩
  · unfold startD L2.start
    rw [r.len]
    exact start_rs _ r
  · exact ⟨fun Z' δ A' σ H' s rs ra' q => hq Z' .non A' .non H' s ra' mk_non q, fun Z' d A' v H' s ra' rv q => hq Z' d A' v H' s ra' rv q, fun _ _ _ _ _ _ _ _ q => q.elim, fun _ _ _ _ _ _ _ _ q => q.elim⟩
end DL


/-! DL5: isinstance, try. -/
namespace DL
open PySem PySem.Spec PyProof.Rows L2
variable {K : PySem.W.Frag} {Z Z' Z0 : Hp} {X : Cx}

/-! ### isinstance -/
/-- a value's built-in type -/
def tyD (A : AH) : D → Option String
  | .non => some "NoneType" | .bl _ => some "bool" | .int _ => some "int" | .str _ => some "str" | .tup _ => some "tuple" | .lst _ => some "list" | .rol _ => some "list" | .dic _ _ => some "dict"
  | .obj _ _ _ => none
  | .ref a => match A a with
    | some (.lst _) => some "list"
    | some (.dic _) => some "dict"
    | _ => none
def tyNames : List String := ["NoneType", "bool", "int", "str", "tuple", "list", "dict"]
def instB (t T : String) : Bool := t == T || (t == "bool" && T == "int")
theorem kitB_all : ∀ t ∈ tyNames, ∀ T ∈ ["bool", "int", "str", "tuple", "list", "dict"], kitB t T = some (instB t T) := by decide +kernel
theorem tyD_mem {A : AH} {d : D} {t : String} (h : tyD A d = some t) : t ∈ tyNames := by
  cases d with
  | ref a =>
    have h' : (match A a with | some (.lst _) => some "list" | some (.dic _) => some "dict" | _ => none) = some t := h
    split at h'
    · cases h'; decide
    · cases h'; decide
    · cases h'
  | obj _ _ _ => cases h
  | _ => cases h; decide
theorem tyX_rol {H : Hp} {p : Addr} {vs : List V} (h : SqL K H p vs) : TyX K H (.ref p) (.type "list") := by
  rcases h with (h | ⟨o, h⟩) | ⟨o, its, n, h1, h2, _⟩
  · exact .base (.lst h)
  · exact .base (.frz h)
  · exact .kList h1 h2
theorem tyX_tup {H : Hp} {p : Addr} {vs : List V} (h : SqT K H p vs) : TyX K H (.ref p) (.type "tuple") := by
  rcases h with (h | ⟨o, h⟩) | ⟨o, its, n, h1, h2, _⟩
  · exact .base (.tup h)
  · exact .fTuple h
  · exact .kTuple h1 h2
theorem tyD_ok {A : AH} {H : Hp} (R : RA K Z A H) {d : D} {v : V} {t : String} (r : RV K Z d v) (h : tyD A d = some t) : TyX K H v (.type t) := by
  cases d with
  | non => cases h; rw [rv_non r]; exact .base .non
  | bl b => cases h; rw [rv_bl r]; exact .base (.bl b)
  | int b => cases h; rw [rv_int r]; exact .base (.int b)
  | str b => cases h; rw [rv_str r]; exact .base (.str b)
  | tup l => cases h; obtain ⟨p, vs, rfl, e, _⟩ := rv_tup r; exact tyX_tup (sqT_mono R.sub e)
  | lst l => cases h; obtain ⟨p, vs, rfl, e, _⟩ := rv_lst r; exact .base (.lst (R.sub _ _ e))
  | rol l => cases h; obtain ⟨p, vs, rfl, e, _⟩ := rv_rol r; exact tyX_rol (sqL_mono R.sub e)
  | dic ks l => cases h; obtain ⟨p, vs, rfl, e, _⟩ := rv_dic r; exact .base (.dK (R.sub _ _ e))
  | obj _ _ _ => cases h
  | ref a =>
    rw [rv_ref r]
    have h' : (match A a with | some (.lst _) => some "list" | some (.dic _) => some "dict" | _ => none) = some t := h
    split at h'
    · rename_i q; cases h'; obtain ⟨vs, e, _⟩ := (R.at_ a _ q).2; exact .base (.lst e)
    · rename_i q; cases h'; obtain ⟨vs, e, _⟩ := (R.at_ a _ q).2; exact .base (.dK e)
    · cases h'
def eIsi (T : String) (t : DE) : DE := fun δ A Q => t δ A fun d A1 => match tyD A1 d with
  | some s => Q (.bl (instB s T)) A1
  | none => False
section
variable {e : Expr} {te : DE} {p p2 pos : Pos} {T : String}
theorem qe_isi (hT : T ∈ ["bool", "int", "str", "tuple", "list", "dict"]) (hg : Gl X "isinstance") (hm : X.mg "isinstance" = none) (hg2 : Gl X (Str.ofString T)) (hm2 : X.mg (Str.ofString T) = none) (hv2 : bootBuiltins (Str.ofString T) = some (.type T)) (hn2 : Str.ofString T ≠ "__name__") (hd2 : (Str.ofString T == ("__debug__" : Str)) = false) (he : QE X Z0 e te)
    (h1 : starEach (e :: [.Name (Str.ofString T) p2]) X.env = (false, eval e X.env) :: starEach [.Name (Str.ofString T) p2] X.env := by rfl) (h2 : (backTo pos (starEach [.Name (Str.ofString T) p2] X.env)).any (·.1) = false := by rfl)
    (h3 : starEach [.Name (Str.ofString T) p2] X.env = [(false, eval (.Name (Str.ofString T) p2) X.env)] := by rfl) : QE X Z0 (.Call (.Name "isinstance" p) [e, .Name (Str.ofString T) p2] [] pos) (eIsi T te) :=
  PE.imp (pe_callB call_isi hg hm (by decide +kernel) (pa_cons he (pa_cons (pe_bltn (v := .ty T) hg2 hm2 hv2 rfl hn2 hd2) pa_nil h3) h1) (he := h1) (hpl := h2)) fun σ H Q ⟨Z, δ, A, Kt, z, rs, ra, t, k⟩ =>
    ⟨Z, δ, A, _, z, rs, ra, t, fun Z1 d A1 v H1 s1 ra1 rv t1 => by
      split at t1
      · rename_i s q
        exact ⟨v, .ty T, .type s, .type T, _, rfl, .ty T, tyD_ok ra1 rv q, kit_ty (kitB_all s (tyD_mem q) T hT), k Z1 _ A1 _ H1 s1 ra1 mk_bl t1⟩
      · exact t1.elim⟩
end

/-! ### try -/
/-- what is known of the classes of exceptions: sub c d: c stands under d (d may be built-in) -/
structure ExcK (K : PySem.W.Frag) (c : String) : Prop where
  c : ExcC K (He.ga K (Str.ofString c))
def suiteEnds (i : Nat) (D : DEnds) : DEnds := { nx := fun δ A => D.nx (δ.set i none) A, rt := D.rt, bk := fun δ A => D.bk (δ.set i none) A, ct := fun δ A => D.ct (δ.set i none) A }
/-- try: body / except C as e (e in slot i): suite. sub: which classes the clause takes; suite: by the exception's address, class, fields -/
def sTryAs (w : DW) (sub : String → Option Bool) (i : Nat) (body : DW → DS) (suite : Addr → String → List (String × D) → DS) : DS := fun D δ A =>
  body (fun c fs δ1 A1 => match sub c with
    | some true => ∀ a, suite a c fs (suiteEnds i D) (δ1.set i (some (.ref a))) A1
    | some false => w c fs δ1 A1
    | none => False) D δ A
def sTryOnly (w : DW) (sub : String → Option Bool) (body : DW → DS) (suite : Addr → String → List (String × D) → DS) : DS := fun D δ A =>
  body (fun c fs δ1 A1 => match sub c with
    | some true => ∀ a, suite a c fs D δ1 A1
    | some false => w c fs δ1 A1
    | none => False) D δ A
section
variable {x n : Str} {c : Value} {i : Nat} {body suite : List Stmt} {b₀ : Stmt} {np pos pos' : Pos} {tb : DW → DS} {ts : Addr → String → List (String × D) → DS} {w : DW} {sub : String → Option Bool}
end
end DL


/-! DL6: a def by its promise, the law's end. -/
namespace DL
open PySem PySem.Spec PyProof.Rows L2
variable {K : PySem.W.Frag} {Z Z' Z0 : Hp} {X : Cx}
theorem uA {k : Nat} {A : Around} (r : Room k A) : A.units + 1 < cLine := by have := r.un; omega
theorem uC {k : Nat} {A : Around} (r : Room k A) : A.units + 65 < cLine := by have := r.un; omega
section
variable {P : Program} {w : World} {mg : Str → Option Value} {base : Heap} {k : Nat} {x : Str} {sp : DSp} {f : Addr} {fd : FuncData} {ps : List Str}
theorem dfn (F : FnOk P w K mg base (CX P w) k f fd ps (liftSp K sp)) (hm : mg x = some (.ref f)) (kp : PySem.W.keepIn K (.ref f) = true) (b : Binds K fd ps []) : DFn P w K mg base k x sp [] :=
  ⟨f, fd, ps, [], [], F, hm, kp, b, .nil, fun Z => .nil⟩
theorem dfnD {dvs : List D} {ws : List V} {ds : List Value} (F : FnOk P w K mg base (CX P w) k f fd ps (liftSp K sp)) (hm : mg x = some (.ref f)) (kp : PySem.W.keepIn K (.ref f) = true) (b : Binds K fd ps ds) (v : Vals ws ds) (h : ∀ Z, RVs K Z dvs ws) : DFn P w K mg base k x sp dvs :=
  ⟨f, fd, ps, ds, ws, F, hm, kp, b, v, h⟩
end
theorem rvs_ints {H : Hp} : ∀ ns : List Int, RVs K H (ns.map .int) (ns.map V.int)
  | [] => .nil
  | n :: ns => .cons mk_int (rvs_ints ns)
theorem walk_ofW {l : PySem.W.OpenLaw} {n k : Nat} {q : Program} {loose : List Str} {XP : (Str → Option Value) → Heap → Prop} {YP : World → Heap → Prop} {d : DefRec} {x : Str}
    (hn : l.most = some n) (hn2 : n ≤ sizeLine) (hdf : d.params.defaults = []) (hr : Room k callerA)
    (F : ∀ (w : World) (mg : Str → Option Value) (fa : Addr) (h : Heap), YP w h → h.Ns mainGlobals mg → mg d.name = some (.ref fa) →
      ∃ (K : PySem.W.Frag) (fd : FuncData) (sp : Sp), K.In h ∧ (∀ (s : Shared) (u : Value), BindsTo s fd ⟨[u], []⟩ [(x, u)]) ∧
        (∀ (H : Hp) (a : Addr) (ns : List Int), ns.length ≤ n → SqL K H a (ns.map V.int) → sp [.ref a] H (fun v _ => v = .bl true) fun _ _ _ => False) ∧
        ∀ base : Heap, K.In base → base.Ns mainGlobals mg → FnOk l.prog w K mg base (CX l.prog w) k fa fd [x] sp) :
    PySem.W.WalkO q loose XP YP l.row.toRowW d [] (fun f vs => PySem.call f vs) := by
  refine Att.attach_call hn hdf fun w s₀ s₁ mg mb fa o pm cd doc a vs ns G Y ho hd hcd hmg hobj hints hlen hg => ?_
  obtain ⟨K, fd, sp, KX, hb, hsp, hF⟩ := F w mg fa _ Y G.T.g hmg
  exact law_call KX G.T.g G.T.b G.T.builtins G.T.nolimit hg hobj hints (Nat.le_trans hlen hn2) hr hF hb (fun H _ hS => hsp H a ns hlen hS) fun H e s' ⟨_, _, _, _, _, _, _, _, _, _, _, _, h⟩ => h
end DL


/-! DL7: running a reading by simp. -/
namespace DL
open PySem PySem.Spec PyProof.Rows L2
/-- a number whose text may be taken -/
def Num (i : Int) : Prop := i.natAbs < 2 ^ 1900
theorem num_of {i : Int} {k : Nat} (h : i.natAbs < 2 ^ k) (hk : k ≤ 1900) : Num i := Nat.lt_of_lt_of_le h (Nat.pow_le_pow_right (by decide) hk)
@[simp] theorem num_lit {n : Int} (h1 : -18446744073709551616 < n) (h2 : n < 18446744073709551616) : Num n := num_of (k := 64) (by omega) (by decide)
theorem uB {k : Nat} {A : Around} (r : Room k A) : A.units + 64 < cLine := by have := r.un; omega
section
variable {δ : DSt} {A : AH} {Q : DK} {D0 : DEnds} {R : List D → AH → Prop} {B : Bool → AH → Prop} {G : DSt → AH → Prop}
@[simp ↓] theorem sNext_eq : sNext D0 δ A = D0.nx δ A := rfl
@[simp ↓] theorem sSeq_eq {t u : DS} : sSeq t u D0 δ A = t { D0 with nx := u D0 } δ A := rfl
@[simp ↓] theorem sBreak_eq : sBreak D0 δ A = D0.bk δ A := rfl
@[simp ↓] theorem sCont_eq : sCont D0 δ A = D0.ct δ A := rfl
@[simp ↓] theorem sDrop_eq {t : DE} : sDrop t D0 δ A = t δ A fun _ A1 => D0.nx δ A1 := rfl
@[simp ↓] theorem sRet_eq {t : DE} : sRet t D0 δ A = t δ A D0.rt := rfl
@[simp ↓] theorem sRetN_eq : sRetN D0 δ A = D0.rt .non A := rfl
theorem sIf_eq {c : DT} {t u : DS} : sIf c t u D0 δ A = c δ A fun b A1 => (b = true → t D0 δ A1) ∧ (b = false → u D0 δ A1) := rfl
@[simp ↓] theorem sAsg_eq {t : DE} {g : DG} : sAsg t g D0 δ A = t δ A fun d A1 => g d δ A1 D0.nx := rfl
@[simp ↓] theorem sPar_eq {i j : Nat} {ta : DA} : sPar i j ta D0 δ A = ta δ A fun ds A1 => match ds with
  | [d, e] => D0.nx ((δ.set i (some d)).set j (some e)) A1
  | _ => False := rfl
@[simp ↓] theorem dgName_eq {i : Nat} {d : D} : dgName i d δ A G = G (δ.set i (some d)) A := rfl
@[simp ↓] theorem dgNil_eq : dgNil [] δ A G = G δ A := rfl
@[simp ↓] theorem dgCons_eq {g : DG} {gs : DGs} {d : D} {r : List D} : dgCons g gs (d :: r) δ A G = g d δ A fun δ1 A1 => gs r δ1 A1 G := rfl
@[simp ↓] theorem dgTup_tup {n : Nat} {gs : DGs} {l : List D} : dgTup n gs (.tup l) δ A G = (l.length = n ∧ gs l δ A G) := rfl
@[simp ↓] theorem dgTup_lst {n : Nat} {gs : DGs} {l : List D} : dgTup n gs (.lst l) δ A G = (l.length = n ∧ gs l δ A G) := rfl
@[simp ↓] theorem eVar_eq {i : Nat} {d : D} (h : δ[i]? = some (some d)) : eVar i δ A Q = Q d A := by unfold eVar; rw [h]
@[simp ↓] theorem eC_eq {d : D} : eC d δ A Q = Q d A := rfl
@[simp ↓] theorem aNil_eq : aNil δ A R = R [] A := rfl
@[simp ↓] theorem aCons_eq {t : DE} {u : DA} : aCons t u δ A R = t δ A fun d A1 => u δ A1 fun ds A2 => R (d :: ds) A2 := rfl
@[simp ↓] theorem eTup_eq {t : DA} : eTup t δ A Q = t δ A fun ds A1 => Few ds.length ∧ Q (.tup ds) A1 := rfl
@[simp ↓] theorem eLst_eq {m : Mk} {t : DA} : eLst m t δ A Q = t δ A fun ds A1 => Few ds.length ∧ m ds A1 Q := rfl
@[simp ↓] theorem mkF_eq {l : List D} : mkF l A Q = Q (.lst l) A := rfl
@[simp ↓] theorem eBin_eq {rd : DOp} {a b : DE} : eBin rd a b δ A Q = a δ A fun x A1 => b δ A1 fun y A2 => rd x y A2 Q := rfl
@[simp ↓] theorem eChain_eq {rd rd' : DOp} {ta tb tc : DE} : eChain rd rd' ta tb tc δ A Q = ta δ A fun x A1 => tb δ A1 fun y A2 => rd x y A2 fun z A3 => match z with
  | .bl k => (k = true → tc δ A3 fun w A4 => rd' y w A4 Q) ∧ (k = false → Q (.bl false) A3)
  | _ => False := rfl
@[simp ↓] theorem bE_eq {t : DE} : bE t δ A B = t δ A fun d A1 => match d with
  | .bl b => B b A1
  | _ => False := rfl
theorem bAnd_eq {t u : DT} : bAnd t u δ A B = t δ A fun b A1 => (b = true → u δ A1 B) ∧ (b = false → B false A1) := rfl
theorem bOr_eq {t u : DT} : bOr t u δ A B = t δ A fun b A1 => (b = true → B true A1) ∧ (b = false → u δ A1 B) := rfl
@[simp ↓] theorem bNot_eq {t : DT} : bNot t δ A B = t δ A fun b A1 => B (!b) A1 := rfl
@[simp ↓] theorem eCB_eq {rd : DCall} {t : DA} : eCB rd t δ A Q = t δ A fun ds A1 => rd ds A1 Q := rfl
@[simp ↓] theorem eCall_eq {w : DW} {sp : DSp} {dvs : List D} {t : DA} : eCall w sp dvs t δ A Q = t δ A fun ds A1 => sp (ds ++ dvs) A1 Q fun c fs A2 => w c fs δ A2 := rfl
@[simp ↓] theorem opAdd_int {m : Mk} {i j : Int} : opAdd m (.int i) (.int j) A Q = Q (.int (i + j)) A := rfl
@[simp ↓] theorem opAdd_str {m : Mk} {i j : Str} : opAdd m (.str i) (.str j) A Q = (Few (i.length + j.length) ∧ Q (.str (i ++ j)) A) := rfl
@[simp ↓] theorem opAdd_tup {m : Mk} {i j : List D} : opAdd m (.tup i) (.tup j) A Q = (Few (i.length + j.length) ∧ Q (.tup (i ++ j)) A) := rfl
@[simp ↓] theorem opAdd_lsts {m : Mk} {i j : List D} : opAdd m (.lst i) (.lst j) A Q = (Few (i.length + j.length) ∧ m (i ++ j) A Q) := rfl
@[simp ↓] theorem opSub_int {i j : Int} : opSub (.int i) (.int j) A Q = Q (.int (i - j)) A := rfl
@[simp ↓] theorem opMul_int {i j : Int} : opMul (.int i) (.int j) A Q = (MulOk i j ∧ Q (.int (i * j)) A) := rfl
@[simp ↓] theorem opDiv_int {i j : Int} : opDiv (.int i) (.int j) A Q = (DivOk j ∧ Q (.int (i.fdiv j)) A) := rfl
@[simp ↓] theorem opMod_int {i j : Int} : opMod (.int i) (.int j) A Q = (j ≠ 0 ∧ Q (.int (i.fmod j)) A) := rfl
@[simp ↓] theorem opPow_int {i j : Int} : opPow (.int i) (.int j) A Q = ((0 ≤ j ∧ j ≤ 1000000 ∧ i.natAbs < 2 ^ 64) ∧ Q (.int (i ^ j.toNat)) A) := rfl
@[simp ↓] theorem opCmp_int {p : Int → Int → Bool} {i j : Int} : opCmp p (.int i) (.int j) A Q = Q (.bl (p i j)) A := rfl
@[simp ↓] theorem eNeg_eq {t : DE} : eNeg t δ A Q = t δ A fun d A1 => match d with
  | .int i => Q (.int (-i)) A1
  | _ => False := rfl
@[simp ↓] theorem opIs_non {b : Bool} {x : D} : opIs b x .non A Q = Q (.bl (xor b x.isNon)) A := rfl
@[simp ↓] theorem opIs_bl {b : Bool} {x y : Bool} : opIs b (.bl x) (.bl y) A Q = Q (.bl (xor b (x == y))) A := rfl
@[simp ↓] theorem opEq_eq {b : Bool} {x y : D} : opEq b x y A Q = (dt 60 (drf A x) = true ∧ dt 60 (drf A y) = true ∧ Q (.bl (xor b (deq (drf A x) (drf A y)))) A) := rfl
@[simp ↓] theorem opIx_tup {l : List D} {i : Int} : opIx (.tup l) (.int i) A Q = match atI l i with
  | some d => Q d A
  | none => False := rfl
@[simp ↓] theorem opIx_lst {l : List D} {i : Int} : opIx (.lst l) (.int i) A Q = match atI l i with
  | some d => Q d A
  | none => False := rfl
@[simp ↓] theorem opIx_rol {l : List D} {i : Int} : opIx (.rol l) (.int i) A Q = match atI l i with
  | some d => Q d A
  | none => False := rfl
@[simp ↓] theorem bAbs_eq {i : Int} : bAbs [.int i] A Q = Q (.int i.natAbs) A := rfl
@[simp ↓] theorem bStr_eq {i : Int} : bStr [.int i] A Q = (Num i ∧ Q (.str (numStr i)) A) := rfl
@[simp ↓] theorem eSl_eq {m : Mk} {t : DE} {lo hi : DOpt} : eSl m t lo hi δ A Q = t δ A fun x A1 => lo δ A1 fun l A2 => hi δ A2 fun h A3 => opSl m x l h A3 Q := rfl
@[simp ↓] theorem oNone_eq {O : Option Int → AH → Prop} : oNone δ A O = O none A := rfl
@[simp ↓] theorem oSome_eq {t : DE} {O : Option Int → AH → Prop} : oSome t δ A O = t δ A fun d A1 => match d with
  | .int i => O (some i) A1
  | _ => False := rfl
@[simp ↓] theorem opSl_tup {m : Mk} {l : List D} {lo hi : Option Int} : opSl m (.tup l) lo hi A Q = Q (.tup (cutD l lo hi)) A := rfl
@[simp ↓] theorem opSl_lst {m : Mk} {l : List D} {lo hi : Option Int} : opSl m (.lst l) lo hi A Q = m (cutD l lo hi) A Q := rfl
@[simp ↓] theorem opSl_rol {m : Mk} {l : List D} {lo hi : Option Int} : opSl m (.rol l) lo hi A Q = m (cutD l lo hi) A Q := rfl
@[simp ↓] theorem opSl_str {m : Mk} {l : Str} {lo hi : Option Int} : opSl m (.str l) lo hi A Q = (Few l.length ∧ Q (.str (cutS l lo hi)) A) := rfl
@[simp ↓] theorem eIsi_eq {T : String} {t : DE} : eIsi T t δ A Q = t δ A fun d A1 => match tyD A1 d with
  | some s => Q (.bl (instB s T)) A1
  | none => False := rfl
theorem eAnd_eq {a b : DE} : eAnd a b δ A Q = a δ A fun d A1 => match d with
  | .bl b1 => (b1 = true → b δ A1 Q) ∧ (b1 = false → Q (.bl false) A1)
  | _ => False := rfl
@[simp ↓] theorem iSeq_eq {t : DE} {I : List D → (AH → Prop) → AH → Prop} : iSeq t δ A I = t δ A fun d A1 => match d with
  | .tup l => I l (fun _ => True) A1
  | .lst l => I l (fun _ => True) A1
  | .rol l => I l (fun _ => True) A1
  | .ref a => (match A1 a with
    | some (.lst l) => I l (fun A' => A' a = some (.lst l)) A1
    | _ => False)
  | _ => False := rfl
@[simp ↓] theorem eNot_eq {a : DE} : eNot a δ A Q = a δ A fun d A1 => match d with
  | .bl c => Q (.bl (!c)) A1
  | _ => False := rfl
theorem sFor_eq {it : DI} {g : DG} {t : DS} : sFor it g t D0 δ A = it δ A fun l gd A1 => forD gd g t D0 l δ A1 := rfl
theorem sWhile_eq {c : DT} {t : DS} : sWhile c t D0 δ A = ∃ n, whileN c t D0 n δ A := rfl
end

@[simp] theorem drf_non {A : AH} : drf A .non = .non := rfl
@[simp] theorem drf_bl {A : AH} {b : Bool} : drf A (.bl b) = .bl b := rfl
@[simp] theorem drf_int {A : AH} {b : Int} : drf A (.int b) = .int b := rfl
@[simp] theorem drf_str {A : AH} {b : Str} : drf A (.str b) = .str b := rfl
@[simp] theorem drf_tup {A : AH} {b : List D} : drf A (.tup b) = .tup b := rfl
@[simp] theorem drf_lst {A : AH} {b : List D} : drf A (.lst b) = .lst b := rfl
@[simp] theorem drf_rol {A : AH} {b : List D} : drf A (.rol b) = .rol b := rfl
@[simp] theorem drf_obj {A : AH} {c : String} {ns : List String} {b : List D} : drf A (.obj c ns b) = .obj c ns b := rfl
@[simp] theorem dt_non {n : Nat} : dt n .non = true := by cases n <;> rfl
@[simp] theorem dt_bl {n : Nat} {b : Bool} : dt n (.bl b) = true := by cases n <;> rfl
@[simp] theorem dt_int {n : Nat} {b : Int} : dt n (.int b) = true := by cases n <;> rfl
@[simp] theorem dt_str {n : Nat} {b : Str} : dt n (.str b) = PyData.strOk b := by cases n <;> rfl
@[simp] theorem dt_tup {n : Nat} {l : List D} : dt (n + 1) (.tup l) = dts n l := by rw [dt]
@[simp] theorem dt_lst {n : Nat} {l : List D} : dt (n + 1) (.lst l) = dts n l := by rw [dt]
@[simp] theorem dts_nil {n : Nat} : dts n [] = true := by cases n <;> rfl
@[simp] theorem dts_cons {n : Nat} {d : D} {l : List D} : dts n (d :: l) = (dt n d && dts n l) := by cases n <;> rfl
@[simp] theorem deq_int {i j : Int} : deq (.int i) (.int j) = (i == j) := by simp [deq]
@[simp] theorem deq_bl {i j : Bool} : deq (.bl i) (.bl j) = (i == j) := by simp [deq]
@[simp] theorem deq_str {i j : Str} : deq (.str i) (.str j) = (i == j) := by simp [deq]
@[simp] theorem deq_tup {i j : List D} : deq (.tup i) (.tup j) = deqs i j := by simp [deq]
@[simp] theorem deq_lst {i j : List D} : deq (.lst i) (.lst j) = deqs i j := by simp [deq]
@[simp] theorem deqs_nil : deqs [] [] = true := by simp [deqs]
@[simp] theorem deqs_cons {a b : D} {i j : List D} : deqs (a :: i) (b :: j) = (deq a b && deqs i j) := by simp [deqs]
theorem atI_nat {α : Type} (l : List α) (n : Nat) : atI l (n : Int) = l[n]? := by
  unfold atI ixN
  rw [if_pos (Int.natCast_nonneg n)]
  by_cases h : (n : Int) < (l.length : Int)
  · rw [if_pos h]; rfl
  · rw [if_neg h]; exact (List.getElem?_eq_none (by omega)).symm
@[simp] theorem atI_0 {α : Type} (l : List α) : atI l 0 = l[0]? := atI_nat l 0
@[simp] theorem atI_1 {α : Type} (l : List α) : atI l 1 = l[1]? := atI_nat l 1
@[simp] theorem atI_2 {α : Type} (l : List α) : atI l 2 = l[2]? := atI_nat l 2
@[simp] theorem atI_3 {α : Type} (l : List α) : atI l 3 = l[3]? := atI_nat l 3
@[simp] theorem atI_4 {α : Type} (l : List α) : atI l 4 = l[4]? := atI_nat l 4
@[simp] theorem atI_5 {α : Type} (l : List α) : atI l 5 = l[5]? := atI_nat l 5
@[simp] theorem atI_6 {α : Type} (l : List α) : atI l 6 = l[6]? := atI_nat l 6
@[simp] theorem atI_7 {α : Type} (l : List α) : atI l 7 = l[7]? := atI_nat l 7
@[simp] theorem atI_8 {α : Type} (l : List α) : atI l 8 = l[8]? := atI_nat l 8
@[simp] theorem atI_9 {α : Type} (l : List α) : atI l 9 = l[9]? := atI_nat l 9
@[simp] theorem atI_10 {α : Type} (l : List α) : atI l 10 = l[10]? := atI_nat l 10
@[simp] theorem atI_11 {α : Type} (l : List α) : atI l 11 = l[11]? := atI_nat l 11
@[simp] theorem atI_m1 {α : Type} (l : List α) : atI l (-1) = l[l.length - 1]? := by
  unfold atI ixN
  rw [if_neg (by decide)]
  by_cases h : -(l.length : Int) ≤ -1
  · rw [if_pos h]
    show l[((-1 : Int) + (l.length : Int)).toNat]? = _
    congr 1; omega
  · rw [if_neg h]; exact (List.getElem?_eq_none (by omega)).symm
theorem strOk_of (s : String) : PyData.strOk (Str.ofString s) = true := by
  rw [Str.ofString_eq_toList]
  unfold PyData.strOk
  rw [Array.all_eq_true_iff_forall_mem]
  intro x hx
  simp only [List.mem_toArray, List.mem_map] at hx
  obtain ⟨c, _, rfl⟩ := hx
  have h := c.valid
  refine decide_eq_true ?_
  rcases h with h | ⟨_, h⟩
  · exact Nat.lt_trans h (by decide)
  · exact h
@[simp] theorem strOk_num (i : Int) : PyData.strOk (numStr i) = true := strOk_of _
/-- a for by an invariant of what is left -/
theorem forD_ind {g : AH → Prop} {tg : DG} {body : DS} {DD : DEnds} (I : List D → DSt → AH → Prop) (hg : ∀ l δ A, I l δ A → g A) (h0 : ∀ δ A, I [] δ A → DD.nx δ A)
    (h1 : ∀ x l δ A (N : DSt → AH → Prop), (∀ δ A, I l δ A → N δ A) → I (x :: l) δ A → tg x δ A fun δ1 A1 => body { DD with nx := N, ct := N, bk := DD.nx } δ1 A1) : ∀ l δ A, I l δ A → forD g tg body DD l δ A
  | [], δ, A, h => ⟨hg _ _ _ h, h0 _ _ h⟩
  | x :: l, δ, A, h => ⟨hg _ _ _ h, h1 x l δ A _ (forD_ind I hg h0 h1 l) h⟩
@[simp] theorem divOk_lit {n : Int} (h1 : 0 < n) (h2 : n < 18446744073709551616) : DivOk n := ⟨by omega, Nat.lt_of_lt_of_le (show n.natAbs < 2 ^ 64 by omega) (Nat.pow_le_pow_right (by decide) (by decide))⟩
@[simp] theorem mulOk_lit {i j : Int} (h1 : 0 ≤ j) (h2 : j < 18446744073709551616) : DL.MulOk i j := .inr (.inl (show j.natAbs < 2 ^ 64 by omega))
theorem divOk_of {n : Int} {k : Nat} (h1 : n ≠ 0) (h2 : n.natAbs < 2 ^ k) (hk : k ≤ 9000) : DivOk n := ⟨h1, Nat.lt_of_lt_of_le h2 (Nat.pow_le_pow_right (by decide) hk)⟩
theorem mulOk_of {i j : Int} {a b : Nat} (h1 : i.natAbs < 2 ^ a) (h2 : j.natAbs < 2 ^ b) (hk : a + b ≤ 134217728) : DL.MulOk i j := .inr (.inr ⟨a, b, h1, h2, hk⟩)
section
variable {δ : DSt} {A : AH} {Q : DK} {D0 : DEnds} {R : List D → AH → Prop} {B : Bool → AH → Prop} {I : List D → (AH → Prop) → AH → Prop}
@[simp ↓] theorem bMin_eq {i j : Int} : bMin [.int i, .int j] A Q = Q (.int (if j < i then j else i)) A := rfl
@[simp ↓] theorem bLen_str {s : Str} : bLen [.str s] A Q = (Few s.length ∧ Q (.int s.length) A) := rfl
@[simp ↓] theorem bLen_tup {l : List D} : bLen [.tup l] A Q = Q (.int l.length) A := rfl
@[simp ↓] theorem bLen_lst {l : List D} : bLen [.lst l] A Q = Q (.int l.length) A := rfl
@[simp ↓] theorem bLen_rol {l : List D} : bLen [.rol l] A Q = Q (.int l.length) A := rfl
@[simp ↓] theorem iRng1_eq {t : DA} : iRng1 t δ A I = t δ A fun ds A1 => match ds with
  | [.int n] => Small n ∧ I (rngD 0 n.toNat) (fun _ => True) A1
  | _ => False := rfl
@[simp ↓] theorem iRng2_eq {t : DA} : iRng2 t δ A I = t δ A fun ds A1 => match ds with
  | [.int i, .int j] => (Small i ∧ Small j) ∧ I (rngD i (j - i).toNat) (fun _ => True) A1
  | _ => False := rfl
@[simp ↓] theorem iText_eq {t : DE} : iText t δ A I = t δ A fun d A1 => match d with
  | .str z => I (signsD z) (fun _ => True) A1
  | _ => False := rfl
@[simp ↓] theorem sRaise_eq {w : DW} {c : String} : sRaise w c D0 δ A = w c [] δ A := rfl
@[simp ↓] theorem sTryOnly_eq {w : DW} {sub : String → Option Bool} {b : DW → DS} {s : Addr → String → List (String × D) → DS} : sTryOnly w sub b s D0 δ A = b (fun c fs δ1 A1 => match sub c with
    | some true => ∀ a, s a c fs D0 δ1 A1
    | some false => w c fs δ1 A1
    | none => False) D0 δ A := rfl
@[simp ↓] theorem sTryAs_eq {w : DW} {sub : String → Option Bool} {i : Nat} {b : DW → DS} {s : Addr → String → List (String × D) → DS} : sTryAs w sub i b s D0 δ A = b (fun c fs δ1 A1 => match sub c with
    | some true => ∀ a, s a c fs (suiteEnds i D0) (δ1.set i (some (.ref a))) A1
    | some false => w c fs δ1 A1
    | none => False) D0 δ A := rfl
end
@[simp] theorem rngD_zero (lo : Int) : rngD lo 0 = [] := rfl
section
variable {A : AH}
@[simp] theorem ty_non : tyD A .non = some "NoneType" := rfl
@[simp] theorem ty_bl {b : Bool} : tyD A (.bl b) = some "bool" := rfl
@[simp] theorem ty_int {b : Int} : tyD A (.int b) = some "int" := rfl
@[simp] theorem ty_str {b : Str} : tyD A (.str b) = some "str" := rfl
@[simp] theorem ty_tup {b : List D} : tyD A (.tup b) = some "tuple" := rfl
@[simp] theorem ty_lst {b : List D} : tyD A (.lst b) = some "list" := rfl
@[simp] theorem ty_rol {b : List D} : tyD A (.rol b) = some "list" := rfl
@[simp] theorem ty_dic {k : List Key} {b : List D} : tyD A (.dic k b) = some "dict" := rfl
end
@[simp] theorem mulOk_lit2 {i j : Int} (h1 : 0 ≤ i) (h2 : i < 18446744073709551616) : DL.MulOk i j := .inl (show i.natAbs < 2 ^ 64 by omega)
end DL


/-! DL8: raise, except, isinstance of an exception; facts of one's own. -/
namespace DL
open PySem PySem.Spec PyProof.Rows L2
variable {K : PySem.W.Frag} {Z Z' Z0 : Hp} {X : Cx}
/-! ### raise C('..'), except C -/
theorem qs_raiseC {w : DW} {c : String} {m : Str} {j : Nat} {p p2 pos pos' : Pos} (fx : (He.Fa.exc (Str.ofString c)).ok X.K = true) (g : X.mg (Str.ofString c) = some (.ref (He.ga X.K (Str.ofString c)))) (hc : X.calm = true) (tk : Takes X (liftW X.K Z0 w)) (hg : Gl X (Str.ofString c))
    (hdb : (Str.ofString c == ("__debug__" : Str)) = false) : QS X Z0 (.Raise (some (.Call (.Name (Str.ofString c) p) [.Constant (.str m) j p2] [] pos')) none pos) (sRaise w c) := by
  obtain ⟨h1, h2, h3, h4⟩ := He.exc_ok fx
  exact qs_raise hc tk (pmk_own PySem.F.excBase_ValueError h1 g h2 (raises_own h3 h4) hg hdb)
/-! ### facts of one's own -/
abbrev Fx := PySem.W.Frag → Bool
def allX (l : List Fx) (K : PySem.W.Frag) : Bool := l.all fun f => f K
theorem allX_at {l : List Fx} (h : allX l K = true) (i : Nat) {f : Fx} (e : l[i]? = some f := by rfl) : f K = true := List.all_eq_true.mp h f (List.mem_of_getElem? e)
/-! ### isinstance(e, D) in a suite -/
section
variable {a : Addr} {oe : Obj} {cls : Value} {d : Option Addr} {pn : List (Addr × Obj)} {k : String} {Z1 : Hp} {e e2 : Expr} {te : DE} {p pos : Pos}
/-- the table tells what isinstance says: rows by the exception's class -/
def eIsE (a : Addr) (k : String) (fs : List (String × D)) (tb : List (String × Bool)) (t : DE) : DE := fun δ A Q => t δ A fun d A1 => d = .ref a ∧ fs = [] ∧ (match lookS k tb with
  | some b => Q (.bl b) A1
  | none => False)
end
end DL


/-! DL9: chains of three. -/
namespace DL
open PySem PySem.Spec PyProof.Rows L2
variable {K : PySem.W.Frag} {Z Z' Z0 : Hp} {X : Cx}
section
variable {a b c e : Expr} {ta tb tc td : TE} {pos : Pos}
end
section
variable {a b c e : Expr} {ta tb tc td : DE} {pos : Pos}
def eChain3 (rd rd' rd'' : DOp) (ta tb tc td : DE) : DE := fun δ A Q => ta δ A fun x A1 => tb δ A1 fun y A2 => rd x y A2 fun z A3 => match z with
  | .bl k => (k = true → tc δ A3 fun w A4 => rd' y w A4 fun z A5 => match z with
    | .bl k => (k = true → td δ A5 fun v A6 => rd'' w v A6 Q) ∧ (k = false → Q (.bl false) A5)
    | _ => False) ∧ (k = false → Q (.bl false) A3)
  | _ => False
end
section
variable {δ : DSt} {A : AH} {Q : DK}
@[simp ↓] theorem eChain3_eq {rd rd' rd'' : DOp} {ta tb tc td : DE} : eChain3 rd rd' rd'' ta tb tc td δ A Q = ta δ A fun x A1 => tb δ A1 fun y A2 => rd x y A2 fun z A3 => match z with
  | .bl k => (k = true → tc δ A3 fun w A4 => rd' y w A4 fun z A5 => match z with
    | .bl k => (k = true → td δ A5 fun v A6 => rd'' w v A6 Q) ∧ (k = false → Q (.bl false) A5)
    | _ => False) ∧ (k = false → Q (.bl false) A3)
  | _ => False := rfl
@[simp ↓] theorem eIsE_eq {a : Addr} {k : String} {fs : List (String × D)} {tb : List (String × Bool)} {t : DE} : eIsE a k fs tb t δ A Q = t δ A fun d A1 => d = .ref a ∧ fs = [] ∧ (match lookS k tb with
  | some b => Q (.bl b) A1
  | none => False) := rfl
end
end DL


/-! DLA: the module's texts; more of in, subscripts. -/
namespace DL
open PySem PySem.Spec PyProof.Rows L2
variable {K : PySem.W.Frag} {Z Z' Z0 : Hp} {X : Cx}
theorem qe_gstr {x z : Str} {pos : Pos} (h : ∃ t, X.mg x = some (.str z t)) (hg : Gl X x) (hd : (x == ("__debug__" : Str)) = false := by decide) : QE X Z0 (.Name x pos) (eC (.str z)) := by
  obtain ⟨t, h⟩ := h
  refine PE.imp (pe_glob (v := .str z) hg h ⟨t, rfl⟩ hd) fun σ H Q ⟨Z, δ, A, Kt, zz, rs, ra, q, k⟩ => k Z _ A _ H (Same.refl Z) ra mk_str q
section
variable {δ : DSt} {A : AH} {Q : DK}
@[simp ↓] theorem opIn_sign {b : Bool} {c : Nat} {z : Str} : opIn b (.str ⟨#[c]⟩) (.str z) A Q = Q (.bl (xor b (decide (c ∈ z.cps.toList)))) A := by
  simp [opIn, asDic]
@[simp ↓] theorem opIx_str {z : Str} {i : Int} : opIx (.str z) (.int i) A Q = (Few z.length ∧ (match atI z.cps.toList i with
      | some c => Q (.str ⟨#[c]⟩) A
      | none => False)) := rfl
end
end DL


/-! DLB: objects: fields set, classes called, methods, isinstance. -/
namespace DL
open PySem PySem.Spec PyProof.Rows L2
variable {K : PySem.W.Frag} {Z Z' Z0 : Hp} {X : Cx}
/-! ### frozen -/
def eFz (t : DE) : DE := fun δ A Q => t δ A fun d A1 => match d with
  | .ref a => (match A1 a with
    | some (.lst l) => Q (.lst l) (A1.del a)
    | some (.obj c fs) => Q (.obj c (fs.map (·.1)) (fs.map (·.2))) (A1.del a)
    | some (.dic kvs) => Q (.dic (kvs.map (·.1)) (kvs.map (·.2))) (A1.del a)
    | _ => False)
  | d => Q d A1
theorem fz_ok {A : AH} {H : Hp} {a : Addr} {o : AO} (R : RA K Z A H) (h : A a = some o) : ∃ Z2, Same Z Z2 ∧ RA K Z2 (A.del a) H ∧ (match o with
    | .lst l => RV K Z2 (.lst l) (.ref a)
    | .obj c fs => RV K Z2 (.obj c (fs.map (·.1)) (fs.map (·.2))) (.ref a)
    | .dic kvs => RV K Z2 (.dic (kvs.map (·.1)) (kvs.map (·.2))) (.ref a)
    | .tk _ _ => True) := by
  have q := (R.at_ a o h).2
  cases o with
  | lst l =>
    obtain ⟨vs, e1, e2⟩ := q
    obtain ⟨s, r⟩ := R.freeze h e1
    refine ⟨_, s, r, ?_⟩
    show RV K _ (.lst l) (.ref a)
    rw [RV]; exact ⟨a, vs, rfl, upd_same .., e2.mono s⟩
  | obj c fs =>
    obtain ⟨dx, us, e1, e2, e3⟩ := q
    obtain ⟨s, r⟩ := R.freeze h e1
    refine ⟨_, s, r, ?_⟩
    show RV K _ (.obj c (fs.map (·.1)) (fs.map (·.2))) (.ref a)
    rw [RV]; exact ⟨a, dx, us, rfl, upd_same .., by rw [e2, List.map_map]; rfl, e3.mono s⟩
  | dic kvs =>
    obtain ⟨us, e1, e2, e3⟩ := q
    obtain ⟨s, r⟩ := R.freeze h e1
    refine ⟨_, s, r, ?_⟩
    show RV K _ (.dic (kvs.map (·.1)) (kvs.map (·.2))) (.ref a)
    rw [RV]; exact ⟨a, us, rfl, upd_same .., e2, e3.mono s⟩
  | tk hf kvs =>
    obtain ⟨us, e1, _⟩ := q
    obtain ⟨s, r⟩ := R.freeze h e1
    exact ⟨_, s, r, trivial⟩
theorem qe_fz {e : Expr} {t : DE} (h : QE X Z0 e t) : QE X Z0 e (eFz t) := PE.imp h fun σ H Q ⟨Z, δ, A, Kt, z, rs, ra, t, k⟩ =>
  ⟨Z, δ, A, _, z, rs, ra, t, fun Z1 d A1 v H1 s1 ra1 rv t1 => by
    cases d with
    | ref a =>
      have t1' : (match A1 a with
        | some (.lst l) => Kt (.lst l) (A1.del a)
        | some (.obj c fs) => Kt (.obj c (fs.map (·.1)) (fs.map (·.2))) (A1.del a)
        | some (.dic kvs) => Kt (.dic (kvs.map (·.1)) (kvs.map (·.2))) (A1.del a)
        | _ => False) := t1
      have ev := rv_ref rv
      subst ev
      cases ho : A1 a with
      | none => rw [ho] at t1'; exact t1'.elim
      | some o =>
        rw [ho] at t1'
        obtain ⟨Z2, s2, r2, q⟩ := fz_ok ra1 ho
        cases o with
        | lst l => exact k Z2 _ _ _ H1 (s1.trans s2) r2 q t1'
        | obj c fs => exact k Z2 _ _ _ H1 (s1.trans s2) r2 q t1'
        | dic kvs => exact k Z2 _ _ _ H1 (s1.trans s2) r2 q t1'
        | tk hf kvs => exact t1'.elim
    | _ => exact k Z1 _ A1 _ H1 s1 ra1 rv t1⟩
/-! ### fields set -/
def putD (f : String) (d : D) : List (String × D) → List (String × D)
  | [] => [(f, d)]
  | (g, x) :: r => if g = f then (g, d) :: r else (g, x) :: putD f d r
theorem put_ok {f : String} {d : D} {v : V} (r : RV K Z d v) : ∀ {fs : List (String × D)} {us : List (Str × V)}, us.map (·.1) = fs.map (fun p => Str.ofString p.1) → RVs K Z (fs.map (·.2)) (us.map (·.2)) →
    (putF (Str.ofString f) v us).map (·.1) = (putD f d fs).map (fun p => Str.ofString p.1) ∧ RVs K Z ((putD f d fs).map (·.2)) ((putF (Str.ofString f) v us).map (·.2))
  | [], us, e, _ => by
    have : us = [] := by simpa using e
    subst this
    exact ⟨rfl, .cons r .nil⟩
  | (g, x) :: fs, [], e, _ => by simp at e
  | (g, x) :: fs, (g2, y) :: us, e, q => by
    simp only [List.map_cons, List.cons.injEq] at e
    obtain ⟨e1, e2⟩ := e
    obtain ⟨v2, u2, e3, r1, r2⟩ := q.inv
    simp only [List.map_cons, List.cons.injEq] at e3
    obtain ⟨e4, e5⟩ := e3
    subst e4
    rw [← e5] at r2
    obtain ⟨i1, i2⟩ := put_ok (f := f) r e2 r2
    unfold putF putD
    by_cases hg : g = f
    · subst hg
      rw [if_pos rfl, if_pos e1]
      exact ⟨by simp [e1, e2], .cons r r2⟩
    · rw [if_neg hg, if_neg (fun z => hg (ofString_inj (e1.symm.trans z)))]
      exact ⟨by simp [e1, i1], .cons r1 i2⟩
def sFldSet (cs : List String) (f : String) (to te : DE) : DS := fun D δ A => te δ A fun d A1 => to δ A1 fun x A2 => match x with
  | .ref a => (match A2 a with
    | some (.obj c fs) => (c ∈ cs ∧ fs.length < 1000) ∧ D.nx δ (A2.put a (.obj c (putD f d fs)))
    | _ => False)
  | _ => False
theorem qs_fld {cs : List String} {f : String} {o value : Expr} {to te : DE} {pos pos' : Pos} (hf : ∀ c ∈ cs, FldOk X.K c f) (ho : QE X Z0 o to) (hv : QE X Z0 value te) (hs : swapsWith value (some (.Attribute o (Str.ofString f) pos')) pos.line X.env = pure false) :
    QS X Z0 (.Assign [.Attribute o (Str.ofString f) pos'] value pos) (sFldSet cs f to te) := PS.imp (ps_fld ho hv hs) fun D σ H ⟨Z, δ, A, DD, z, rs, ra, t, re⟩ =>
  ⟨Z, δ, A, _, z, rs, ra, t, fun Z1 d A1 v H1 s1 ra1 rv t1 => ⟨Z1, δ, A1, _, z.trans s1, rs.mono s1, ra1, t1, fun Z2 x A2 v2 H2 s2 ra2 rv2 t2 => by
    cases x with
    | ref a =>
      have t2' : (match A2 a with
        | some (.obj c fs) => (c ∈ cs ∧ fs.length < 1000) ∧ DD.nx δ (A2.put a (.obj c (putD f d fs)))
        | _ => False) := t2
      split at t2'
      · rename_i c fs q
        obtain ⟨⟨h1, h2⟩, h3⟩ := t2'
        obtain ⟨dx, us, e1, e2, e3⟩ := (ra2.at_ a _ q).2
        obtain ⟨p1, p2⟩ := put_ok (f := f) (rv.mono s2) e2 e3
        refine ⟨a, _, dx, us, rv_ref rv2, e1, (hf c h1).cls, (hf c h1).no, by have := congrArg List.length e2; simp at this; omega, ?_⟩
        exact re.nx Z2 δ (A2.put a (.obj c (putD f d fs))) σ _ (s1.trans s2) ((rs.mono s1).mono s2) (ra2.write (u := .obj c (putD f d fs)) q ⟨dx, _, upd_same .., p1, p2⟩) h3
      · exact t2'.elim
    | _ => exact t2.elim⟩⟩
/-! ### a class called -/
section
variable {P : Program} {w : World} {mg : Str → Option Value} {base : Heap} {k j : Nat}
structure DMake (P : Program) (w : World) (K : PySem.W.Frag) (mg : Str → Option Value) (base : Heap) (k : Nat) (c : String) (sp : DSp) : Prop where
  ex : ∃ (f : Addr) (fd : FuncData) (ps : List Str), L2.Mk K (He.ga K (Str.ofString c)) f ∧ FnOk P w K mg base (CX P w) k f fd ps (liftSp K sp) ∧ mg (Str.ofString c) = some (.ref (He.ga K (Str.ofString c))) ∧ Binds K fd ps []
theorem run_makeSD {CX : CXT} {C f : Addr} {fd : FuncData} {ps : List Str} {sp : Sp} {E : L2.St → XK} {pins : List (Addr × Obj)} {σ : L2.St} {H : Hp} {s : Shared} {Q : VK} {us : List Value} {vs : List V} (M : L2.Mk X.K C f) (F : FnOk X.prog X.w X.K X.mg X.base CX k f fd ps sp) (hr : Room (k + 1) X.A) (hb : Binds X.K fd ps [])
    (hx : PassesAt CX X σ (E σ)) (I : Inv X pins σ H s) (r : Vals vs us)
    (h : ∀ x dx, H x = none → H dx = none → dx ≠ x → sp (.ref x :: vs) (upd (upd H dx (.own x)) x (.ins C dx [])) (fun v H2 => v = .non ∧ Q (.ref x) H2) (E σ)) :
    wpAny (model X.prog X.w) X.A (call (.ref C) us) (EP X pins σ Q) X.xe s := by
  have hq := h (s.heap.objs.size + 1) s.heap.objs.size (I.hok.fresh (Nat.le_succ _)) (I.hok.fresh (Nat.le_refl _)) (Nat.ne_of_lt (Nat.lt_succ_self _))
  have I2 := Inv.made (C := C) I
  have r2 : Vals (V.ref (s.heap.objs.size + 1) :: vs) (Value.ref (s.heap.objs.size + 1) :: us) := .cons rfl r
  have hl : (Value.ref (s.heap.objs.size + 1) :: us ++ []).length = ps.length := by
    have e := r2.length
    rw [F.len _ _ _ _ hq] at e
    rw [List.append_nil]
    exact e.symm
  have hb2 := hb _ (Value.ref (s.heap.objs.size + 1) :: us) I2.kIn hl
  rw [List.append_nil] at hb2
  refine wpAny_call (make_map (f := f) I.kIn M.makes M.init (beq_iff_eq.mp M.fn) (codeAny_mono (F.run _ X.stack _ _ ⟨Value.ref (s.heap.objs.size + 1) :: us, []⟩ (Value.ref (s.heap.objs.size + 1) :: us) _ _ (E σ) (hr.make C us [])
    (I2.env0.make C us []) hb2 r2 hq) fun r s' hq' => ?_))
  cases r with
  | error e => exact hx pins _ _ e s' I2 hq'
  | ok fl =>
    cases fl with
    | ret u =>
      obtain ⟨v, H', I3, rv, ev, q3⟩ := I2.after hq'
      subst ev
      exact ⟨rv, ⟨V.ref (s.heap.objs.size + 1), H', I3, rfl, q3⟩⟩
    | next => exact False.elim hq'
    | brk => exact False.elim hq'
    | cont => exact False.elim hq'
/-- C(..): a new object; sp: what __init__ does -/
def eMk (w : DW) (c : String) (sp : DSp) (t : DA) : DE := fun δ A Q => t δ A fun ds A1 => ∀ x, A1 x = none → sp (.ref x :: ds) (A1.put x (.obj c [])) (fun d A2 => d = .non ∧ Q (.ref x) A2) fun k fs A2 => w k fs δ A2
def rMk (K : PySem.W.Frag) (C : Addr) (sp : Sp) (E : L2.St → XK) (t : TA) : TE := fun σ H Q => t σ H fun vs H1 => ∀ x dx, H1 x = none → H1 dx = none → dx ≠ x → sp (.ref x :: vs) (upd (upd H1 dx (.own x)) x (.ins C dx [])) (fun v H2 => v = .non ∧ Q (.ref x) H2) (E σ)
theorem lift_mk {w : DW} {c : String} {sp : DSp} {t : DA} {σ : L2.St} {H : Hp} {Q : VK} (h : liftE K Z0 (eMk w c sp t) σ H Q) : rMk K (He.ga K (Str.ofString c)) (liftSp K sp) (WE (liftW K Z0 w)) (liftA K Z0 t) σ H Q := by
  obtain ⟨Z, δ, A, Kt, z, rs, ra, t, k⟩ := h
  refine ⟨Z, δ, A, _, z, rs, ra, t, fun Z1 ds A1 vs H1 s1 ra1 rv t1 x dx hx hdx hne => ?_⟩
  have g1 : RA K Z1 A1 (upd H1 dx (.own x)) := ra1.grow fun a o e => by rw [upd_ne (ne_of_none e hdx)]; exact e
  have hx2 : (upd H1 dx (.own x)) x = none := by rw [upd_ne (fun e => hne e.symm)]; exact hx
  have g2 := g1.newO (o := .ins (He.ga K (Str.ofString c)) dx []) (u := .obj c []) hx2 ⟨dx, [], upd_same .., rfl, .nil⟩
  refine ⟨Z1, .ref x :: ds, _, _, _, .cons mk_ref rv, g2, t1 x (ra1.fresh hx).1, fun Z2 d A2 v H2 s2 ra2 rv2 ⟨e, q⟩ => ?_, fun Z2 c fs A2 cv dd H2 s2 ra2 rx q => ⟨Z2, δ, A2, c, fs, (z.trans s1).trans s2, (rs.mono s1).mono s2, ra2, rx, q⟩⟩
  subst e
  exact ⟨rv_non rv2, k Z2 (.ref x) A2 _ H2 (s1.trans s2) ra2 mk_ref q⟩
theorem qe_mk {w : DW} {c : String} {sp : DSp} {t : DA} {e : Expr} {es : List Expr} {p pos : Pos} (F : DMake X.prog X.w X.K X.mg X.base k c sp) (hr : Room j X.A) (hk : k + 1 ≤ j) (hg : Gl X (Str.ofString c)) (tk : Takes X (liftW X.K Z0 w)) (ha : QA X Z0 (e :: es) t) (hdb : (Str.ofString c == ("__debug__" : Str)) = false)
    (he : starEach (e :: es) X.env = (false, eval e X.env) :: starEach es X.env := by rfl) (hpl : (backTo pos (starEach es X.env)).any (·.1) = false := by rfl) : QE X Z0 (.Call (.Name (Str.ofString c) p) (e :: es) [] pos) (eMk w c sp t) := by
  obtain ⟨f, fd, ps, M, F, hm, b⟩ := F.ex
  refine PE.imp (t := rMk X.K (He.ga X.K (Str.ofString c)) (liftSp X.K sp) (WE (liftW X.K Z0 w)) (liftA X.K Z0 t)) ⟨fun pins s σ H Q I h => ?_⟩ fun σ H Q h => lift_mk h
  refine wpAny_Call_Name_kw (ld_glob I hg hm ?_ hdb)
  refine PySem.W.callWith_K (h₀ := X.base) I.ok.mod.kin M.kp (thn (ha.run pos pins s σ H _ I h) fun us s1 ⟨vs, H1, I1, r, q⟩ => ⟨I1.kIn, ?_⟩) he hpl
  exact run_makeSD M F (hr.mono hk) b (passAt tk σ) I1 r q
/-! ### methods -/
structure DMeth (P : Program) (w : World) (K : PySem.W.Frag) (mg : Str → Option Value) (base : Heap) (k : Nat) (c m : String) (sp : DSp) : Prop where
  ex : ∃ (f : Addr) (fd : FuncData) (ps : List Str), Cls K (He.ga K (Str.ofString c)) ∧ Meth K (He.ga K (Str.ofString c)) (Str.ofString m) f ∧ FnOk P w K mg base (CX P w) k f fd ps (liftSp K sp) ∧ Binds K fd ps []
def eMth (w : DW) (m : String) (tb : List (String × DSp)) (to : DE) (t : DA) : DE := fun δ A Q => to δ A fun d A1 => match asObj A1 d with
  | some (c, fs) => lookS m fs = none ∧ (match lookS c tb with
    | some sp => t δ A1 fun ds A2 => sp (d :: ds) A2 Q fun k gs A3 => w k gs δ A3
    | none => False)
  | none => False
theorem lookM {c : String} {sp : DSp} : ∀ {l : List (String × DSp)}, l.lookup c = some sp → (c, sp) ∈ l
  | [], h => by cases h
  | (a, b) :: l, h => by
    rw [List.lookup_cons] at h
    split at h
    · rename_i e
      have e2 := beq_iff_eq.mp e
      subst e2; cases h; exact List.mem_cons_self
    · exact List.mem_cons_of_mem _ (lookM h)
theorem qe_mth0 {w : DW} {m : String} {tb : List (String × DSp)} {to : DE} {o : Expr} {apos pos : Pos} {pl : Sem Bool} (F : ∀ p ∈ tb, DMeth X.prog X.w X.K X.mg X.base k p.1 m p.2) (hr : Room j X.A) (hk : k ≤ j) (tk : Takes X (liftW X.K Z0 w)) (ho : QE X Z0 o to)
    (ht : eval (.Call (.Attribute o (Str.ofString m) apos) [] [] pos) X.env = (do
      let ov ← eval o X.env
      standAt apos.atName
      let (f, first) ← holding [ov] (getMethod ov (Str.ofString m) pl)
      callWith pos f first (backTo pos (starEach [] X.env)) (backToKw pos (keywordEach [] X.env))) := by rfl) :
    QE X Z0 (.Call (.Attribute o (Str.ofString m) apos) [] [] pos) (eMth w m tb to aNil) := by
  refine ⟨fun pins s σ H Q I h => ?_⟩
  obtain ⟨Z, δ, A, Kt, z, rs, ra, h, kk⟩ := h
  refine PySem.W.methodCall_KW (pl := pl) (thn (ho.run pins s σ H (fun v H1 => ∃ Z1 d A1, Same Z Z1 ∧ RA X.K Z1 A1 H1 ∧ RV X.K Z1 d v ∧ (match asObj A1 d with
    | some (c, fs) => lookS m fs = none ∧ (match lookS c tb with
      | some sp => sp [d] A1 Kt fun k gs A3 => w k gs δ A3
      | none => False)
    | none => False)) I ⟨Z, δ, A, _, z, rs, ra, h, fun Z1 d A1 v H1 s1 ra1 rv t1 => ⟨Z1, d, A1, s1, ra1, rv, t1⟩⟩) fun u s1 ⟨v, H1, I1, rx, Z1, d, A1, s1', ra1, rv, t1⟩ => ?_) ht
  split at t1
  · rename_i c fs q
    obtain ⟨hl, t1⟩ := t1
    rw [lookS_eq] at hl t1
    split at t1
    · rename_i sp hsp
      obtain ⟨f, fd, ps, c1, m1, F1, b1⟩ := (F _ (lookM hsp)).ex
      obtain ⟨p, dx, us, e1, e2, e3, e4⟩ := asObj_ok ra1 rv q
      subst e1
      obtain rfl : u = Value.ref p := rx
      have hl2 : us.lookup (Str.ofString m) = none := by
        rcases look_ok (f := m) e3 e4 with ⟨_, h2⟩ | ⟨d2, _, h1, _, _⟩
        · exact h2
        · rw [hl] at h1; cases h1
      refine getmeth_ok I1 e2 c1 m1 hl2 ?_
      have h3 : liftSp X.K sp ([.ref p] ++ []) H1 Q (WE (liftW X.K Z0 w) σ) :=
        ⟨Z1, [d], A1, Kt, _, .cons rv .nil, ra1, t1, Kont.mono kk s1', fun Z3 c fs A3 cv dd H3 s3 ra3 rx q => ⟨Z3, δ, A3, c, fs, (z.trans s1').trans s3, (rs.mono s1').mono s3, ra3, rx, q⟩⟩
      exact PySem.W.callWith_K0 (first := [.ref p]) I1.kIn m1.kp (run_fnSD (us := [.ref p]) (vs := [.ref p]) (ds := []) (dvs := []) F1 (hr.mono hk) b1 .nil (passAt tk σ) I1 (.cons rfl .nil) h3)
    · exact t1.elim
  · exact t1.elim
end
end DL


/-! DLC: a base's __init__, isinstance of an object, lists' and texts' methods, comprehensions. -/
namespace DL
open PySem PySem.Spec PyProof.Rows L2
variable {K : PySem.W.Frag} {Z Z' Z0 : Hp} {X : Cx}
/-! ### C.m(self, ..) -/
def fxCM (c m : String) : Fx := fun K => PySem.W.readsIn K (He.ga K (Str.ofString c)) (.type "type") && (He.eqO (PySem.W.specialIn K (.ref (He.ga K (Str.ofString c))) "__getattribute__") (some (some (.builtin "type.__getattribute__"))) &&
  (match PySem.W.findCls K (.ref (He.ga K (Str.ofString c))) (.type "type") (Str.ofString m) with
    | some (.val (.ref a)) => decide (a = He.ma K (He.ga K (Str.ofString c)) (Str.ofString m)) && PySem.W.keepIn K (.ref a)
    | _ => false))
theorem fxCM_ok {c m : String} (h : fxCM c m K = true) : ClX.CRead K (He.ga K (Str.ofString c)) (.type "type") ∧
    ClX.CVal K (He.ga K (Str.ofString c)) (.type "type") (Str.ofString m) (.ref (He.ma K (He.ga K (Str.ofString c)) (Str.ofString m))) (.ref (He.ma K (He.ga K (Str.ofString c)) (Str.ofString m))) ∧
    PySem.W.keepIn K (.ref (He.ma K (He.ga K (Str.ofString c)) (Str.ofString m))) = true := by
  obtain ⟨h1, h⟩ := He.ba h
  obtain ⟨h2, h3⟩ := He.ba h
  split at h3
  · rename_i a q
    obtain ⟨h4, h5⟩ := He.ba h3
    have e := of_decide_eq_true h4
    subst e
    exact ⟨⟨h1, He.eqO_ok h2⟩, ⟨q, rfl⟩, h5⟩
  · cases h3
/-- two classes have one def m -/
def fxSame (c d m : String) : Fx := fun K => decide (He.ma K (He.ga K (Str.ofString c)) (Str.ofString m) = He.ma K (He.ga K (Str.ofString d)) (Str.ofString m))
section
variable {P : Program} {w : World} {mg : Str → Option Value} {base : Heap} {k j : Nat}
structure DCls (P : Program) (w : World) (K : PySem.W.Frag) (mg : Str → Option Value) (base : Heap) (k : Nat) (c m : String) (sp : DSp) : Prop where
  ex : ∃ (f : Addr) (fd : FuncData) (ps : List Str), ClX.CRead K (He.ga K (Str.ofString c)) (.type "type") ∧ ClX.CVal K (He.ga K (Str.ofString c)) (.type "type") (Str.ofString m) (.ref f) (.ref f) ∧ PySem.W.keepIn K (.ref f) = true ∧
    mg (Str.ofString c) = some (.ref (He.ga K (Str.ofString c))) ∧ FnOk P w K mg base (CX P w) k f fd ps (liftSp K sp) ∧ Binds K fd ps []
theorem qe_cls {w : DW} {c m : String} {sp : DSp} {t : DA} {e : Expr} {es : List Expr} {p apos pos : Pos} {pl : Sem Bool} (F : DCls X.prog X.w X.K X.mg X.base k c m sp) (hr : Room j X.A) (hk : k ≤ j) (hg : Gl X (Str.ofString c)) (tk : Takes X (liftW X.K Z0 w)) (ha : QA X Z0 (e :: es) t) (hdb : (Str.ofString c == ("__debug__" : Str)) = false)
    (hst : starEach (e :: es) X.env = (false, eval e X.env) :: starEach es X.env := by rfl) (hpl : (backTo pos (starEach es X.env)).any (·.1) = false := by rfl)
    (ht : eval (.Call (.Attribute (.Name (Str.ofString c) p) (Str.ofString m) apos) (e :: es) [] pos) X.env = (do
      let ov ← eval (.Name (Str.ofString c) p) X.env
      standAt apos.atName
      let (f, first) ← holding [ov] (getMethod ov (Str.ofString m) pl)
      callWith pos f first (backTo pos (starEach (e :: es) X.env)) (backToKw pos (keywordEach [] X.env))) := by rfl) :
    QE X Z0 (.Call (.Attribute (.Name (Str.ofString c) p) (Str.ofString m) apos) (e :: es) [] pos) (eCall w sp [] t) := by
  obtain ⟨f, fd, ps, r1, v1, kp, hm, F1, b1⟩ := F.ex
  refine PE.imp (t := tCallSD (liftSp X.K sp) [] (WE (liftW X.K Z0 w)) (liftA X.K Z0 t)) ⟨fun pins s σ H Q I h => ?_⟩ fun σ H Q h => lift_call (fun _ => .nil) h
  refine PySem.W.methodCall_KW (pl := pl) (ld_glob I hg hm ?_ hdb) ht
  refine PySem.W.method_cls I.kIn r1.ga (ClX.getcval_ok I r1 v1 fun s' I' => ?_)
  refine PySem.W.callWith_K (h₀ := X.base) I'.ok.mod.kin kp (thn (ha.run pos pins s' σ H _ I' h) fun us s1 ⟨vs, H1, I1, r, q⟩ => ⟨I1.kIn, ?_⟩) hst hpl
  exact run_fnSD F1 (hr.mono hk) b1 .nil (passAt tk σ) I1 r q
end
/-! ### isinstance of an object -/
def eIsiC (tb : List (String × Bool)) (t : DE) : DE := fun δ A Q => t δ A fun d A1 => match asObj A1 d with
  | some (c, _) => (match lookS c tb with
    | some b => Q (.bl b) A1
    | none => False)
  | none => False
/-! ### built-in methods -/
abbrev DMt := D → List D → AH → DK → Prop
def LiftMt (K : PySem.W.Frag) (T : String) (rd : DMt) (r : V → List V → Hp → VK → Prop) : Prop := ∀ (Z : Hp) (A : AH) (H : Hp) (d : D) (v : V) (ds : List D) (vs : List V) (Kt : DK) (Q : VK), RA K Z A H → RV K Z d v → RVs K Z ds vs → rd d ds A Kt → Kont K Z Kt Q → r v vs H Q
def tyM (A : AH) (d : D) (T : String) : Prop := match d with
  | .str _ => T = "str"
  | .ref a => (match A a with
    | some (.lst _) => T = "list"
    | some (.dic _) => T = "dict"
    | _ => False)
  | .lst _ => T = "list"
  | .rol _ => T = "list"
  | .dic _ _ => T = "dict"
  | _ => False
theorem tyM_ok {A : AH} {H : Hp} {d : D} {v : V} {T : String} (R : RA K Z A H) (r : RV K Z d v) (h : tyM A d T) : tyV K T v H := by
  cases d with
  | str x => rw [rv_str r]; exact h
  | ref a =>
    rw [rv_ref r]
    have h' : (match A a with | some (.lst _) => T = "list" | some (.dic _) => T = "dict" | _ => False) := h
    split at h'
    · rename_i q; subst h'; obtain ⟨vs, e, _⟩ := (R.at_ a _ q).2; exact .inl ⟨rfl, _, SqL.of e⟩
    · rename_i q; subst h'; obtain ⟨vs, e, _⟩ := (R.at_ a _ q).2; exact .inr (.inr (.inl ⟨rfl, .inl ⟨_, e⟩⟩))
    · exact h'.elim
  | lst l =>
    have h' : T = "list" := h
    subst h'
    obtain ⟨p, vs, e, e2, _⟩ := rv_lst r; rw [e]; exact .inl ⟨rfl, _, SqL.of (R.sub _ _ e2)⟩
  | rol l =>
    have h' : T = "list" := h
    subst h'
    obtain ⟨p, vs, e, e2, _⟩ := rv_rol r; rw [e]; exact .inl ⟨rfl, _, sqL_mono R.sub e2⟩
  | dic ks l =>
    have h' : T = "dict" := h
    subst h'
    obtain ⟨p, vs, e, e2, _⟩ := rv_dic r; rw [e]; exact .inr (.inr (.inl ⟨rfl, .inl ⟨_, R.sub _ _ e2⟩⟩))
  | _ => exact h.elim
def eMt (T : String) (rd : DMt) (to : DE) (t : DA) : DE := fun δ A Q => to δ A fun d A1 => tyM A1 d T ∧ t δ A1 fun ds A2 => rd d ds A2 Q
section
variable {o e : Expr} {es : List Expr} {to : DE} {t : DA} {name : Str} {apos cpos : Pos} {T id : String} {r : V → List V → Hp → VK → Prop} {rd : DMt}
theorem qe_bm (l : LiftMt X.K T rd r) (pa : PlainAttrs T) (slot : Slot T name id) (hty : typeOf (.builtin id) = pure (.type "method_descriptor")) (hm : MtR X id r) (ho : QE X Z0 o to) (ha : QA X Z0 (e :: es) t)
    (hbase : attributeBase o name X.env (eval o X.env) = eval o X.env := by rfl)
    (hfew : ((backTo cpos (starEach (e :: es) X.env)).all (fun x => !x.1) && (backToKw cpos (keywordEach [] X.env)).all (fun x => x.1.isSome)
      && decide ((e :: es).length + ([] : List Keyword).length + (if ([] : List Keyword).isEmpty then 0 else 1) < 30)) = true := by rfl)
    (hline : (apos.endLine == cpos.line) = true := by rfl) (hs : starEach (e :: es) X.env = (false, eval e X.env) :: starEach es X.env := by rfl) (hplain : (backTo cpos (starEach es X.env)).any (·.1) = false := by rfl) :
    QE X Z0 (.Call (.Attribute o name apos) (e :: es) [] cpos) (eMt T rd to t) := PE.imp (pe_bm pa slot hty hm ho ha hbase hfew hline hs hplain) fun σ H Q ⟨Z, δ, A, Kt, z, rs, ra, t, k⟩ =>
  ⟨Z, δ, A, _, z, rs, ra, t, fun Z1 d A1 v H1 s1 ra1 rv t1 => ⟨tyM_ok ra1 rv t1.1, Z1, δ, A1, _, z.trans s1, rs.mono s1, ra1, t1.2, fun Z2 ds A2 vs H2 s2 ra2 rvs t2 =>
    l Z2 A2 H2 d v ds vs Kt Q ra2 (rv.mono s2) rvs t2 (Kont.mono k (s1.trans s2))⟩⟩
theorem qe_bm0 (l : LiftMt X.K T rd r) (pa : PlainAttrs T) (slot : Slot T name id) (hty : typeOf (.builtin id) = pure (.type "method_descriptor")) (hm : MtR X id r) (ho : QE X Z0 o to)
    (hbase : attributeBase o name X.env (eval o X.env) = eval o X.env := by rfl) (hline : (apos.endLine == cpos.line) = true := by rfl) : QE X Z0 (.Call (.Attribute o name apos) [] [] cpos) (eMt T rd to aNil) := PE.imp (pe_bm0 pa slot hty hm ho hbase hline) fun σ H Q ⟨Z, δ, A, Kt, z, rs, ra, t, k⟩ =>
  ⟨Z, δ, A, _, z, rs, ra, t, fun Z1 d A1 v H1 s1 ra1 rv t1 => ⟨tyM_ok ra1 rv t1.1, l Z1 A1 H1 d v [] [] Kt Q ra1 rv .nil t1.2 (Kont.mono k s1)⟩⟩
end
theorem lst_write {A : AH} {H : Hp} {a : Addr} {l l' : List D} {vs' : List V} (R : RA K Z A H) (h : A a = some (.lst l)) (r : RVs K Z l' vs') : RA K Z (A.put a (.lst l')) (upd H a (.lst vs')) :=
  R.write (u := .lst l') h ⟨vs', upd_same .., r⟩
def mApp : DMt := fun d ds A Q => match d, ds with
  | .ref a, [y] => (match A a with
    | some (.lst l) => Few l.length ∧ Q .non (A.put a (.lst (l ++ [y])))
    | _ => False)
  | _, _ => False
theorem lift_app : LiftMt K "list" mApp rAppend := fun Z A H d v ds vs Kt Q R r rs h k => by
  unfold mApp at h
  split at h
  · rename_i a y
    split at h
    · rename_i l q
      obtain ⟨u, rfl, ru⟩ := rs.one
      obtain ⟨us, e1, e2⟩ := (R.at_ a _ q).2
      exact ⟨a, us, u, rv_ref r, rfl, e1, by rw [e2.len]; exact Nat.lt_of_lt_of_le h.1 big_line, k Z _ _ _ _ (Same.refl Z) (lst_write R q (e2.append (.cons ru .nil))) mk_non h.2⟩
    · exact h.elim
  · exact h.elim
def mRev : DMt := fun d ds A Q => match d, ds with
  | .ref a, [] => (match A a with
    | some (.lst l) => Q .non (A.put a (.lst l.reverse))
    | _ => False)
  | _, _ => False
theorem lift_rev : LiftMt K "list" mRev rReverse := fun Z A H d v ds vs Kt Q R r rs h k => by
  unfold mRev at h
  split at h
  · rename_i a
    split at h
    · rename_i l q
      have := rs.inv0
      subst this
      obtain ⟨us, e1, e2⟩ := (R.at_ a _ q).2
      exact ⟨a, us, rv_ref r, rfl, e1, k Z _ _ _ _ (Same.refl Z) (lst_write R q e2.reverse) mk_non h⟩
    · exact h.elim
  · exact h.elim
def mClr : DMt := fun d ds A Q => match d, ds with
  | .ref a, [] => (match A a with
    | some (.lst l) => Q .non (A.put a (.lst []))
    | _ => False)
  | _, _ => False
theorem lift_clr : LiftMt K "list" mClr rClear := fun Z A H d v ds vs Kt Q R r rs h k => by
  unfold mClr at h
  split at h
  · rename_i a
    split at h
    · rename_i l q
      have := rs.inv0
      subst this
      obtain ⟨us, e1, e2⟩ := (R.at_ a _ q).2
      exact ⟨a, us, rv_ref r, rfl, e1, k Z _ _ _ _ (Same.refl Z) (lst_write R q .nil) mk_non h⟩
    · exact h.elim
  · exact h.elim
def mPop : DMt := fun d ds A Q => match d, ds with
  | .ref a, [] => (match A a with
    | some (.lst l) => (match l[l.length - 1]? with
      | some y => Q y (A.put a (.lst l.dropLast))
      | none => False)
    | _ => False)
  | _, _ => False
def mIns : DMt := fun d ds A Q => match d, ds with
  | .ref a, [.int i, y] => (match A a with
    | some (.lst l) => (Few l.length ∧ 0 ≤ i ∧ i < 2 ^ 63) ∧ Q .non (A.put a (.lst (l.take i.toNat ++ [y] ++ l.drop i.toNat)))
    | _ => False)
  | _, _ => False
/-- ''.join(list of texts) -/
def strsD : List D → Option (List Str)
  | [] => some []
  | .str x :: l => (strsD l).map (x :: ·)
  | _ => none
theorem strs_rvs : ∀ {l : List D} {vs : List V} {ys : List Str}, RVs K Z l vs → strsD l = some ys → vs = ys.map V.str
  | [], vs, ys, r, h => by cases h; rw [r.inv0]; rfl
  | d :: l, vs, ys, r, h => by
    obtain ⟨v, u, rfl, r1, r2⟩ := r.inv
    cases d with
    | str x =>
      simp only [strsD, Option.map_eq_some_iff] at h
      obtain ⟨zs, h1, h2⟩ := h
      subst h2
      rw [rv_str r1, strs_rvs r2 h1]; rfl
    | _ => cases h
def mJoin : DMt := fun d ds A Q => match d, ds with
  | .str x, [y] => (match (asS A y).bind strsD with
    | some ys => (ys.map (·.length)).sum + ys.length * x.length ≤ 1000000 ∧ Q (.str (Txt.join x ys)) A
    | none => False)
  | _, _ => False
end DL


/-! DLD: comprehensions. -/
namespace DL
open PySem PySem.Spec PyProof.Rows L2
variable {K : PySem.W.Frag} {Z Z' Z0 : Hp} {X : Cx}
def wipeD (δ : DSt) : List Nat → DSt
  | [] => δ
  | v :: vs => (wipeD δ vs).set v none
theorem wipe_rs {δ : DSt} {σ : L2.St} (r : RS K Z δ σ) : ∀ vs : List Nat, RS K Z (wipeD δ vs) (wipe σ vs)
  | [] => r
  | v :: vs => (wipe_rs r vs).set v (a := none) (b := none) trivial
theorem wipe_get (σ : L2.St) (j : Nat) : ∀ vs : List Nat, (wipe σ vs)[j]? = if j ∈ vs then (σ[j]?).map (fun _ => none) else σ[j]?
  | [] => by simp [wipe]
  | v :: vs => by
    unfold wipe
    rw [List.getElem?_set, wipe_length, wipe_get σ j vs]
    by_cases h : v = j
    · subst h
      rw [if_pos rfl]
      simp only [List.mem_cons, true_or, if_true]
      by_cases hl : v < σ.length
      · rw [if_pos hl, List.getElem?_eq_getElem hl]; rfl
      · rw [if_neg hl, List.getElem?_eq_none (by omega)]; rfl
    · rw [if_neg h]
      have e : (j ∈ v :: vs) ↔ j ∈ vs := ⟨fun q => (List.mem_cons.mp q).elim (fun e => absurd e.symm h) id, fun q => List.mem_cons_of_mem _ q⟩
      by_cases hj : j ∈ vs
      · rw [if_pos hj, if_pos (e.mpr hj)]
      · rw [if_neg hj, if_neg fun q => hj (e.mp q)]
theorem wipe_set {σ : L2.St} {i : Nat} {x : Option V} {vs : List Nat} (h : i ∈ vs) : wipe (σ.set i x) vs = wipe σ vs := by
  apply List.ext_getElem?
  intro j
  rw [wipe_get, wipe_get, List.getElem?_set]
  by_cases hj : i = j
  · subst hj
    rw [if_pos h, if_pos h, if_pos rfl]
    by_cases hl : i < σ.length
    · rw [if_pos hl, List.getElem?_eq_getElem hl]; try rfl
    · rw [if_neg hl, List.getElem?_eq_none (by omega)]; try rfl
  · rw [if_neg hj]
theorem wipe_wipe (σ : L2.St) (vs : List Nat) : wipe (wipe σ vs) vs = wipe σ vs := by
  apply List.ext_getElem?
  intro j
  rw [wipe_get, wipe_get]
  by_cases hj : j ∈ vs
  · rw [if_pos hj, if_pos hj, Option.map_map]; rfl
  · rw [if_neg hj, if_neg hj]
/-! ### targets that touch no other slot -/
def liftGw (K : PySem.W.Frag) (Z0 : Hp) (vs : List Nat) (g : DG) : TG := fun v σ H Q => ∃ Z d δ A Kt, Same Z0 Z ∧ RV K Z d v ∧ RS K Z δ σ ∧ RA K Z A H ∧ g d δ A Kt ∧
  ∀ Z' δ' A' σ' H', Same Z Z' → RS K Z' δ' σ' → RA K Z' A' H' → wipe σ' vs = wipe σ vs → Kt δ' A' → Q σ' H'
def liftGws (K : PySem.W.Frag) (Z0 : Hp) (vs : List Nat) (g : DGs) : TGs := fun xs σ H Q => ∃ Z ds δ A Kt, Same Z0 Z ∧ RVs K Z ds xs ∧ RS K Z δ σ ∧ RA K Z A H ∧ g ds δ A Kt ∧
  ∀ Z' δ' A' σ' H', Same Z Z' → RS K Z' δ' σ' → RA K Z' A' H' → wipe σ' vs = wipe σ vs → Kt δ' A' → Q σ' H'
abbrev QGw (X : Cx) (Z0 : Hp) (vs : List Nat) (e : Expr) (g : DG) : Prop := PG X e (liftGw X.K Z0 vs g)
abbrev QGws (X : Cx) (Z0 : Hp) (vs : List Nat) (e : List Expr) (g : DGs) : Prop := PGs X e (liftGws X.K Z0 vs g)
section
variable {e : Expr} {es : List Expr} {g : DG} {gs : DGs} {pos : Pos} {k : Nat} {vs : List Nat}
theorem qgw_name {i : Nat} {x : Str} (hv : i ∈ vs) (hN : X.N.Nodup) (hi : X.N[i]? = some x) (hx : Loc X.env.scope x) (hf : X.fn x = true ∨ X.env.scope.names.lookup x = some .local := by first | exact .inl rfl | exact .inr rfl | assumption) : QGw X Z0 vs (.Name x pos) (dgName i) :=
  PG.imp (pg_name hN hi hx hf) fun v σ H Q ⟨Z, d, δ, A, Kt, z, rv, rs, ra, t, k⟩ => k Z _ A _ H (Same.refl Z) (rs.set i (a := some d) (b := some v) rv) ra (wipe_set hv) t
theorem qgws_nil : QGws X Z0 vs [] dgNil := PGs.imp pgs_nil fun xs σ H Q ⟨Z, ds, δ, A, Kt, z, rv, rs, ra, t, k⟩ => by
  unfold dgNil at t
  split at t
  · exact ⟨rv.inv0, k Z δ A σ H (Same.refl Z) rs ra rfl t⟩
  · exact t.elim
theorem qgws_cons (h1 : QGw X Z0 vs e g) (h2 : QGws X Z0 vs es gs) (hs : (assignEach (e :: es) X.env).map (·.2) = assign e X.env :: (assignEach es X.env).map (·.2) := by rfl) : QGws X Z0 vs (e :: es) (dgCons g gs) :=
  PGs.imp (pgs_cons h1 h2 hs) fun xs σ H Q ⟨Z, ds, δ, A, Kt, z, rv, rs, ra, t, k⟩ => by
  unfold dgCons at t
  split at t
  · obtain ⟨v, r, e1, r1, r2⟩ := rv.inv
    exact ⟨v, r, e1, Z, _, δ, A, _, z, r1, rs, ra, t, fun Z1 δ1 A1 σ1 H1 s1 rs1 ra1 w1 t1 => ⟨Z1, _, δ1, A1, Kt, z.trans s1, r2.mono s1, rs1, ra1, t1, fun Z2 δ2 A2 σ2 H2 s2 rs2 ra2 w2 => k Z2 δ2 A2 σ2 H2 (s1.trans s2) rs2 ra2 (w2.trans w1)⟩⟩
  · exact t.elim
theorem qgw_tup {n : Nat} (hc : X.calm = true) (h : QGws X Z0 vs es gs) (hn : (assignEach es X.env).length = n := by rfl) (hst : (assignEach es X.env).findIdx? (·.1) = none := by rfl) : QGw X Z0 vs (.Tuple es k pos) (dgTup n gs) :=
  PG.imp (PG.or (pg_tup hc h hn hst) (pg_lst hc h hn hst)) fun v σ H Q ⟨Z, d, δ, A, Kt, z, rv, rs, ra, t, k⟩ => by
  unfold dgTup at t
  split at t
  · rename_i l q
    obtain ⟨p, us, e1, e2, e3⟩ := asS_ok ra rv q
    have hl : us.length = n := by rw [e3.len]; exact t.1
    have fin : liftGws X.K Z0 vs gs us σ H Q := ⟨Z, l, δ, A, Kt, z, e3, rs, ra, t.2, k⟩
    rcases e2 with e2 | e2
    · exact .inr ⟨p, us, e1, e2, hl, fin⟩
    · exact .inl ⟨p, us, e1, e2, hl, fin⟩
  · exact t.elim
end
/-! ### tests of a comprehension -/
abbrev QTs (X : Cx) (Z0 : Hp) (es : List Expr) (t : DT) : Prop := PTs X es (liftT X.K Z0 t)
def bYes : DT := fun _ A Q => Q true A
theorem PTs.imp {e : List Expr} {t u : TT} (h : PTs X e t) (i : ∀ σ H Q, u σ H Q → t σ H Q) : PTs X e u := ⟨fun pins s σ H Q I q => h.run pins s σ H Q I (i σ H Q q)⟩
theorem qts_nil : QTs X Z0 [] bYes := PTs.imp pts_nil fun σ H Q ⟨Z, δ, A, Kt, z, rs, ra, t, k⟩ => k Z true A H (Same.refl Z) ra t
theorem qts_one {c : Expr} {t : DT} (h : QT X Z0 c t) : QTs X Z0 [c] t := pts_one h
/-! ### the list that grows -/
abbrev DFin := Addr → DK → AH → Prop
def finF : DFin := fun p Q A => match A p with
  | some (.lst l) => Q (.lst l) (A.del p)
  | _ => False
structure FinOk (K : PySem.W.Frag) (f : DFin) : Prop where
  ok : ∀ {Z : Hp} {A : AH} {H : Hp} {p : Addr} {Kt : DK} {Q : VK}, RA K Z A H → f p Kt A → Kont K Z Kt Q → Q (.ref p) H
theorem finF_ok : FinOk K finF := ⟨fun R h k => by
  unfold finF at h
  split at h
  · rename_i l q
    obtain ⟨Z2, s2, r2, q2⟩ := fz_ok R q
    exact k Z2 _ _ _ _ s2 r2 q2 h
  · exact h.elim⟩
def compD (p : Addr) (gd : AH → Prop) (g : DG) (tt : DT) (te : DE) (vs : List Nat) (fin : AH → Prop) (δ : DSt) : List D → AH → Prop
  | [], A => gd A ∧ fin A
  | x :: l, A => gd A ∧ g x (wipeD δ vs) A fun δ2 A2 => tt δ2 A2 fun b A3 => (b = true → te δ2 A3 fun y A4 => ∃ acc, A4 p = some (.lst acc) ∧ Few acc.length ∧ compD p gd g tt te vs fin δ l (A4.put p (.lst (acc ++ [y])))) ∧
      (b = false → compD p gd g tt te vs fin δ l A3)
def eLc (fin : DFin) (it : DI) (g : DG) (tt : DT) (te : DE) (vs : List Nat) : DE := fun δ A Q => it δ A fun l gd A1 => ∀ p, A1 p = none → compD p gd g tt te vs (fin p Q) δ l (A1.put p (.lst []))
theorem lift_lc {fin : DFin} {it : DI} {g : DG} {tt : DT} {te : DE} {vs : List Nat} (fo : FinOk K fin) {σ : L2.St} {H : Hp} {Q : VK} (h : liftE K Z0 (eLc fin it g tt te vs) σ H Q) :
    tLc (liftI K Z0 it) (liftGw K Z0 vs g) (liftT K Z0 tt) (liftE K Z0 te) vs σ H Q := by
  obtain ⟨Z, δ, A, Kt, z, rs, ra, t, k⟩ := h
  refine ⟨Z, δ, A, _, z, rs, ra, t, fun Z1 l gd A1 J H1 s1 ra1 w t1 D hD => ?_⟩
  obtain ⟨G, Y, wk, hG, hY⟩ := w.ex
  have t2 := t1 D (ra1.fresh hD).1
  have r2 : RA K Z1 (A1.put D (.lst [])) (upd H1 D (.lst [])) := ra1.newO (o := .lst []) (u := .lst []) hD ⟨[], upd_same .., .nil⟩
  refine ⟨fun i m H => m = l.length - i ∧ i ≤ l.length ∧ ∃ Z2 A2, Same Z1 Z2 ∧ RA K Z2 A2 H ∧ compD D gd g tt te vs (fin D Kt) δ (l.drop i) A2, ⟨l.length, by omega, by omega, Z1, _, Same.refl Z1, r2, t2⟩, fun i m H ⟨em, hi, Z2, A2, s2, ra2, t2⟩ => ?_⟩
  by_cases hlt : i < l.length
  · have ed : l.drop i = l[i] :: l.drop (i + 1) := List.drop_eq_getElem_cons hlt
    rw [ed] at t2
    obtain ⟨tg2, t2⟩ := t2
    refine .inr ⟨wk.goes i H hlt (hG Z2 A2 H s2 ra2 tg2), fun H' => ∃ Z2 A2, Same Z1 Z2 ∧ RA K Z2 A2 H' ∧ compD D gd g tt te vs (fin D Kt) δ (l.drop (i + 1)) A2, fun H' q => ⟨l.length - (i + 1), by omega, rfl, hlt, q⟩, fun x H' hy => ?_⟩
    obtain ⟨Z3, d, s3, ra3, hd, rv⟩ := hY i Z2 A2 H x H' hlt s2 ra2 tg2 (wk.yields i H x H' hlt (hG Z2 A2 H s2 ra2 tg2) hy)
    have ed2 : l[i] = d := by rw [List.getElem?_eq_getElem hlt] at hd; exact Option.some.inj hd
    rw [ed2] at t2
    have s13 := s2.trans s3
    refine ⟨Z3, d, wipeD δ vs, A2, _, (z.trans s1).trans s13, rv, wipe_rs ((rs.mono s1).mono s13) vs, ra3, t2, fun Z4 δ4 A4 σ4 H4 s4 rs4 ra4 w4 t4 => ⟨by rw [w4, wipe_wipe], Z4, δ4, A4, _, ((z.trans s1).trans s13).trans s4, rs4, ra4, t4, fun Z5 b A5 H5 s5 ra5 t5 => ?_⟩⟩
    cases b with
    | true =>
      refine iteT ⟨Z5, δ4, A5, _, (((z.trans s1).trans s13).trans s4).trans s5, rs4.mono s5, ra5, t5.1 rfl, fun Z6 y A6 v6 H6 s6 ra6 rv6 ⟨acc, q1, q2, q3⟩ => ?_⟩
      obtain ⟨us, e1, e2⟩ := (ra6.at_ D _ q1).2
      exact ⟨us, e1, by rw [e2.len]; exact Nat.lt_of_lt_of_le q2 big_line, Z6, _, ((s13.trans s4).trans s5).trans s6, lst_write ra6 q1 (e2.append (.cons rv6 .nil)), q3⟩
    | false => exact iteF ⟨Z5, A5, (s13.trans s4).trans s5, ra5, t5.2 rfl⟩
  · have ei : i = l.length := by omega
    subst ei
    rw [List.drop_length] at t2
    exact .inl ⟨wk.stops H (hG Z2 A2 H s2 ra2 t2.1), fo.ok ra2 t2.2 (Kont.mono k (s1.trans s2))⟩
section
variable {elt tg iter : Expr} {ifs : List Expr} {scope : Scope} {own : List (Str × Nat)} {pos spos : Pos} {fin : DFin} {it : DI} {g : DG} {tt : DT} {te : DE}
theorem qe_lc (fo : FinOk X.K fin) (hc : X.calm = true) (hN : X.N.Nodup) (hi : QI X Z0 tg iter it) (ok : BlkOk X.N X.env.scope scope own)
    (hg : ∀ (s : Shared) (H : Hp) (C : Addr) (cl : List (Str × Addr)) (fp : List Addr), QGw (X.blk s H scope (compEnvC scope cl C X.env) fp) Z0 (own.map (·.2)) tg g) (ht : ∀ (s : Shared) (H : Hp) (C : Addr) (cl : List (Str × Addr)) (fp : List Addr), QTs (X.blk s H scope (compEnvC scope cl C X.env) fp) Z0 ifs tt)
    (he : ∀ (s : Shared) (H : Hp) (C : Addr) (cl : List (Str × Addr)) (fp : List Addr), QE (X.blk s H scope (compEnvC scope cl C X.env) fp) Z0 elt te) (hs : ∀ x, foldedSetIterable iter X.env x = pure x := by intro _; rfl) :
    QE X Z0 (.ListComp elt [⟨tg, iter, ifs, 0⟩] scope pos) (eLc fin it g tt te (own.map (·.2))) := PE.imp (pe_lc hc hN hi ok hg ht he hs) fun σ H Q h => lift_lc fo h
theorem qs_setLc {i : Nat} {y : Str} {py : Pos} (fo : FinOk X.K fin) (hc : X.calm = true) (hN : X.N.Nodup) (hy : X.N[i]? = some y) (hyl : X.env.scope.names.lookup y = some .local)
    (hsw : swapsWith (.ListComp elt [⟨tg, iter, ifs, 0⟩] scope pos) (some (.Name y py)) spos.line X.env = pure true) (hi : QI X Z0 tg iter it) (ok : BlkOk X.N X.env.scope scope own)
    (hg : ∀ (s : Shared) (H : Hp) (C : Addr) (cl : List (Str × Addr)) (fp : List Addr), QGw (X.blk s H scope (compEnvC scope cl C X.env) fp) Z0 (own.map (·.2)) tg g) (ht : ∀ (s : Shared) (H : Hp) (C : Addr) (cl : List (Str × Addr)) (fp : List Addr), QTs (X.blk s H scope (compEnvC scope cl C X.env) fp) Z0 ifs tt)
    (he : ∀ (s : Shared) (H : Hp) (C : Addr) (cl : List (Str × Addr)) (fp : List Addr), QE (X.blk s H scope (compEnvC scope cl C X.env) fp) Z0 elt te) (hs : ∀ x, foldedSetIterable iter X.env x = pure x := by intro _; rfl) :
    QS X Z0 (.Assign [.Name y py] (.ListComp elt [⟨tg, iter, ifs, 0⟩] scope pos) spos) (sAsg (eLc fin it g tt te (own.map (·.2))) (dgName i)) := by
  refine PS.imp (ps_setLc (i := i) (g := liftGw X.K Z0 (own.map (·.2)) g) (tt := liftT X.K Z0 tt) (te := liftE X.K Z0 te) hc hN hy hyl hsw hi ok hg ht he hs) fun D σ H ⟨Z, δ, A, DD, z, rs, ra, t, re⟩ => ?_
  refine lift_lc fo ⟨Z, δ, A, _, z, rs, ra, t, fun Z1 d A1 v H1 s1 ra1 rv t1 => ?_⟩
  exact re.nx Z1 _ A1 _ H1 s1 ((rs.mono s1).set i (a := some d) (b := some v) rv) ra1 t1
end
end DL


/-! DLE: x[i] = v, dicts; running the readings of objects, lists, comprehensions. -/
namespace DL
open PySem PySem.Spec PyProof.Rows L2
variable {K : PySem.W.Frag} {Z Z' Z0 : Hp} {X : Cx}
def putKD (kvs : List (Key × D)) (k : Key) (d : D) : List (Key × D) := if (kvs.any fun kv => decide (kv.1 = k)) = true then kvs.map (fun kv => if kv.1 = k then (kv.1, d) else kv) else kvs ++ [(k, d)]
theorem any_keys {k : Key} : ∀ {kvs : List (Key × D)} {us : List (Key × V)}, us.map (·.1) = kvs.map (·.1) → (us.any fun kv => decide (kv.1 = k)) = kvs.any fun kv => decide (kv.1 = k)
  | [], us, e => by have : us = [] := by simpa using e
                    subst this; rfl
  | a :: kvs, [], e => by simp at e
  | a :: kvs, b :: us, e => by
    simp only [List.map_cons, List.cons.injEq] at e
    rw [List.any_cons, List.any_cons, e.1, any_keys e.2]
theorem map_put {k : Key} {d : D} {v : V} (r : RV K Z d v) : ∀ {kvs : List (Key × D)} {us : List (Key × V)}, us.map (·.1) = kvs.map (·.1) → RVs K Z (kvs.map (·.2)) (us.map (·.2)) →
    (us.map (fun kv => if kv.1 = k then (kv.1, v) else kv)).map (·.1) = (kvs.map (fun kv => if kv.1 = k then (kv.1, d) else kv)).map (·.1) ∧
    RVs K Z ((kvs.map (fun kv => if kv.1 = k then (kv.1, d) else kv)).map (·.2)) ((us.map (fun kv => if kv.1 = k then (kv.1, v) else kv)).map (·.2))
  | [], us, e, _ => by
    have : us = [] := by simpa using e
    subst this; exact ⟨rfl, .nil⟩
  | a :: kvs, [], e, _ => by simp at e
  | (k1, x) :: kvs, (k2, y) :: us, e, q => by
    simp only [List.map_cons, List.cons.injEq] at e
    obtain ⟨e1, e2⟩ := e
    obtain ⟨v2, u2, e3, r1, r2⟩ := q.inv
    simp only [List.map_cons, List.cons.injEq] at e3
    obtain ⟨e4, e5⟩ := e3
    subst e4
    rw [← e5] at r2
    obtain ⟨i1, i2⟩ := map_put r e2 r2
    have e1' : k2 = k1 := e1
    subst e1'
    by_cases hk : k2 = k
    · simp only [List.map_cons, hk, if_true]
      exact ⟨by rw [i1], .cons r i2⟩
    · simp only [List.map_cons, hk, if_false]
      exact ⟨by rw [i1], .cons r1 i2⟩
theorem putK_ok {k : Key} {d : D} {v : V} (r : RV K Z d v) {kvs : List (Key × D)} {us : List (Key × V)} (e : us.map (·.1) = kvs.map (·.1)) (q : RVs K Z (kvs.map (·.2)) (us.map (·.2))) :
    (putK us k v).map (·.1) = (putKD kvs k d).map (·.1) ∧ RVs K Z ((putKD kvs k d).map (·.2)) ((putK us k v).map (·.2)) := by
  unfold putK putKD
  rw [any_keys e]
  split
  · exact map_put r e q
  · rw [List.map_append, List.map_append, List.map_append, List.map_append, e]
    exact ⟨rfl, q.append (.cons r .nil)⟩
def setD (x i d : D) (A : AH) (Q : AH → Prop) : Prop := match x with
  | .ref a => (match A a with
    | some (.lst l) => (match i with
      | .int k => (match ixN l.length k with
        | some j => Q (A.put a (.lst (l.set j d)))
        | none => False)
      | _ => False)
    | some (.dic kvs) => (match asKey i with
      | some k => Few kvs.length ∧ Q (A.put a (.dic (putKD kvs k d)))
      | none => False)
    | _ => False)
  | _ => False
def rSetAny : V → V → V → Hp → (Hp → Prop) → Prop := fun o i v H Q => rSetL o i v H Q ∨ ∃ a H4, o = .ref a ∧ DPut H a i v H4 ∧ Q H4
theorem set_any (hu : X.A.units + 1 < cLine) : PSet X rSetAny := by
  intro pins s σ H o i v ov iv u Q I ro ri rv h
  rcases h with h | ⟨a, H4, e, g, q⟩
  · exact set_list pins s σ H o i v ov iv u Q I ro ri rv h
  · subst e
    obtain rfl : ov = Value.ref a := ro
    exact d_setItem hu I g ri rv fun s4 I4 => ⟨H4, I4, q⟩
def dgSub (to ti : DE) : DG := fun d δ A Q => to δ A fun x A1 => ti δ A1 fun i A2 => setD x i d A2 fun A3 => Q δ A3
theorem qg_sub {o i : Expr} {to ti : DE} {pos : Pos} (hu : X.A.units + 1 < cLine) (ho : QE X Z0 o to) (hi : QE X Z0 i ti)
    (ha : ∀ v, assign (.Subscript o i pos) X.env v = (do
      let ov ← holding [v] (eval o X.env)
      let iv ← holding [v, ov] (eval i X.env)
      standAt pos
      holding [v, ov, iv] (setItem ov iv v)
      release [v, ov, iv] []) := by intro _; rfl) : QG X Z0 (.Subscript o i pos) (dgSub to ti) :=
  PG.imp (pg_sub ho hi (set_any hu) ha) fun v σ H Q ⟨Z, d, δ, A, Kt, z, rv, rs, ra, t, k⟩ =>
    ⟨Z, δ, A, _, z, rs, ra, t, fun Z1 x A1 vx H1 s1 ra1 rx t1 => ⟨Z1, δ, A1, _, z.trans s1, rs.mono s1, ra1, t1, fun Z2 i A2 vi H2 s2 ra2 ri t2 => by
      unfold setD at t2
      split at t2
      · rename_i a
        split at t2
        · rename_i l q
          split at t2
          · rename_i kk
            split at t2
            · rename_i j hj
              obtain ⟨us, e1, e2⟩ := (ra2.at_ a _ q).2
              exact .inl ⟨a, us, kk, j, rv_ref (rx.mono s2), rv_int ri, e1, by rw [e2.len]; exact hj, k Z2 δ _ σ _ (s1.trans s2) ((rs.mono s1).mono s2) (lst_write ra2 q (e2.set j ((rv.mono s1).mono s2))) t2⟩
            · exact t2.elim
          · exact t2.elim
        · rename_i kvs q
          split at t2
          · rename_i kk hk
            obtain ⟨us, e1, e2, e3⟩ := (ra2.at_ a _ q).2
            have ek := asKey_ok ri hk
            subst ek
            obtain ⟨p1, p2⟩ := putK_ok (k := kk) ((rv.mono s1).mono s2) e2 e3
            exact .inr ⟨a, _, rv_ref (rx.mono s2), DPut.k e1 (by have := congrArg List.length e2; simp at this; rw [this]; exact Nat.lt_of_lt_of_le t2.1 big_line),
              k Z2 δ (A2.put a (.dic (putKD kvs kk d))) σ _ (s1.trans s2) ((rs.mono s1).mono s2) (ra2.write (u := .dic (putKD kvs kk d)) q ⟨_, upd_same .., p1, p2⟩) t2.2⟩
          · exact t2.elim
        · exact t2.elim
      · exact t2.elim⟩⟩
/-! ### nothing is let out -/
abbrev w0 : DW := fun _ _ _ _ => False
theorem tk0 : Takes X (liftW X.K Z0 w0) := Takes.imp takes0 fun _ _ _ _ ⟨_, _, _, _, _, _, _, _, _, h⟩ => h
theorem fnok_mono {P : Program} {w : World} {mg : Str → Option Value} {base : Heap} {CX : CXT} {k k' : Nat} {f : Addr} {fd : FuncData} {ps : List Str} {sp : Sp} (F : FnOk P w K mg base CX k f fd ps sp) (h : k ≤ k') : FnOk P w K mg base CX k' f fd ps sp :=
  ⟨F.len, fun A outer s H args us vs Q E hr => F.run A outer s H args us vs Q E (hr.mono h)⟩
/-! ### running -/
section
variable {δ : DSt} {A : AH} {Q : DK} {D0 : DEnds} {R : List D → AH → Prop} {B : Bool → AH → Prop} {I : List D → (AH → Prop) → AH → Prop} {G : DSt → AH → Prop} {a : Addr} {l : List D}
@[simp ↓] theorem eFz_eq {t : DE} : eFz t δ A Q = t δ A fun d A1 => match d with
  | .ref a => (match A1 a with
    | some (.lst l) => Q (.lst l) (A1.del a)
    | some (.obj c fs) => Q (.obj c (fs.map (·.1)) (fs.map (·.2))) (A1.del a)
    | some (.dic kvs) => Q (.dic (kvs.map (·.1)) (kvs.map (·.2))) (A1.del a)
    | _ => False)
  | d => Q d A1 := rfl
@[simp ↓] theorem sFldSet_eq {cs : List String} {f : String} {o t : DE} : sFldSet cs f o t D0 δ A = t δ A fun d A1 => o δ A1 fun x A2 => match x with
  | .ref a => (match A2 a with
    | some (.obj c fs) => (c ∈ cs ∧ fs.length < 1000) ∧ D0.nx δ (A2.put a (.obj c (putD f d fs)))
    | _ => False)
  | _ => False := rfl
@[simp ↓] theorem eMk_eq {w : DW} {c : String} {sp : DSp} {t : DA} : eMk w c sp t δ A Q = t δ A fun ds A1 => ∀ x, A1 x = none → sp (.ref x :: ds) (A1.put x (.obj c [])) (fun d A2 => d = .non ∧ Q (.ref x) A2) fun k fs A2 => w k fs δ A2 := rfl
@[simp ↓] theorem eMth_eq {w : DW} {m : String} {tb : List (String × DSp)} {o : DE} {t : DA} : eMth w m tb o t δ A Q = o δ A fun d A1 => match asObj A1 d with
  | some (c, fs) => lookS m fs = none ∧ (match lookS c tb with
    | some sp => t δ A1 fun ds A2 => sp (d :: ds) A2 Q fun k gs A3 => w k gs δ A3
    | none => False)
  | none => False := rfl
@[simp ↓] theorem eIsiC_eq {tb : List (String × Bool)} {t : DE} : eIsiC tb t δ A Q = t δ A fun d A1 => match asObj A1 d with
  | some (c, _) => (match lookS c tb with
    | some b => Q (.bl b) A1
    | none => False)
  | none => False := rfl
@[simp ↓] theorem eFld_eq {cs : List String} {f : String} {t : DE} : eFld cs f t δ A Q = t δ A fun d A1 => match asObj A1 d with
  | some (c, fs) => c ∈ cs ∧ (match lookS f fs with
    | some d => Q d A1
    | none => False)
  | none => False := rfl
@[simp ↓] theorem eMt_eq {T : String} {rd : DMt} {o : DE} {t : DA} : eMt T rd o t δ A Q = o δ A fun d A1 => tyM A1 d T ∧ t δ A1 fun ds A2 => rd d ds A2 Q := rfl
@[simp ↓] theorem mApp_eq {y : D} : mApp (.ref a) [y] A Q = match A a with
  | some (.lst l) => Few l.length ∧ Q .non (A.put a (.lst (l ++ [y])))
  | _ => False := rfl
@[simp ↓] theorem mRev_eq : mRev (.ref a) [] A Q = match A a with
  | some (.lst l) => Q .non (A.put a (.lst l.reverse))
  | _ => False := rfl
@[simp ↓] theorem mClr_eq : mClr (.ref a) [] A Q = match A a with
  | some (.lst l) => Q .non (A.put a (.lst []))
  | _ => False := rfl
@[simp ↓] theorem mPop_eq : mPop (.ref a) [] A Q = match A a with
  | some (.lst l) => (match l[l.length - 1]? with
      | some y => Q y (A.put a (.lst l.dropLast))
      | none => False)
  | _ => False := rfl
@[simp ↓] theorem mIns_eq {i : Int} {y : D} : mIns (.ref a) [.int i, y] A Q = match A a with
  | some (.lst l) => (Few l.length ∧ 0 ≤ i ∧ i < 2 ^ 63) ∧ Q .non (A.put a (.lst (l.take i.toNat ++ [y] ++ l.drop i.toNat)))
  | _ => False := rfl
@[simp ↓] theorem mJoin_eq {x : Str} {y : D} : mJoin (.str x) [y] A Q = match (asS A y).bind strsD with
    | some ys => (ys.map (·.length)).sum + ys.length * x.length ≤ 1000000 ∧ Q (.str (Txt.join x ys)) A
    | none => False := rfl
@[simp ↓] theorem mkO_eq : mkO l A Q = ∀ p, A p = none → Q (.ref p) (A.put p (.lst l)) := rfl
@[simp ↓] theorem dgSub_eq {o i : DE} {d : D} : dgSub o i d δ A G = o δ A fun x A1 => i δ A1 fun i A2 => setD x i d A2 fun A3 => G δ A3 := rfl
@[simp ↓] theorem bYes_eq : bYes δ A B = B true A := rfl
@[simp ↓] theorem eLc_eq {fin : DFin} {it : DI} {g : DG} {tt : DT} {te : DE} {vs : List Nat} : eLc fin it g tt te vs δ A Q = it δ A fun l gd A1 => ∀ p, A1 p = none → compD p gd g tt te vs (fin p Q) δ l (A1.put p (.lst [])) := rfl
@[simp] theorem tyM_str {x : Str} {T : String} : tyM A (.str x) T = (T = "str") := rfl
@[simp] theorem tyM_lst {T : String} : tyM A (.lst l) T = (T = "list") := rfl
@[simp] theorem tyM_rol {T : String} : tyM A (.rol l) T = (T = "list") := rfl
theorem tyM_ref {T : String} (h : A a = some (.lst l)) : tyM A (.ref a) T = (T = "list") := by unfold tyM; simp only [h]
theorem ty_ref {l : List D} (h : A a = some (.lst l)) : tyD A (.ref a) = some "list" := by unfold tyD; simp only [h]
theorem drf_ref {l : List D} (h : A a = some (.lst l)) : drf A (.ref a) = .lst l := by unfold drf; simp only [h]
@[simp] theorem asObj_obj {c : String} {ns : List String} {vs : List D} : asObj A (.obj c ns vs) = some (c, ns.zip vs) := rfl
theorem asObj_ref {c : String} {fs : List (String × D)} (h : A a = some (.obj c fs)) : asObj A (.ref a) = some (c, fs) := by unfold asObj; simp only [h]
@[simp] theorem tyM_put {T : String} : tyM (A.put a (.lst l)) (.ref a) T = (T = "list") := tyM_ref (AH.put_same ..)
@[simp] theorem ty_put : tyD (A.put a (.lst l)) (.ref a) = some "list" := ty_ref (AH.put_same ..)
@[simp] theorem drf_put : drf (A.put a (.lst l)) (.ref a) = .lst l := drf_ref (AH.put_same ..)
@[simp] theorem asObj_put {c : String} {fs : List (String × D)} : asObj (A.put a (.obj c fs)) (.ref a) = some (c, fs) := asObj_ref (AH.put_same ..)
@[simp] theorem asS_put : asS (A.put a (.lst l)) (.ref a) = some l := by unfold asS asL; simp
@[simp] theorem asS_lst : asS A (.lst l) = some l := rfl
@[simp] theorem asS_tup : asS A (.tup l) = some l := rfl
@[simp] theorem asS_rol : asS A (.rol l) = some l := rfl
end
end DL


/-! DLF: the head's facts with the library's statics beside; is None of values. -/
namespace DL
open PySem PySem.Spec PyProof.Rows L2
def asZ (g : Addr → Option Obj) (n : Nat) : List Addr := cStatics :: He.asD g n
abbrev AlZ : Type := He.AlD × Bool
def obsZ (n : Nat) (fa : List He.Fa) (fn : List He.DefD) (ex : PySem.W.Frag → Bool) (g : Addr → Option Obj) : AlZ := (He.obsD fa fn (He.frG g (asZ g n)), ex (He.frG g (asZ g n)))
def SaysZ (fa : List He.Fa) (fn : List He.DefD) (ex : PySem.W.Frag → Bool) (K : PySem.W.Frag) : Prop := He.SaysD fa fn K ∧ ex K = true
def hookZ (n : Nat) (fa : List He.Fa) (fn : List He.DefD) (ex : PySem.W.Frag → Bool) : PySem.W.Hook where
  α := AlZ
  obs := fun s => obsZ n fa fn ex s.heap.get?
  val := fun _ => (He.valD fn, true)
  says := fun _ h => ∃ K : PySem.W.Frag, K.In h ∧ SaysZ fa fn ex K
  of := fun _ _ e => ⟨_, He.frG_in, congrArg (fun z : AlZ => z.1) e, congrArg (fun z : AlZ => z.2) e⟩
  keeps := fun _ _ _ ⟨K, hK, c⟩ k => ⟨K, PySem.W.Frag.In.keeps hK k, c⟩
theorem obsZ_eq {n : Nat} {fa : List He.Fa} {fn : List He.DefD} {ex : PySem.W.Frag → Bool} {g : Addr → Option Obj} {s : Shared} (h : ∀ a, g a = s.heap.get? a) : obsZ n fa fn ex g = (hookZ n fa fn ex).obs s := by
  have e : g = s.heap.get? := funext h
  rw [e] <;> rfl
@[simp] theorem non_non : D.isNon .non = true := rfl
@[simp] theorem non_bl {b : Bool} : D.isNon (.bl b) = false := rfl
@[simp] theorem non_int {b : Int} : D.isNon (.int b) = false := rfl
@[simp] theorem non_str {b : Str} : D.isNon (.str b) = false := rfl
@[simp] theorem non_tup {b : List D} : D.isNon (.tup b) = false := rfl
@[simp] theorem non_lst {b : List D} : D.isNon (.lst b) = false := rfl
@[simp] theorem non_rol {b : List D} : D.isNon (.rol b) = false := rfl
@[simp] theorem non_ref {b : Addr} : D.isNon (.ref b) = false := rfl
@[simp] theorem non_obj {c : String} {ns : List String} {b : List D} : D.isNon (.obj c ns b) = false := rfl
/-! ### what a def leaves behind is forgotten -/
def Sub (A B : AH) : Prop := ∀ a o, A a = some o → B a = some o
theorem Sub.refl (A : AH) : Sub A A := fun _ _ h => h
theorem Sub.put {A B : AH} {p : Addr} {o : AO} (s : Sub A B) (h : A p = none) : Sub A (B.put p o) := fun a u e => by
  have hn : a ≠ p := fun z => by rw [z, h] at e; cases e
  rw [AH.put_ne B o hn]; exact s a u e
theorem Sub.del {A B : AH} {p : Addr} (s : Sub A B) (h : A p = none) : Sub A (B.del p) := fun a u e => by
  have hn : a ≠ p := fun z => by rw [z, h] at e; cases e
  rw [AH.del_ne B hn]; exact s a u e
def dropQ (Q : DK) : DK := fun d A => ∃ A2, Sub A2 A ∧ Q d A2
section
variable {A : AH} {Q : DK} {m : Mk} {l : List D} {a : Addr}
@[simp ↓] theorem bList_lst : bList m [.lst l] A Q = m l A Q := rfl
@[simp ↓] theorem bList_tup : bList m [.tup l] A Q = m l A Q := rfl
@[simp ↓] theorem bList_rol : bList m [.rol l] A Q = m l A Q := rfl
end
theorem ixN_in {n : Nat} {i : Int} (h0 : 0 ≤ i) (h1 : i < n) : ixN n i = some i.toNat := by unfold ixN; rw [if_pos h0, if_pos h1]
end DL


/-! DLG: texts parted. -/
namespace DL
open PySem PySem.Spec PyProof.Rows L2
variable {K : PySem.W.Frag}
end DL


/-! DLH: dict.get; the first item taken out of a list. -/
namespace DL
open PySem PySem.Spec PyProof.Rows L2
variable {K : PySem.W.Frag} {X : Cx} {Z0 : Hp}
section
variable {o e f : Expr} {apos cpos : Pos} {to te tf : DE}
end
end DL


/-! DLI: dicts shown: {}, {k: v}. -/
namespace DL
open PySem PySem.Spec PyProof.Rows L2
variable {K : PySem.W.Frag} {X : Cx} {Z0 : Hp}
def eDic0 : DE := fun _ A Q => ∀ p, A p = none → Q (.ref p) (A.put p (.dic []))
theorem qe_dic0 {pos : Pos} : QE X Z0 (.Dict [] [] pos) eDic0 := PE.imp pe_dnewK fun σ H Q ⟨Z, δ, A, Kt, z, rs, ra, t, k⟩ p hp =>
  k Z (.ref p) _ _ _ (Same.refl Z) (ra.newO (u := .dic []) hp ⟨[], upd_same, rfl, .nil⟩) mk_ref (t p (ra.fresh hp).1)
def eDic1 (tk tv : DE) : DE := fun δ A Q => ∀ p, A p = none → tk δ (A.put p (.dic [])) fun x A1 => tv δ A1 fun y A2 => A2 p = some (.dic []) ∧ (match asKey x with
  | some ky => Q (.ref p) (A2.put p (.dic [(ky, y)]))
  | none => False)
theorem qe_dic1 {ek ev : Expr} {tk tv : DE} {pos : Pos} (hk : QE X Z0 ek tk) (hv : QE X Z0 ev tv) : QE X Z0 (.Dict [some ek] [ev] pos) (eDic1 tk tv) :=
  PE.imp (pe_disp (pps_cons hk hv pps_nil) rfl rfl (by simp) (by simp)) fun σ H Q ⟨Z, δ, A, Kt, z, rs, ra, t, k⟩ p hp => by
    have ra0 : RA X.K Z (A.put p (.dic [])) (upd H p (.dK [])) := ra.newO (u := .dic []) hp ⟨[], upd_same, rfl, .nil⟩
    refine ⟨Z, δ, A.put p (.dic []), _, z, rs, ra0, t p (ra.fresh hp).1, fun Z1 x A1 vx H1 s1 ra1 rx t1 => ?_⟩
    refine ⟨Z1, δ, A1, _, z.trans s1, rs.mono s1, ra1, t1, fun Z2 y A2 vy H2 s2 ra2 ry t2 => ?_⟩
    obtain ⟨hp2, t3⟩ := t2
    split at t3
    · rename_i ky hky
      obtain ⟨us, e1, e2, _⟩ := (ra2.at_ p _ hp2).2
      have : us = [] := by simpa using e2
      subst this
      refine ⟨e1, [(ky, vy)], ?_, by simp, ?_⟩
      · show [(vx, vy)] = [(kV ky, vy)]
        rw [asKey_ok (rx.mono s2) hky]
      · exact k Z2 (.ref p) _ _ _ (s1.trans s2) (ra2.write (u := .dic [(ky, y)]) hp2 ⟨[(ky, vy)], upd_same, rfl, .cons ry .nil⟩) mk_ref t3
    · exact t3.elim
end DL


/-! DLJ: an object frozen, its own lists and dicts with it. -/
namespace DL
open PySem PySem.Spec PyProof.Rows L2
variable {K : PySem.W.Frag} {Z Z' Z0 : Hp} {X : Cx}
/-- what a list, a dict is told as when frozen -/
def fzD : AO → Option D
  | .lst l => some (.lst l)
  | .dic kvs => some (.dic (kvs.map (·.1)) (kvs.map (·.2)))
  | .obj _ _ => none
  | .tk _ _ => none
/-- fields frozen one by one -/
inductive FzF : AH → List (String × D) → List (String × D) → AH → Prop
  | nil {A} : FzF A [] [] A
  | val {A B f d fs gs} : FzF A fs gs B → FzF A ((f, d) :: fs) ((f, d) :: gs) B
  | ref {A B f q o d fs gs} : A q = some o → fzD o = some d → FzF (A.del q) fs gs B → FzF A ((f, .ref q) :: fs) ((f, d) :: gs) B
end DL


/-! DLK: more that is walked: ranges with a step, enumerate, zip, reversed. -/
namespace DL
open PySem PySem.Spec PyProof.Rows L2
variable {K : PySem.W.Frag} {Z Z' Z0 : Hp} {X : Cx}
theorem RVs.three {d e f : D} {vs : List V} (h : RVs K Z [d, e, f] vs) : ∃ v u w, vs = [v, u, w] ∧ RV K Z d v ∧ RV K Z e u ∧ RV K Z f w := by
  obtain ⟨v, r, rfl, h1, h2⟩ := h.inv
  obtain ⟨u, w, rfl, h3, h4⟩ := h2.two
  exact ⟨v, u, w, rfl, h1, h3, h4⟩
/-! ### enumerate -/
/-! ### zip -/
/-! ### reversed(range(n)) -/
/-! ### reversed(list) -/
end DL


/-! DLL: sum, any, sorted, dict of pairs; insert's rule; count, index of lists. -/
namespace DL
open PySem PySem.Spec PyProof.Rows L2
variable {K : PySem.W.Frag} {Z Z' Z0 : Hp} {X : Cx}
/-! ### sorted -/
theorem rvs_strs : ∀ (ys : List Str), RVs K Z (ys.map D.str) (ys.map V.str)
  | [] => .nil
  | y :: ys => .cons mk_str (rvs_strs ys)
def keysD : List Key → Option (List Str)
  | [] => some []
  | .inr x :: l => (keysD l).map (x :: ·)
  | _ => none
theorem keysD_eq : ∀ {ks : List Key} {ys : List Str}, keysD ks = some ys → ks = ys.map Sum.inr
  | [], ys, h => by cases h; rfl
  | k :: ks, ys, h => by
    cases k with
    | inr x =>
      simp only [keysD, Option.map_eq_some_iff] at h
      obtain ⟨zs, h1, h2⟩ := h
      subst h2
      rw [keysD_eq h1]; rfl
    | inl x => cases h
def bSorted (mk : Mk) : DCall := fun ds A Q => match ds with
  | [d] => (match (asL A d).bind strsD with
    | some xs => xs.length < 64 ∧ ∀ ys : List Str, ys.Perm xs → sortedS ys = true → mk (ys.map .str) A Q
    | none => match (asDic A d).bind (fun kvs => keysD (kvs.map (·.1))) with
      | some xs => xs.length < 64 ∧ ∀ ys : List Str, ys.Perm xs → sortedS ys = true → mk (ys.map .str) A Q
      | none => False)
  | _ => False
abbrev rSortedD : List V → Hp → VK → Prop := fun xs H Q => ∃ (a : Addr) (kvs : List (Key × V)) (ks : List Str), xs = [.ref a] ∧ Rd H a (.dK kvs) ∧ kvs.map (·.1) = ks.map Sum.inr ∧ ks.length < 64 ∧
    ∀ ys p, ys.Perm ks → sortedS ys = true → H p = none → Q (.ref p) (upd H p (.lst (ys.map V.str)))
theorem lift_sorted {mk : Mk} (m : MkOk K mk) : LiftCall K (bSorted mk) (fun xs H Q => rSortedS K xs H Q ∨ rSortedD xs H Q) := fun Z A H ds vs Kt Q R r h k => by
  unfold bSorted at h
  split at h
  · rename_i d
    obtain ⟨v, rfl, rv⟩ := r.one
    split at h
    · rename_i xs q
      obtain ⟨l, h1, h2⟩ := Option.bind_eq_some_iff.mp q
      obtain ⟨p, us, e1, e2, e3⟩ := asL_ok R rv h1
      have := strs_rvs e3 h2
      subst this
      exact .inl ⟨p, xs, by rw [e1], e2, h.1, fun ys q hp hs hq => m.ok R (rvs_strs ys) (h.2 ys hp hs) k q hq⟩
    · split at h
      · rename_i xs q
        obtain ⟨kvs, h1, h2⟩ := Option.bind_eq_some_iff.mp q
        obtain ⟨p, us, e1, e2, e3, e4⟩ := asDic_ok R rv h1
        exact .inr ⟨p, us, xs, by rw [e1], .inl e2, by rw [e3]; exact keysD_eq h2, h.1, fun ys q hp hs hq => m.ok R (rvs_strs ys) (h.2 ys hp hs) k q hq⟩
      · exact h.elim
  · exact h.elim
theorem call_sortedAll (hc : X.calm = true) : CallR X (.builtin "sorted") (fun xs H Q => rSortedS X.K xs H Q ∨ rSortedD xs H Q) := CallR.or cr_sortedS (call_sortedD hc)
/-! ### d.get(k, x) -/
section
variable {o e f : Expr} {apos cpos : Pos} {to te tf : DE}
end
end DL


/-! DLM: raise C(x), C an own error with an __init__ that keeps x in a field. -/
namespace DL
open PySem PySem.Spec PyProof.Rows L2
variable {K : PySem.W.Frag} {Z Z' Z0 : Hp} {X : Cx}
structure IniOk (K : PySem.W.Frag) (c d f : String) : Prop where
  iC : PySem.W.findIn K (.ref (He.ga K (Str.ofString c))) "__init__" = some (some (.ref (He.ma K (He.ga K (Str.ofString c)) "__init__")))
  tI : PySem.W.typeIn K (.ref (He.ma K (He.ga K (Str.ofString c)) "__init__")) = some (.type "function")
  no : PySem.W.findIn K (.ref (He.ga K (Str.ofString c))) (Str.ofString f) = some none
  rd : PySem.W.readsIn K (He.ga K (Str.ofString d)) (.type "type") = true
  ga : PySem.W.specialIn K (.ref (He.ga K (Str.ofString d))) "__getattribute__" = some (some (.builtin "type.__getattribute__"))
  at_ : PySem.W.findCls K (.ref (He.ga K (Str.ofString d))) (.type "type") "__init__" = some (.val (.builtin "ValueError.__init__"))
/-- what such an __init__ promises -/
def spOex (K : PySem.W.Frag) (c f : String) : Sp := fun vs H Q E => ∃ a y, vs = [.ref a, y] ∧ OexC K (He.ga K (Str.ofString c)) ∧ PySem.W.findIn K (.ref (He.ga K (Str.ofString c))) (Str.ofString f) = some none ∧ H a = some (exo a (He.ga K (Str.ofString c)) none) ∧
  ∀ dx, H dx = none → dx ≠ a → Q .non (upd (upd H dx (exd dx [(Str.ofString f, y)])) a (exo a (He.ga K (Str.ofString c)) (some dx)))
/-- the error's making, kept ready -/
structure RaiseI (P : Program) (w : World) (K : PySem.W.Frag) (mg : Str → Option Value) (base : Heap) (k : Nat) (c f : String) : Prop where
  ex : ∃ (d : String) (fd : FuncData) (ps : List Str), OexC K (He.ga K (Str.ofString c)) ∧ IniOk K c d f ∧ FnOk P w K mg base (CX P w) k (He.ma K (He.ga K (Str.ofString c)) "__init__") fd ps (spOex K c f) ∧ mg (Str.ofString c) = some (.ref (He.ga K (Str.ofString c))) ∧ Binds K fd ps []
/-! ### e.f of an own error with one field -/
end DL


/-! FR: fractions as rational numbers. -/
namespace FR
open PySem PySem.Spec PyProof.Rows L2 DL
/-- a fraction's value -/
@[irreducible] def frD (q : Rat) : D := .tup [.int q.num, .int q.den]
theorem frD_def (q : Rat) : frD q = .tup [.int q.num, .int q.den] := by unfold frD; rfl
theorem frD_inj {q r : Rat} (h : frD q = frD r) : q = r := by
  unfold frD at h
  simp only [D.tup.injEq, List.cons.injEq, D.int.injEq, and_true] at h
  exact Rat.ext h.1 (by omega)
def deFr : D → Option Rat
  | .tup [.int a, .int b] => if h : 0 < b ∧ a.natAbs.gcd b.natAbs = 1 then some ⟨a, b.natAbs, by omega, h.2⟩ else none
  | _ => none
@[simp] theorem deFr_frD (q : Rat) : deFr (frD q) = some q := by
  unfold frD deFr
  have h : (0 : Int) < (q.den : Int) ∧ q.num.natAbs.gcd (q.den : Int).natAbs = 1 := ⟨by have := q.den_pos; omega, q.reduced⟩
  simp only
  rw [dif_pos h]
  congr 1
theorem deFr_ok {d : D} {q : Rat} (h : deFr d = some q) : d = frD q := by
  unfold deFr at h
  split at h
  · rename_i a b
    split at h
    · rename_i hc
      cases h
      unfold frD
      have : ((b.natAbs : Nat) : Int) = b := by omega
      simp only [this]
    · cases h
  · cases h
section
variable {A : AH} {Q : DK} {q r : Rat}
@[simp ↓] theorem ix0 : opIx (frD q) (.int 0) A Q = Q (.int q.num) A := by rw [frD_def]; rfl
@[simp ↓] theorem ix1 : opIx (frD q) (.int 1) A Q = Q (.int q.den) A := by rw [frD_def]; rfl
@[simp] theorem ty_fr : tyD A (frD q) = some "tuple" := by rw [frD_def]; rfl
@[simp ↓] theorem len_fr : bLen [frD q] A Q = Q (.int 2) A := by rw [frD_def]; rfl
@[simp] theorem drf_fr : drf A (frD q) = frD q := by rw [frD_def]; rfl
@[simp] theorem dt_fr {n : Nat} : dt (n + 1) (frD q) = true := by unfold frD; simp
@[simp] theorem non_fr : (frD q).isNon = false := by rw [frD_def]; rfl
@[simp] theorem deq_fr : deq (frD q) (frD r) = decide (q = r) := by
  unfold frD
  simp only [deq_tup, deqs_cons, deq_int, deqs_nil, Bool.and_true]
  by_cases h : q = r
  · subst h; simp
  · rw [decide_eq_false h]
    apply Bool.eq_false_iff.mpr
    intro e
    simp at e
    exact h (Rat.ext e.1 (by omega))
end
/-! ### sizes -/
def Wd (i : Int) : Prop := i.natAbs < 2 ^ 8000
def Sm (q : Rat) : Prop := q.num.natAbs < 2 ^ 3000 ∧ q.den < 2 ^ 3000
theorem wd_of {i : Int} {k : Nat} (h : i.natAbs < 2 ^ k) (hk : k ≤ 8000) : Wd i := Nat.lt_of_lt_of_le h (Nat.pow_le_pow_right (by decide) hk)
@[simp] theorem wd_lit {n : Int} (h1 : -18446744073709551616 < n) (h2 : n < 18446744073709551616) : Wd n := wd_of (k := 64) (by omega) (by decide)
theorem mul_lt {i j : Int} {a b : Nat} (h1 : i.natAbs < 2 ^ a) (h2 : j.natAbs < 2 ^ b) : (i * j).natAbs < 2 ^ (a + b) := by
  rw [Int.natAbs_mul, Nat.pow_add]
  exact Nat.mul_lt_mul_of_lt_of_le h1 (Nat.le_of_lt h2) (Nat.pow_pos (by decide))
theorem add_lt {i j : Int} {a : Nat} (h1 : i.natAbs < 2 ^ a) (h2 : j.natAbs < 2 ^ a) : (i + j).natAbs < 2 ^ (a + 1) := by
  rw [Nat.pow_succ]
  have := Int.natAbs_add_le i j
  omega
theorem sub_lt {i j : Int} {a : Nat} (h1 : i.natAbs < 2 ^ a) (h2 : j.natAbs < 2 ^ a) : (i - j).natAbs < 2 ^ (a + 1) := by
  rw [Nat.pow_succ]
  have := Int.natAbs_sub_le i j
  omega
/-! ### the lowest terms -/
theorem low_num {a b : Int} (h : b ≠ 0) : (Rat.divInt a b).num = if b < 0 then a.fdiv (-(Int.gcd a b : Int)) else a.fdiv (Int.gcd a b : Int) := by
  rw [Rat.num_divInt, Int.gcd_comm]
  split
  · rename_i hb
    have e : a.fdiv (-(Int.gcd a b : Int)) = (-a).fdiv (Int.gcd a b : Int) := by
      have := Int.neg_fdiv_neg (-a) (Int.gcd a b : Int)
      rw [Int.neg_neg] at this
      exact this
    rw [e, Int.fdiv_eq_ediv_of_nonneg _ (by omega), Int.sign_eq_neg_one_of_neg hb]
    congr 1; omega
  · rename_i hb
    rw [Int.fdiv_eq_ediv_of_nonneg _ (by omega), Int.sign_eq_one_of_pos (by omega), Int.one_mul]
theorem low_den {a b : Int} (h : b ≠ 0) : ((Rat.divInt a b).den : Int) = if b < 0 then b.fdiv (-(Int.gcd a b : Int)) else b.fdiv (Int.gcd a b : Int) := by
  rw [Rat.den_divInt, if_neg h, Int.gcd_comm, Int.natCast_ediv]
  split
  · rename_i hb
    have e : b.fdiv (-(Int.gcd a b : Int)) = (-b).fdiv (Int.gcd a b : Int) := by
      have := Int.neg_fdiv_neg (-b) (Int.gcd a b : Int)
      rw [Int.neg_neg] at this
      exact this
    rw [e, Int.fdiv_eq_ediv_of_nonneg _ (by omega)]
    congr 1; omega
  · rename_i hb
    rw [Int.fdiv_eq_ediv_of_nonneg _ (by omega)]
    congr 1; omega
theorem low_lt {a b : Int} {k : Nat} (h : b ≠ 0) (ha : a.natAbs < 2 ^ k) (hb : b.natAbs < 2 ^ k) : (Rat.divInt a b).num.natAbs < 2 ^ k ∧ (Rat.divInt a b).den < 2 ^ k := by
  constructor
  · refine Nat.lt_of_le_of_lt ?_ ha
    rw [Rat.num_divInt]
    refine Nat.le_trans (Int.natAbs_ediv_le_natAbs _ _) ?_
    rw [Int.natAbs_mul]
    have : b.sign.natAbs ≤ 1 := by
      rcases Int.lt_trichotomy b 0 with h | h | h
      · rw [Int.sign_eq_neg_one_of_neg h]; decide
      · subst h; decide
      · rw [Int.sign_eq_one_of_pos h]; decide
    calc b.sign.natAbs * a.natAbs ≤ 1 * a.natAbs := Nat.mul_le_mul_right _ this
      _ = a.natAbs := Nat.one_mul _
  · refine Nat.lt_of_le_of_lt ?_ hb
    rw [Rat.den_divInt, if_neg h]
    exact Nat.div_le_self _ _
theorem sm_low {a b : Int} {k : Nat} (h : b ≠ 0) (ha : a.natAbs < 2 ^ k) (hb : b.natAbs < 2 ^ k) (hk : k ≤ 3000) : Sm (Rat.divInt a b) :=
  have l := low_lt h ha hb
  ⟨Nat.lt_of_lt_of_le l.1 (Nat.pow_le_pow_right (by decide) hk), Nat.lt_of_lt_of_le l.2 (Nat.pow_le_pow_right (by decide) hk)⟩
theorem gcd_pos {a b : Int} (h : b ≠ 0) : 0 < (Int.gcd a b : Int) := by have := Int.gcd_pos_of_ne_zero_right a h; omega
theorem gcd_lt {a b : Int} {k : Nat} (h : b ≠ 0) (hb : b.natAbs < 2 ^ k) : (Int.gcd a b : Int).natAbs < 2 ^ k := by
  have := Int.gcd_le_natAbs_right a h
  omega
theorem gcd_ok {a b : Int} (h : b ≠ 0) (hb : Wd b) : DivOk (Int.gcd a b) ∧ DivOk (-(Int.gcd a b : Int)) := by
  have p := gcd_pos (a := a) h
  have l := gcd_lt (a := a) h hb
  exact ⟨divOk_of (by omega) l (by decide), divOk_of (by omega) (by omega : (-(Int.gcd a b : Int)).natAbs < 2 ^ 8000) (by decide)⟩
/-! ### sums and products -/
theorem add_fr (q r : Rat) : Rat.divInt (q.num * r.den + r.num * q.den) (q.den * r.den) = q + r := by
  have h1 : (q.den : Int) ≠ 0 := by have := q.den_pos; omega
  have h2 : (r.den : Int) ≠ 0 := by have := r.den_pos; omega
  have := Rat.divInt_add_divInt q.num r.num h1 h2
  rw [Rat.num_divInt_den, Rat.num_divInt_den] at this
  exact this.symm
theorem sub_fr (q r : Rat) : Rat.divInt (q.num * r.den - r.num * q.den) (q.den * r.den) = q - r := by
  have h1 : (q.den : Int) ≠ 0 := by have := q.den_pos; omega
  have h2 : (r.den : Int) ≠ 0 := by have := r.den_pos; omega
  have := Rat.divInt_sub_divInt q.num r.num h1 h2
  rw [Rat.num_divInt_den, Rat.num_divInt_den] at this
  exact this.symm
theorem den_ne (q : Rat) : (q.den : Int) ≠ 0 := by have := q.den_pos; omega
theorem den_mul_ne (q r : Rat) : (q.den : Int) * (r.den : Int) ≠ 0 := Int.mul_ne_zero (den_ne q) (den_ne r)
section
variable {q r : Rat}
theorem sm_d (h : Sm q) : (q.den : Int).natAbs < 2 ^ 3000 := by have := h.2; omega
theorem mm1 (h : Sm q) (g : Sm r) : DL.MulOk q.num r.den := mulOk_of h.1 (sm_d g) (by decide)
theorem mm3 (h : Sm q) (g : Sm r) : DL.MulOk (q.den : Int) (r.den : Int) := mulOk_of (sm_d h) (sm_d g) (by decide)
theorem w_add (h : Sm q) (g : Sm r) : Wd (q.num * r.den + r.num * q.den) := wd_of (add_lt (mul_lt h.1 (sm_d g)) (mul_lt g.1 (sm_d h))) (by decide)
theorem w_sub (h : Sm q) (g : Sm r) : Wd (q.num * r.den - r.num * q.den) := wd_of (sub_lt (mul_lt h.1 (sm_d g)) (mul_lt g.1 (sm_d h))) (by decide)
theorem w_den (h : Sm q) (g : Sm r) : Wd ((q.den : Int) * (r.den : Int)) := wd_of (mul_lt (sm_d h) (sm_d g)) (by decide)
end
end FR


/-! DLX: the head's facts off a list of addresses told by hand (less memory than asking for it). -/
namespace DL
open PySem PySem.Spec PyProof.Rows L2
end DL


namespace H23
open PySem PySem.Spec PyProof.Rows L2 DL FR
def top (i : Nat) : Stmt := PySem.Challenge.pw_slackchain_k23_least_sums_reached.main.body.getD i (.Pass ⟨0, 0, 0, 0⟩)
def inn (st : Stmt) (j : Nat) : Stmt := match st with | .ClassDef _ _ _ b .. => b.getD j (.Pass ⟨0, 0, 0, 0⟩) | _ => st
abbrev s_divisor : Stmt := top 6
abbrev s_fraction : Stmt := top 7
abbrev s_plus : Stmt := top 8
abbrev s_minus : Stmt := top 9
abbrev s_under : Stmt := top 10
abbrev s_is_whole : Stmt := top 13
abbrev s_is_name : Stmt := top 14
abbrev s_is_fraction : Stmt := top 15
abbrev s_Tie___init__ : Stmt := inn (top 16) 0
abbrev s_Tie_low : Stmt := inn (top 16) 1
abbrev s_Tie_high : Stmt := inn (top 16) 2
abbrev s_AtMost_high : Stmt := inn (top 19) 1
abbrev s_Between_high : Stmt := inn (top 21) 2
abbrev s_Just_high : Stmt := inn (top 20) 2
abbrev s_AtLeast_low : Stmt := inn (top 18) 1
abbrev s_Between_low : Stmt := inn (top 21) 1
abbrev s_Just_low : Stmt := inn (top 20) 1
abbrev s_Tie_steps : Stmt := inn (top 16) 5
abbrev s_AtLeast___init__ : Stmt := inn (top 18) 0
abbrev s_AtMost___init__ : Stmt := inn (top 19) 0
abbrev s_Just___init__ : Stmt := inn (top 20) 0
abbrev s_Between___init__ : Stmt := inn (top 21) 0
abbrev s_check_tie : Stmt := top 22
abbrev s_tie_of : Stmt := top 23
abbrev s_all_steps : Stmt := top 25
abbrev s_one_round : Stmt := top 26
abbrev s_way_back : Stmt := top 27
abbrev s_reached : Stmt := top 28
abbrev s__law_cell_at : Stmt := top 30
abbrev s__law_divisor : Stmt := top 31
abbrev s__law_lowest : Stmt := top 32
abbrev s__law_plus : Stmt := top 33
abbrev s__law_less : Stmt := top 34
abbrev s__law_places : Stmt := top 35
abbrev s__law_face : Stmt := top 36
abbrev s__law_tie : Stmt := top 37
abbrev s__law_steps : Stmt := top 38
abbrev s__law_chain : Stmt := top 39
abbrev s__law_least : Stmt := top 40
abbrev s__law_from : Stmt := top 41
abbrev s_law : Stmt := top 42
def d_divisor : He.DefD := ⟨("divisor", none), "divisor", "divisor", defArgs s_divisor, defBody s_divisor, defScope s_divisor, [], []⟩
def d_fraction : He.DefD := ⟨("fraction", none), "fraction", "fraction", defArgs s_fraction, defBody s_fraction, defScope s_fraction, [.int 1], []⟩
def d_plus : He.DefD := ⟨("plus", none), "plus", "plus", defArgs s_plus, defBody s_plus, defScope s_plus, [], []⟩
def d_minus : He.DefD := ⟨("minus", none), "minus", "minus", defArgs s_minus, defBody s_minus, defScope s_minus, [], []⟩
def d_under : He.DefD := ⟨("under", none), "under", "under", defArgs s_under, defBody s_under, defScope s_under, [], []⟩
def d_is_whole : He.DefD := ⟨("is_whole", none), "is_whole", "is_whole", defArgs s_is_whole, defBody s_is_whole, defScope s_is_whole, [], []⟩
def d_is_name : He.DefD := ⟨("is_name", none), "is_name", "is_name", defArgs s_is_name, defBody s_is_name, defScope s_is_name, [], []⟩
def d_is_fraction : He.DefD := ⟨("is_fraction", none), "is_fraction", "is_fraction", defArgs s_is_fraction, defBody s_is_fraction, defScope s_is_fraction, [], []⟩
def d_Tie___init__ : He.DefD := ⟨("Tie", some "__init__"), "__init__", "Tie.__init__", defArgs s_Tie___init__, defBody s_Tie___init__, defScope s_Tie___init__, [], []⟩
def d_Tie_low : He.DefD := ⟨("Tie", some "low"), "low", "Tie.low", defArgs s_Tie_low, defBody s_Tie_low, defScope s_Tie_low, [], []⟩
def d_Tie_high : He.DefD := ⟨("Tie", some "high"), "high", "Tie.high", defArgs s_Tie_high, defBody s_Tie_high, defScope s_Tie_high, [], []⟩
def d_AtMost_high : He.DefD := ⟨("AtMost", some "high"), "high", "AtMost.high", defArgs s_AtMost_high, defBody s_AtMost_high, defScope s_AtMost_high, [], []⟩
def d_Between_high : He.DefD := ⟨("Between", some "high"), "high", "Between.high", defArgs s_Between_high, defBody s_Between_high, defScope s_Between_high, [], []⟩
def d_Just_high : He.DefD := ⟨("Just", some "high"), "high", "Just.high", defArgs s_Just_high, defBody s_Just_high, defScope s_Just_high, [], []⟩
def d_AtLeast_low : He.DefD := ⟨("AtLeast", some "low"), "low", "AtLeast.low", defArgs s_AtLeast_low, defBody s_AtLeast_low, defScope s_AtLeast_low, [], []⟩
def d_Between_low : He.DefD := ⟨("Between", some "low"), "low", "Between.low", defArgs s_Between_low, defBody s_Between_low, defScope s_Between_low, [], []⟩
def d_Just_low : He.DefD := ⟨("Just", some "low"), "low", "Just.low", defArgs s_Just_low, defBody s_Just_low, defScope s_Just_low, [], []⟩
def d_Tie_steps : He.DefD := ⟨("Tie", some "steps"), "steps", "Tie.steps", defArgs s_Tie_steps, defBody s_Tie_steps, defScope s_Tie_steps, [], []⟩
def d_AtLeast___init__ : He.DefD := ⟨("AtLeast", some "__init__"), "__init__", "AtLeast.__init__", defArgs s_AtLeast___init__, defBody s_AtLeast___init__, defScope s_AtLeast___init__, [], []⟩
def d_AtMost___init__ : He.DefD := ⟨("AtMost", some "__init__"), "__init__", "AtMost.__init__", defArgs s_AtMost___init__, defBody s_AtMost___init__, defScope s_AtMost___init__, [], []⟩
def d_Just___init__ : He.DefD := ⟨("Just", some "__init__"), "__init__", "Just.__init__", defArgs s_Just___init__, defBody s_Just___init__, defScope s_Just___init__, [], []⟩
def d_Between___init__ : He.DefD := ⟨("Between", some "__init__"), "__init__", "Between.__init__", defArgs s_Between___init__, defBody s_Between___init__, defScope s_Between___init__, [], []⟩
def d_check_tie : He.DefD := ⟨("check_tie", none), "check_tie", "check_tie", defArgs s_check_tie, defBody s_check_tie, defScope s_check_tie, [], []⟩
def d_tie_of : He.DefD := ⟨("tie_of", none), "tie_of", "tie_of", defArgs s_tie_of, defBody s_tie_of, defScope s_tie_of, [], []⟩
def d_all_steps : He.DefD := ⟨("all_steps", none), "all_steps", "all_steps", defArgs s_all_steps, defBody s_all_steps, defScope s_all_steps, [], []⟩
def d_one_round : He.DefD := ⟨("one_round", none), "one_round", "one_round", defArgs s_one_round, defBody s_one_round, defScope s_one_round, [], []⟩
def d_way_back : He.DefD := ⟨("way_back", none), "way_back", "way_back", defArgs s_way_back, defBody s_way_back, defScope s_way_back, [], []⟩
def d_reached : He.DefD := ⟨("reached", none), "reached", "reached", defArgs s_reached, defBody s_reached, defScope s_reached, [], []⟩
def d__law_cell_at : He.DefD := ⟨("_law_cell_at", none), "_law_cell_at", "_law_cell_at", defArgs s__law_cell_at, defBody s__law_cell_at, defScope s__law_cell_at, [], []⟩
def d__law_divisor : He.DefD := ⟨("_law_divisor", none), "_law_divisor", "_law_divisor", defArgs s__law_divisor, defBody s__law_divisor, defScope s__law_divisor, [], []⟩
def d__law_lowest : He.DefD := ⟨("_law_lowest", none), "_law_lowest", "_law_lowest", defArgs s__law_lowest, defBody s__law_lowest, defScope s__law_lowest, [], []⟩
def d__law_plus : He.DefD := ⟨("_law_plus", none), "_law_plus", "_law_plus", defArgs s__law_plus, defBody s__law_plus, defScope s__law_plus, [], []⟩
def d__law_less : He.DefD := ⟨("_law_less", none), "_law_less", "_law_less", defArgs s__law_less, defBody s__law_less, defScope s__law_less, [], []⟩
def d__law_places : He.DefD := ⟨("_law_places", none), "_law_places", "_law_places", defArgs s__law_places, defBody s__law_places, defScope s__law_places, [], []⟩
def d__law_face : He.DefD := ⟨("_law_face", none), "_law_face", "_law_face", defArgs s__law_face, defBody s__law_face, defScope s__law_face, [], []⟩
def d__law_tie : He.DefD := ⟨("_law_tie", none), "_law_tie", "_law_tie", defArgs s__law_tie, defBody s__law_tie, defScope s__law_tie, [], []⟩
def d__law_steps : He.DefD := ⟨("_law_steps", none), "_law_steps", "_law_steps", defArgs s__law_steps, defBody s__law_steps, defScope s__law_steps, [], []⟩
def d__law_chain : He.DefD := ⟨("_law_chain", none), "_law_chain", "_law_chain", defArgs s__law_chain, defBody s__law_chain, defScope s__law_chain, [], []⟩
def d__law_least : He.DefD := ⟨("_law_least", none), "_law_least", "_law_least", defArgs s__law_least, defBody s__law_least, defScope s__law_least, [], []⟩
def d__law_from : He.DefD := ⟨("_law_from", none), "_law_from", "_law_from", defArgs s__law_from, defBody s__law_from, defScope s__law_from, [], []⟩
def d_law : He.DefD := ⟨("law", none), "law", "law", defArgs s_law, defBody s_law, defScope s_law, [], []⟩
def fn : List He.DefD := [d_divisor, d_fraction, d_plus, d_minus, d_under, d_is_whole, d_is_name, d_is_fraction, d_Tie___init__, d_Tie_low, d_Tie_high, d_AtMost_high, d_Between_high, d_Just_high, d_AtLeast_low, d_Between_low, d_Just_low, d_Tie_steps, d_AtLeast___init__, d_AtMost___init__, d_Just___init__, d_Between___init__, d_check_tie, d_tie_of, d_all_steps, d_one_round, d_way_back, d_reached, d__law_cell_at, d__law_divisor, d__law_lowest, d__law_plus, d__law_less, d__law_places, d__law_face, d__law_tie, d__law_steps, d__law_chain, d__law_least, d__law_from, d_law]
def fa : List He.Fa := [.free "abs", .free "bool", .free "int", .free "isinstance", .free "len", .free "list", .free "range", .free "set", .free "sorted", .free "str", .free "tuple", .glo "AtLeast", .glo "AtMost", .glo "Between", .glo "Free", .glo "Just", .glo "NoNumber", .glo "NoTie", .glo "Tie", .str "LETTERS" "abcdefghijklmnopqrstuvwxyz", .exc "NoNumber", .exc "NoTie", .cls "AtLeast", .noat "AtLeast" "end", .cls "AtMost", .noat "AtMost" "end", .cls "Between", .noat "Between" "end", .cls "Free", .noat "Free" "end", .cls "Just", .noat "Just" "end", .cls "AtMost", .noat "AtMost" "greatest", .cls "Between", .noat "Between" "greatest", .cls "AtLeast", .noat "AtLeast" "least", .cls "Between", .noat "Between" "least", .cls "AtLeast", .noat "AtLeast" "name", .cls "AtMost", .noat "AtMost" "name", .cls "Between", .noat "Between" "name", .cls "Free", .noat "Free" "name", .cls "Just", .noat "Just" "name", .cls "Just", .noat "Just" "size", .cls "AtLeast", .noat "AtLeast" "start", .cls "AtMost", .noat "AtMost" "start", .cls "Between", .noat "Between" "start", .cls "Free", .noat "Free" "start", .cls "Just", .noat "Just" "start", .cls "AtLeast", .meth "AtLeast" "high", .cls "AtMost", .meth "AtMost" "high", .cls "Between", .meth "Between" "high", .cls "Free", .meth "Free" "high", .cls "Just", .meth "Just" "high", .cls "AtLeast", .meth "AtLeast" "low", .cls "AtMost", .meth "AtMost" "low", .cls "Between", .meth "Between" "low", .cls "Free", .meth "Free" "low", .cls "Just", .meth "Just" "low", .cls "AtLeast", .meth "AtLeast" "steps", .cls "AtMost", .meth "AtMost" "steps", .cls "Between", .meth "Between" "steps", .cls "Free", .meth "Free" "steps", .cls "Just", .meth "Just" "steps", .mkr "AtLeast", .mkr "AtMost", .mkr "Between", .mkr "Free", .mkr "Just", .glo "divisor", .glo "fraction", .glo "plus", .glo "minus", .glo "under", .glo "is_whole", .glo "is_name", .glo "is_fraction", .glo "check_tie", .glo "tie_of", .glo "all_steps", .glo "one_round", .glo "way_back", .glo "reached", .glo "_law_cell_at", .glo "_law_divisor", .glo "_law_lowest", .glo "_law_plus", .glo "_law_less", .glo "_law_places", .glo "_law_face", .glo "_law_tie", .glo "_law_steps", .glo "_law_chain", .glo "_law_least", .glo "_law_from", .glo "law"]
def fx : List Fx := [fxSame "AtLeast" "Tie" "high", fxSame "Free" "Tie" "high", fxSame "AtMost" "Tie" "low", fxSame "Free" "Tie" "low", fxSame "AtLeast" "Tie" "steps", fxSame "AtMost" "Tie" "steps", fxSame "Between" "Tie" "steps", fxSame "Free" "Tie" "steps", fxSame "Just" "Tie" "steps", fxSame "Free" "Tie" "__init__", fxCM "Tie" "__init__"]
abbrev R : PySem.W.OpenRow := PySem.W.OpenLaw.row PySem.Challenge.rw_slackchain_k23_least_sums_reached
abbrev hk : PySem.W.Hook := DL.hookZ 6 fa fn (allX fx)
def ob (s : PySem.W.SharedT) : DL.AlZ := DL.obsZ 6 fa fn (allX fx) (HandSHeadRun.getT s)
theorem ob_eq (s : PySem.W.SharedT) : ob s = hk.obs s.abs := DL.obsZ_eq (HandSHeadRun.getT_eq s)
theorem run (w : World) : HandSHeadRun.RunEq R (PySem.W.view R.prog [42]) hk ob 12000 ("_wall" :: "SlackError" :: "NoNumber" :: "NoTie" :: "divisor" :: "fraction" :: "plus" :: "minus" :: "under" :: "LETTERS" :: "is_whole" :: "is_name" :: "is_fraction" :: "Tie" :: "Free" :: "AtLeast" :: "AtMost" :: "Just" :: "Between" :: "check_tie" :: "tie_of" :: "all_steps" :: "one_round" :: "way_back" :: "reached" :: "_law_cell_at" :: "_law_divisor" :: "_law_lowest" :: "_law_plus" :: "_law_less" :: "_law_places" :: "_law_face" :: "_law_tie" :: "_law_steps" :: "_law_chain" :: "_law_least" :: "_law_from" :: []) w := by
  intro os
  kernel_rfl
end H23


/-! DLN: list.count, list.index of truths. -/
namespace DL
open PySem PySem.Spec PyProof.Rows L2
section
variable {X : Cx}
end
variable {K : PySem.W.Frag}
end DL


/-! DLO: isinstance of a caught error, with fields or none. -/
namespace DL
open PySem PySem.Spec PyProof.Rows L2
variable {K : PySem.W.Frag} {X : Cx} {Z0 : Hp}
section
variable {a : Addr} {oe : Obj} {cls : Value} {d : Option Addr} {pn : List (Addr × Obj)} {k : String} {Z1 : Hp} {e e2 : Expr} {te : DE} {p pos : Pos}
end
end DL


/-! DLP: list(reversed(range(n))). -/
namespace DL
open PySem PySem.Spec PyProof.Rows
open Sem (wp)
open AutoSeq1 (wpAny_loadPart')
section
variable {prog : Program} {w : World} {A : Around} {E : Value → Shared → Prop} {s : Shared}
end
open L2
variable {X : Cx} {Z0 : Hp}
/-! ### x += e, ints -/
end DL


/-! DLQ: dict(d), d a dict. -/
namespace DL
open PySem PySem.Spec PyProof.Rows L2
variable {K : PySem.W.Frag} {X : Cx} {Z0 : Hp}
abbrev MkD := List (Key × D) → AH → DK → Prop
structure MkDOk (K : PySem.W.Frag) (mk : MkD) : Prop where
  ok : ∀ {Z : Hp} {A : AH} {H : Hp} {l : List (Key × D)} {us : List (Key × V)} {Kt : DK} {Q : VK}, RA K Z A H → us.map (·.1) = l.map (·.1) → RVs K Z (l.map (·.2)) (us.map (·.2)) → mk l A Kt → Kont K Z Kt Q → ∀ p, H p = none → Q (.ref p) (upd H p (.dK us))
end DL


/-! DLR: sorted(set(texts)). -/
namespace DL
open PySem PySem.Spec PyProof.Rows
open L2 (Ris)
/-! ### a set of texts, its table one that can be walked -/
def keyT (e : Int × Value) : Str := match e.2 with | .str k _ => k | _ => Str.empty
def TxtE (P : Program) (w : World) (e : Int × Value) : Prop := (∃ tk, e.2 = .str (keyT e) tk) ∧ e.1 = (PySem.strKind P w).hash (keyT e)
def Led (w : World) (t : SetTable) : Prop := w.params.followText "set-order" = true ∨ t.led = true
structure Txt (P : Program) (w : World) (h : Heap) (a : Addr) (ks : List Str) : Prop where
  ex : ∃ o es ep t, h.get? a = some o ∧ o.ExactSet ∧ o.data = .set es ep t ∧ (∀ e ∈ es.toList, TxtE P w e) ∧ (es.toList.map keyT).Perm ks ∧ es.size < scanBound ∧ t.fits es.size = true ∧ Ris t.place.toList ∧ Led w t
  nd : ks.Nodup
section
variable {P : Program} {w : World} {A : Around} {E : Value → Shared → Prop} {s : Shared} {a : Addr} {ks : List Str}
theorem txt_elems {l : List (Int × Value)} (g : ∀ e ∈ l, TxtE P w e) : ElemsOf (PySem.strKind P w) l := fun e he => by
  obtain ⟨⟨tk, h1⟩, h2⟩ := g e he
  refine ⟨⟨keyT e, ?_, h2⟩, ?_⟩
  · rw [h1]; exact strKind_is P w _ tk
  · rw [h1]; rfl
theorem txt_is {e : Int × Value} (g : TxtE P w e) (k : Str) : (PySem.strKind P w).is k e.2 = true ↔ keyT e = k := by
  obtain ⟨⟨tk, h1⟩, _⟩ := g
  rw [h1]
  constructor
  · intro h
    exact (PySem.strKind P w).inj _ _ _ (strKind_is P w (keyT e) tk) h
  · rintro rfl
    exact strKind_is P w _ tk
theorem Txt.at {h h' : Heap} (R : Txt P w h a ks) (k : ∀ o, h.get? a = some o → h'.get? a = some o) : Txt P w h' a ks := by
  obtain ⟨⟨o, es, ep, t, ho, r⟩, nd⟩ := R
  exact ⟨⟨o, es, ep, t, k o ho, r⟩, nd⟩
theorem put_at {h : Heap} {o : Obj} {es es' : Array (Int × Value)} {ep : Nat} {t t' : SetTable} (ho : h.get? a = some o) (hd : o.data = .set es ep t) : (h.update a (Obj.putSet es' t')).get? a = some { o with data := .set es' (ep + 1) t' } := by
  have := Heap.get?_update_self (Obj.putSet es' t') ho (by rw [putSet_of es' t' hd]; rfl)
  rwa [putSet_of es' t' hd] at this
/-- the new rows stored, laid out anew where the table is too full -/
theorem txt_store {g : Bool → Sem Unit} (hg : ∀ (b : Bool) (s₁ : Shared) (Q' : Unit → Shared → Prop), Q' () s₁ → wpAny (model P w) A (g b) Q' E s₁)
    {o : Obj} {es es1 : Array (Int × Value)} {ep : Nat} {t t2 : SetTable} {ks' : List Str} (ho : s.heap.get? a = some o) (hex : o.ExactSet) (hd : o.data = .set es ep t)
    (g1 : ∀ e ∈ es1.toList, TxtE P w e) (p1 : (es1.toList.map keyT).Perm ks') (nd : ks'.Nodup) (hb : es1.size < scanBound) (hf : t2.fits es1.size = true) (hr : Ris t2.place.toList) (hl : Led w t2) {wasDummy : Bool} {R : Option Bool → Shared → Prop}
    (hR : ∀ h', Heap.SameBut a s.heap h' → Txt P w h' a ks' → R (some true) { s with heap := h' }) :
    wpAny (model P w) A (do
        storeSet a es1 t2
        if (!wasDummy && t2.tooFull) = true then do
            g (relayAll t2 es1 (SetTable.grown es1.size)).2.2
            storeSet a (relayAll t2 es1 (SetTable.grown es1.size)).1 (relayAll t2 es1 (SetTable.grown es1.size)).2.1
            pure (some true)
          else pure (some true)) R E s := by
  have o1 := put_at (es' := es1) (t' := t2) ho hd
  have b1 := Heap.SameBut.update s.heap a (Obj.putSet es1 t2)
  refine wpAny_bind (wpAny_storeSet_of ho hd ?_ (fits_of_scanBound hb))
  split
  · have q1 := relayAll_perm t2 es1 (SetTable.grown es1.size)
    have q2 := relayAll_fits t2 es1 (SetTable.grown es1.size)
    have q3 := L2.relayAll_ris t2 es1 (SetTable.grown es1.size)
    have q4 := L2.relayAll_led t2 es1 (SetTable.grown es1.size)
    have sz : (relayAll t2 es1 (SetTable.grown es1.size)).1.size = es1.size := by rw [← Array.length_toList, q1.length_eq, Array.length_toList]
    refine wpAny_bind (hg _ _ _ ?_)
    refine wpAny_bind (wpAny_storeSet_of o1 rfl ?_ (fits_of_scanBound (by rw [sz]; exact hb)))
    refine wpAny_pure (hR _ (b1.trans (Heap.SameBut.update _ a _)) ⟨⟨_, _, _, _, put_at o1 rfl, hex, rfl, fun e he => g1 e (q1.mem_iff.mp he), (q1.map keyT).trans p1, by rw [sz]; exact hb, q2, q3, ?_⟩, nd⟩)
    exact hl.imp id fun z => by rw [q4]; exact z
  · exact wpAny_pure (hR _ b1 ⟨⟨_, _, _, _, o1, hex, rfl, g1, p1, hb, hf, hr, hl⟩, nd⟩)
theorem txt_add {k : Str} {tk : Tok} {Q : Bool → Shared → Prop} (R : Txt P w s.heap a ks) (room : ks.length + 1 < scanBound)
    (hQ : ∀ b h', Heap.SameBut a s.heap h' → Txt P w h' a (if k ∈ ks then ks else k :: ks) → Q b { s with heap := h' }) :
    wpAny (model P w) A (setAddHashed a (.str k tk) ((PySem.strKind P w).hash k)) Q E s := by
  obtain ⟨⟨o, es, ep, t, ho, hex, hd, g, pm, hb, hf, hr, hl⟩, nd⟩ := R
  have hsc : (Value.str k tk).scannable = true := rfl
  unfold setAddHashed setAddHashedIn
  refine wpAny_holding (wpAny_bind (wpAny_setState_of ho hd hf ?_))
  dsimp only
  rw [byScan_of hsc hb (txt_elems g)]
  simp only [↓reduceIte]
  unfold setAddByScan
  refine wpAny_bind ?_
  refine wpAny_bind (wpAny_rule ?_)
  refine wpAny_bind (wpAny_setScan_of (strKind_is P w k tk) ho hd hf (txt_elems g) ?_)
  cases hfi : List.findIdx? (fun e => (PySem.strKind P w).is k e.2) es.toList with
  | some j =>
    dsimp only
    obtain ⟨hj, pj, _⟩ := List.findIdx?_eq_some_iff_getElem.mp hfi
    have hk : k ∈ ks := pm.mem_iff.mp (List.mem_map.mpr ⟨_, List.getElem_mem hj, (txt_is (g _ (List.getElem_mem hj)) k).mp pj⟩)
    refine wpAny_pure (wpAny_pure (hQ _ s.heap (Heap.SameBut.refl a s.heap) ?_))
    rw [if_pos hk]
    exact ⟨⟨o, es, ep, t, ho, hex, hd, g, pm, hb, hf, hr, hl⟩, nd⟩
  | none =>
    dsimp only
    have hk : k ∉ ks := fun h => by
      obtain ⟨e, he, e2⟩ := List.mem_map.mp (pm.mem_iff.mpr h)
      have := List.findIdx?_eq_none_iff.mp hfi e he
      rw [(txt_is (g e he) k).mpr e2] at this
      cases this
    have say : ∀ (b : Bool) {s₁ : Shared} {Q' : Unit → Shared → Prop}, Q' () s₁ → wpAny (model P w) A (match b with | true => rule "set.scan.the-table-gave-way" | false => pure ()) Q' E s₁ :=
      fun b s₁ Q' q => by cases b <;> first | exact wpAny_pure q | exact wpAny_rule q
    have q1 := layNew_perm t es ((PySem.strKind P w).hash k) (.str k tk)
    have q2 := layNew_fits t es ((PySem.strKind P w).hash k) (.str k tk)
    have q3 := L2.layNew_ris t es ((PySem.strKind P w).hash k) (.str k tk) hr
    have q4 := L2.layNew_led t es ((PySem.strKind P w).hash k) (.str k tk)
    generalize layNew t es ((PySem.strKind P w).hash k) (.str k tk) = Z at q1 q2 q3 q4 ⊢
    obtain ⟨es1, t1, wasDummy, gave⟩ := Z
    dsimp only at q1 q2 q3 q4 ⊢
    rw [Array.toList_push] at q1
    have q1 : es1.toList.Perm (((PySem.strKind P w).hash k, Value.str k tk) :: es.toList) := q1.trans (List.perm_append_singleton _ _)
    have g1 : ∀ e ∈ es1.toList, TxtE P w e := fun e he => by
      rcases List.mem_cons.mp (q1.mem_iff.mp he) with rfl | z
      · exact ⟨⟨tk, rfl⟩, rfl⟩
      · exact g e z
    have p1 : (es1.toList.map keyT).Perm (k :: ks) := (q1.map keyT).trans (pm.cons k)
    have sz : es1.size = ks.length + 1 := by
      have := p1.length_eq
      rw [List.length_map, Array.length_toList, List.length_cons] at this
      exact this
    have hb1 : es1.size < scanBound := by rw [sz]; exact room
    have nd1 : (k :: ks).Nodup := List.nodup_cons.mpr ⟨hk, nd⟩
    have hl1 : Led w t1 := hl.imp id fun z => by rw [q4]; exact z
    have fin : ∀ h', Heap.SameBut a s.heap h' → Txt P w h' a (k :: ks) → Q true { s with heap := h' } := fun h' sb r => hQ true h' sb (by rw [if_neg hk]; exact r)
    refine wpAny_bind (say _ ?_)
    split
    · refine wpAny_bind ?_
      rw [hashByValue_scannable 8 hsc]
      refine wpAny_pure ?_
      refine txt_store ?_ ho hex hd g1 p1 nd1 hb1 ?_ ?_ ?_ ?_
      · intro b s₁ Q' q; cases b <;> first | exact wpAny_pure q | exact wpAny_rule q
      · first | (split <;> first | exact q2 | exact SetTable.fits_plain_off q2) | exact q2
      · first | (split <;> exact q3) | exact q3
      · first | (split <;> exact hl1) | exact hl1
      · intro h' sb r; dsimp only; exact wpAny_pure (fin h' sb r)
    · refine wpAny_bind (wpAny_pure ?_)
      simp only [↓reduceIte]
      refine txt_store ?_ ho hex hd g1 p1 nd1 hb1 q2 q3 hl1 ?_
      · intro b s₁ Q' q; cases b <;> first | exact wpAny_pure q | exact wpAny_rule q
      · intro h' sb r; dsimp only; exact wpAny_pure (fin h' sb r)
theorem txt_loop {R : Result → Shared → Prop} {I : Addr} {fp wr : List Addr} {G : Array GenState → Array GenState → Prop} {n : Nat} {Pv : Nat → Value → Prop} {St : Nat → Shared → Prop}
    (W : WalksS P w A.in1 I fp wr G n Pv St) (S : Addr) (hSf : S ∉ fp) (xs : List Str) (hn : n = xs.length) (hb : xs.length + 1 < scanBound) (hval : ∀ i v, Pv i v → ∃ k t, xs[i]? = some k ∧ v = .str k t) :
    ∀ (k i : Nat) (s : Shared), n - i = k → i ≤ n → St i s → (∃ ks, Txt P w s.heap S ks ∧ ks.length ≤ i ∧ ∀ x, x ∈ ks ↔ x ∈ xs.take i) →
      (∀ s' ks, Moved (S :: wr) G s s' → Txt P w s'.heap S ks → ks.length ≤ xs.length → (∀ x, x ∈ ks ↔ x ∈ xs) → R (.ok (.ret .none)) s') →
      codeAny (model P w) A (.builtin "set.update.loop" ⟨[.ref S, .ref I], []⟩) R s := by
  have hSw : S ∉ wr := fun h => hSf (W.sub _ h)
  have more : ∀ b ∈ wr, b ∈ S :: wr := fun b h => List.mem_cons_of_mem _ h
  intro k
  induction k with
  | zero =>
    intro i s hk hi hst ⟨ks, hS, hlen, hmem⟩ hR
    obtain rfl : i = n := by omega
    refine codeAny_builtin F.entry_set_update_loop ?_
    rw [Around.under_plainId F.plain_set_update_loop _]
    show wpAny _ A.in1 (pyNext (.ref I) >>= _) _ _ s
    refine wpAny_bind (W.done s _ _ hst fun s' hm => ?_)
    show wpAny _ A.in1 (ret Value.none) _ _ s'
    refine wpAny_pure (hR s' ks (hm.mono more) (hS.at fun o e => hm.heap S o hSw e) (by omega) fun x => ?_)
    rw [hmem x, hn, List.take_length]
  | succ k ih =>
    intro i s hk hi hst ⟨ks, hS, hlen, hmem⟩ hR
    have hlt : i < n := by omega
    refine codeAny_builtin F.entry_set_update_loop ?_
    rw [Around.under_plainId F.plain_set_update_loop _]
    show wpAny _ A.in1 (pyNext (.ref I) >>= _) _ _ s
    refine wpAny_bind (W.item i s _ _ hlt hst fun v s' hP hst' hm => ?_)
    obtain ⟨x, t, hx, rfl⟩ := hval i v hP
    have hS1 : Txt P w s'.heap S ks := hS.at fun o e => hm.heap S o hSw e
    show wpAny _ A.in1 (holding [Value.str x t] (setAdd S (.str x t)) >>= _) _ _ s'
    refine wpAny_bind (wpAny_holding ?_)
    unfold setAdd
    refine wpAny_holding ?_
    refine wpAny_bind ((PySem.strKind P w).pyHash (k := x) (strKind_is _ _ _ _) ?_)
    refine txt_add (s := { s' with toks := s'.toks + 1 }) hS1 (by omega) fun b h' sb hS2 => ?_
    have took : xs.take (i + 1) = xs.take i ++ [x] := by rw [List.take_add_one, hx]; rfl
    have hS3 : ∃ ks', Txt P w h' S ks' ∧ ks'.length ≤ i + 1 ∧ ∀ y, y ∈ ks' ↔ y ∈ xs.take (i + 1) := by
      refine ⟨_, hS2, ?_, fun y => ?_⟩
      · split
        · omega
        · rw [List.length_cons]; omega
      · rw [took, List.mem_append, List.mem_singleton, ← hmem y]
        split
        · rename_i hin
          exact ⟨.inl, fun h => h.elim id fun e => e ▸ hin⟩
        · rw [List.mem_cons]; exact Or.comm
    refine wpAny_pure ⟨plainId_quiet F.plain_set_update_loop _, ih (i + 1) _ (by omega) hlt (W.frame _ s' _ _ hst' (Nat.le_succ _) fun b hb o e => ?_) hS3 fun s2 ks2 hm2 hS4 l4 m4 => ?_⟩
    · rw [sb.2 b (fun h : b = S => hSf (by rw [← h]; exact hb))]; exact e
    · refine hR s2 ks2 (Moved.trans W.gtrans ((hm.mono more).then_heap (Nat.le_succ _) fun b o hb e => ?_) hm2) hS4 l4 m4
      rw [sb.2 b (fun h : b = S => hb (by rw [h]; exact List.mem_cons_self))]; exact e
def setObj0 (w : World) : Obj := { cls := .type "set", dict := none, data := .set #[] 0 (.fresh 0 0 (!w.params.followText "set-order")) }
theorem txt_fresh {h : Heap} (ho : h.get? a = some (setObj0 w)) : Txt P w h a [] := by
  refine ⟨⟨_, #[], 0, _, ho, ⟨rfl, rfl, rfl⟩, rfl, fun e he => (by simp at he), by simp, by decide, by rfl, List.Pairwise.nil, ?_⟩, List.nodup_nil⟩
  show _ ∨ (!w.params.followText "set-order") = true
  cases w.params.followText "set-order"
  · exact .inr rfl
  · exact .inl rfl
theorem set_init_txt {R : Result → Shared → Prop} {l S : Addr} {items : Array Value} {xs : List Str} (hh : A.handled = none) (hl : s.heap.IsList l items) (hi : StrsAre items.toList xs) (hb : xs.length + 1 < scanBound)
    (hS : s.heap.get? S = some (setObj0 w)) (hSz : s.heap.objs.size = S + 1) (hlS : l ≠ S)
    (hR : ∀ h' tk ks, (∀ b o, b ≠ S → s.heap.get? b = some o → h'.get? b = some o) → Txt P w h' S ks → ks.length ≤ xs.length → (∀ x, x ∈ ks ↔ x ∈ xs) → R (.ok (.ret .none)) { s with heap := h', toks := tk }) :
    wpAny (model P w) A.in1 (Builtin.«set.__init__» ⟨[.ref S, .ref l], []⟩)
      (fun fin s' => match fin with | .done f => R (.ok f) s' | .again c' => c'.quiet = true ∧ codeAny (model P w) A c' R s') (fun e s' => R (.error e) s') s := by
  have hn : items.size = xs.length := by
    have := StrsAre.length hi
    rw [Array.length_toList] at this
    exact this
  have hT : s.TypeIs (.ref S) "set" := ⟨_, hS, rfl⟩
  have hl1 := hl
  obtain ⟨ol, hol, hcl, nl, hdl⟩ := hl
  obtain ⟨ocls, odict, odata, oslots⟩ := ol
  simp only at hcl hdl
  subst hcl; subst hdl
  have hsls := F.sub_list_set
  have hslf := F.sub_list_frozenset
  have hne : (Value.type "list" == Value.type "dict") = false := by decide
  have hneI : l ≠ s.heap.objs.size := Nat.ne_of_lt (Heap.lt_size hol)
  have hSI : S ≠ s.heap.objs.size := by rw [hSz]; exact Nat.ne_of_lt (Nat.lt_succ_self _)
  unfold Builtin.«set.__init__» noKeywords Builtin.Frozenset.updateFrom
  generalize hPI : pyIter = PI
  wp_walk
  subst hPI
  refine wpAny_pyIter_list hl1 ?_
  refine wpAny_bind (wpAny_runValue ?_)
  have hh3 : A.in1.in1.handled = none := by simp [hh]
  refine txt_loop (A := A.in1) ((Walks.list hh3 _ l hneI items).toS) S (fun h => by
    rcases List.mem_cons.mp h with h | h
    · exact hSI h
    · exact hlS (List.mem_singleton.mp h).symm) xs hn hb (fun i v hv => ?_) (items.size - 0) 0 _ (by omega) (Nat.zero_le _) ⟨⟨_, Heap.get?_push_size _ rfl, rfl, rfl⟩, (hl1.push _)⟩ ⟨[], txt_fresh (Heap.get?_push_of_some _ hS), Nat.le_refl _, fun x => by simp⟩ fun s' ks hm hS' hlen hmem => ?_
  · have q : items.toList[i]? = some v := by rw [Array.getElem?_toList]; exact hv
    obtain ⟨t, e⟩ := SS.strs_at hi i v q
    have hi' : i < xs.length := by rw [← hn]; exact (Array.getElem?_eq_some_iff.mp hv).1
    refine ⟨xs[i], t, List.getElem?_eq_getElem hi', ?_⟩
    rw [e, List.getD_eq_getElem?_getD, List.getElem?_eq_getElem hi']; rfl
  · obtain ⟨h', g2, d2, tk2, os2⟩ := s'
    have eg : g2 = s.gens := hm.gens
    have ed : d2 = s.drawn := hm.drawn
    have eo : os2 = s.os := hm.os
    subst eg; subst ed; subst eo
    show wpAny _ _ _ _ _ _
    refine wpAny_pure ?_
    show wpAny _ _ (ret Value.none) _ _ _
    refine wpAny_pure (hR h' tk2 ks (fun b o hb' eb => hm.heap b o (fun h => ?_) (Heap.get?_push_of_some _ eb)) hS' hlen hmem)
    rcases List.mem_cons.mp h with h | h
    · exact hb' h
    · exact Nat.ne_of_lt (Heap.lt_size eb) (List.mem_singleton.mp h)
theorem call_set_txt {l : Addr} {items : Array Value} {xs : List Str} {Q : Value → Shared → Prop} (hh : A.handled = none) (hl : s.heap.IsList l items) (hi : StrsAre items.toList xs) (hb : xs.length + 1 < scanBound)
    (hQ : ∀ h' tk ks, (∀ b o, s.heap.get? b = some o → h'.get? b = some o) → Txt P w h' s.heap.objs.size ks → ks.length ≤ xs.length → (∀ x, x ∈ ks ↔ x ∈ xs) → Q (.ref s.heap.objs.size) { s with heap := h', toks := tk }) :
    wpAny (model P w) A (call (.type "set") [.ref l]) Q E s := by
  obtain ⟨c, tl, hmro⟩ := F.called_set.mro
  have hmade := F.called_set.made
  have hsub := F.called_set.sub
  refine wpAny_call (codeAny_of_tree ?_)
  show wpAny _ _ (callAny (.type "set") _) _ _ _
  refine wpAny_pure ⟨Code.quiet_builtin _ (by decide +kernel), codeAny_builtin F.entry_type_call ?_⟩
  rw [Around.under_plain (weight_type_call_type "set" [.ref l] []) rfl]
  have h1 := F.called_set.notType
  have h2 := F.called_set.canCreate
  have hct := F.typeCall_set_1 (.ref l)
  repeat (any_goals (first | assumption | wp_step))
  refine codeAny_mono (L2.code_set_led1 (.ref l) (E := E) (Q₁ := fun obj s₁ => obj = .ref s.heap.objs.size ∧ s₁ = { s with heap := s.heap.push (setObj0 w) }) ⟨rfl, rfl⟩) fun r s₁ hr => ?_
  rcases r with e | fl
  · exact hr
  cases fl <;> try exact hr.elim
  rename_i obj
  obtain ⟨rfl, rfl⟩ := hr
  have hS : (s.heap.push (setObj0 w)).get? s.heap.objs.size = some (setObj0 w) := Heap.get?_push_size _ rfl
  have hT : Shared.TypeIs { s with heap := s.heap.push (setObj0 w) } (.ref s.heap.objs.size) "set" := ⟨_, hS, rfl⟩
  have hli := F.called_set.init.lookup
  have hbi := F.called_set.init.bind (.ref s.heap.objs.size)
  repeat (any_goals (first | assumption | wp_step))
  have hlS : l < s.heap.objs.size := by
    obtain ⟨o, ho, _⟩ := hl
    exact Heap.lt_size ho
  refine codeAny_mono (codeAny_call_builtin (R := wants (fun r s₂ => r = .none ∧ Q (.ref s.heap.objs.size) s₂) E) F.called_set.init.plain F.entry_set_init (check_set_init_1 hT ?_)) fun r₂ s₂ hr₂ => ?_
  · refine set_init_txt (by simp [hh]) (hl.push _) hi hb hS (by rw [Heap.size_push]) (Nat.ne_of_lt hlS) fun h' tk ks k0 R0 l0 m0 => ⟨rfl, hQ h' tk ks (fun b o e => k0 b o (Nat.ne_of_lt (Heap.lt_size e)) (Heap.get?_push_of_some _ e)) R0 l0 m0⟩
  · rcases r₂ with e | fl₂
    · exact hr₂
    cases fl₂ <;> try exact hr₂.elim
    obtain ⟨rfl, hq⟩ := hr₂
    repeat (any_goals (first | assumption | wp_step))
/-! ### sorted -/
theorem strs_of : ∀ (l : List Value), (∀ v ∈ l, ∃ k tk, v = Value.str k tk) → StrsAre l (l.map fun v => match v with | .str k _ => k | _ => Str.empty)
  | [], _ => .nil
  | v :: l, h => by
    obtain ⟨k, tk, rfl⟩ := h v List.mem_cons_self
    exact .cons k tk (strs_of l fun u hu => h u (List.mem_cons_of_mem _ hu))
theorem sorted_txt {Q : Value → Shared → Prop} (R : Txt P w s.heap a ks) (hh : A.handled = none) (h64 : ks.length < 64)
    (hQ : ∀ s' p (out : Array Value) (c : Nat) (ys : List Str), (∀ b o, s.heap.get? b = some o → s'.heap.get? b = some o) → s'.gens = s.gens → s'.os = s.os → s.heap.objs.size ≤ p →
      s'.heap.get? p = some (seqObj "list" out c) → StrsAre out.toList ys → ys.Perm ks → sortedS ys = true → Q (.ref p) s') :
    wpAny (model P w) A (call (.builtin "sorted") [.ref a]) Q E s := by
  obtain ⟨⟨o, es, ep, t, ho, hex, hd, g, pm, hb, hf, hr, hl⟩, nd⟩ := R
  refine Calls.call_function_entry kind_sorted plain_sorted entry_sorted (args_sorted1 _) ?_
  unfold Builtin.«sorted»
  refine wpAny_bind (m := checkCount "sorted" 1 1 _) (wpAny_pure ?_)
  refine wpAny_bind (L2.collect_set (A := A.in1) hh ⟨o, ho, hex.1, hd⟩ hf hb hr hl fun s1 vs k1 hz g1 o1 pv => ?_)
  have hvl : vs.length = ks.length := by rw [pv.length_eq, List.length_map, ← pm.length_eq, List.length_map]
  have hI := strs_of vs fun v hv => by
    obtain ⟨e, he, q⟩ := List.mem_map.mp (pv.mem_iff.mp hv)
    obtain ⟨tk, h1⟩ := (g e he).1
    exact ⟨_, tk, by rw [← q]; exact h1⟩
  have pk : (vs.map fun v => match v with | .str k _ => k | _ => Str.empty).Perm ks := by
    have := pv.map fun v => match v with | .str k _ => k | _ => Str.empty
    rw [List.map_map] at this
    exact this.trans pm
  generalize vs.map (fun v => match v with | .str k _ => k | _ => Str.empty) = zs at hI pk
  refine wpAny_bind (wpAny_newList ?_ (by rw [hvl, sizeLine_eq]; omega))
  have hoL : (s1.heap.push (seqObj "list" vs.toArray 0)).get? s1.heap.objs.size = some (seqObj "list" vs.toArray 0) := Heap.get?_push_size _ rfl
  refine wpAny_bind (wpAny_holding (wpAny_call_entry slot_list_sort ⟨_, hoL, rfl⟩ entry_list_sort (list_sort_treeK strKind_oneLt hoL hI.keysOf (fun v₁ v₂ rest e => keyKind_strs (by rw [← e]; exact hI)) (by rw [hvl]; exact h64) fun st' hp hs => ⟨_, rfl, ?_⟩) (args_list_sort _)))
  obtain ⟨ys, y1, y2, y3⟩ := sorted_out_str hI hp hs
  obtain ⟨c, hc⟩ := sortedHeap_at (vs := vs) (out := (arrOf st').map (·.2)) hoL
  refine wpAny_pure ⟨_, rfl, hQ _ s1.heap.objs.size _ c ys (fun b u e => ?_) g1 o1 hz hc y1 (y2.trans pk) y3⟩
  have q := k1 b u e
  have hlt := Heap.lt_size q
  show (sortedHeap (s1.heap.push (seqObj "list" vs.toArray 0)) s1.heap.objs.size vs _).get? b = some u
  rw [sortedHeap_old (Nat.ne_of_lt hlt) (by rw [size_push']; exact Nat.lt_succ_of_lt hlt)]
  exact Heap.get?_push_of_some _ q
end
end DL
namespace DL
open PySem PySem.Spec PyProof.Rows
open L2
def TxtO (P : Program) (w : World) (a : Addr) (ks : List Str) : HO := .ext fun h => Txt P w h a ks
theorem txtO_new {P : Program} {w : World} {H : Hp} {h : Heap} {a : Addr} {ks : List Str} (R : Txt P w h a ks) : ObjOk P w H h a (TxtO P w a ks) := by
  have ⟨o, _, _, _, ho, _⟩ := R.ex
  refine ⟨R, ⟨o, ho⟩, fun h1 h2 p k => ?_⟩
  exact Txt.at p fun o e => k o e
section
variable {X : Cx} {Z0 : Hp}
/-- set(xs), xs a list of texts -/
def rSetTxt (K : PySem.W.Frag) (P : Program) (w : World) : List V → Hp → VK → Prop := fun xs H Q => ∃ (l : Addr) (zs : List Str), xs = [V.ref l] ∧ SqL K H l (zs.map V.str) ∧ zs.length < 4000 ∧
  ∀ a ks, H a = none → ks.Nodup → (∀ x, x ∈ ks ↔ x ∈ zs) → ks.length ≤ zs.length → Q (.ref a) (upd H a (TxtO P w a ks))
theorem cr_setTxt (hc : X.calm = true) : CallR X (.type "set") (rSetTxt X.K X.prog X.w) := by
  intro pins s σ H xs us Q I r h
  obtain ⟨l, zs, rfl, hl, hf, q⟩ := h
  rw [Vals.ref1 r]
  obtain ⟨its, rv, pl, hz⟩ := I.list hl
  have hn : H s.heap.objs.size = none := I.hok.fresh (Nat.le_refl _)
  refine call_set_txt (P := X.prog) (w := X.w) (I.ok.hd hc) pl.isList (by simpa using rv.strs) (by unfold scanBound; omega) fun h' tk ks k R l0 m0 => ?_
  exact ⟨.ref s.heap.objs.size, upd H s.heap.objs.size (TxtO X.prog X.w s.heap.objs.size ks), I.laid (t' := tk) k (Nat.le_refl _) (txtO_new R), rfl, q _ ks hn R.nd m0 l0⟩
/-- sorted(set) -/
def rSortTxt (P : Program) (w : World) : List V → Hp → VK → Prop := fun vs H Q => ∃ (a : Addr) (ks : List Str), vs = [V.ref a] ∧ H a = some (TxtO P w a ks) ∧ ks.length < 64 ∧
  ∀ (ys : List Str) (p : Addr), ys.Perm ks → sortedS ys = true → H p = none → Q (.ref p) (upd H p (.lst (ys.map V.str)))
theorem cr_sortTxt (hc : X.calm = true) : CallR X (.builtin "sorted") (rSortTxt X.prog X.w) := by
  intro pins s σ H vs us Q I r h
  obtain ⟨a, ks, rfl, ha, h64, q⟩ := h
  have R : Txt X.prog X.w s.heap a ks := (I.hok a _ ha).1
  rw [Vals.ref1 r]
  refine sorted_txt R (I.ok.hd hc) h64 fun s' p out c ys k g o hp hg hi hs hm => ?_
  have hlen : (ys.map V.str).length ≤ sizeLine := by rw [List.length_map, hs.length_eq, sizeLine_eq]; omega
  have hn : H p = none := I.hok.fresh hp
  have J : Inv X pins σ (upd H p (.lst (ys.map V.str))) { s with heap := s'.heap, gens := s'.gens, drawn := s'.drawn, toks := s'.toks } :=
    I.call (ch := []) (Un.laid k hp hn) (I.hok.laid k hp ⟨hlen, out.toList, c, vals_of_strs hi, hg⟩) (by rw [g]; exact I.bare) (fun _ z => nomatch z)
  have e : s' = { s with heap := s'.heap, gens := s'.gens, drawn := s'.drawn, toks := s'.toks } := by
    cases s'
    cases s
    cases o
    rfl
  rw [e]
  exact ⟨.ref p, _, J, rfl, q ys p hs hm hn⟩
def eSortSet (mk : Mk) (t : DE) : DE := fun δ A Q => t δ A fun d A1 => match (asL A1 d).bind strsD with
  | some xs => xs.length < 4000 ∧ (∀ ks : List Str, ks.Nodup → (∀ x, x ∈ ks ↔ x ∈ xs) → ks.length < 64) ∧ ∀ ys : List Str, ys.Nodup → (∀ x, x ∈ ys ↔ x ∈ xs) → sortedS ys = true → mk (ys.map .str) A1 Q
  | none => False
theorem qe_sortSet {mk : Mk} {a : Expr} {t : DE} {p p2 pos pos2 : Pos} (m : MkOk X.K mk) (hc : X.calm = true) (hg : Gl X "sorted") (hm : X.mg "sorted" = none) (hg2 : Gl X "set") (hm2 : X.mg "set" = none) (ha : QE X Z0 a t)
    (na : starEach [a] X.env = (false, eval a X.env) :: starEach [] X.env := by rfl) (nb : starEach [.Call (.Name "set" p2) [a] [] pos2] X.env = (false, eval (.Call (.Name "set" p2) [a] [] pos2) X.env) :: starEach [] X.env := by rfl) :
    QE X Z0 (.Call (.Name "sorted" p) [.Call (.Name "set" p2) [a] [] pos2] [] pos) (eSortSet mk t) :=
  PE.imp (pe_callB (cr_sortTxt hc) hg hm (by rfl) (pa_cons (pe_callTy (cr_setTxt hc) hg2 hm2 (by rfl) (pa_cons ha pa_nil na) (by decide) (by decide) na (by rfl)) pa_nil nb) (by decide) (by decide) nb (by rfl))
    fun σ H Q ⟨Z, δ, A, Kt, z, rs, ra, t, k⟩ => ⟨Z, δ, A, _, z, rs, ra, t, fun Z1 d A1 v H1 s1 ra1 rv t1 => by
      split at t1
      · rename_i xs q
        obtain ⟨h1, h2, h3⟩ := t1
        obtain ⟨l, q1, q2⟩ := Option.bind_eq_some_iff.mp q
        obtain ⟨p, us, e1, e2, e3⟩ := asL_ok ra1 rv q1
        have := strs_rvs e3 q2
        subst this
        refine ⟨p, xs, by rw [e1], e2, h1, fun a ks ha nd mem hl => ⟨a, ks, rfl, upd_same, h2 ks nd mem, fun ys q pm hs hq => ?_⟩⟩
        have sm : Same H1 (upd H1 a (TxtO X.prog X.w a ks)) := fun b u e => by rw [upd_ne (ne_of_none e ha)]; exact e
        exact m.ok (ra1.grow sm) (rvs_strs ys) (h3 ys (pm.nodup_iff.mpr nd) (fun x => (pm.mem_iff).trans (mem x)) hs) (fun Z2 d2 A2 v2 H2 s2 ra2 rv2 k2 => k Z2 d2 A2 v2 H2 (s1.trans s2) ra2 rv2 k2) q hq
      · exact t1.elim⟩
end
end DL


/-! DLS: dict(pairs), the keys unlike; list.index of a text. -/
namespace DL
open PySem PySem.Spec PyProof.Rows L2
variable {K : PySem.W.Frag} {X : Cx} {Z0 : Hp}
/-! ### where a text stands -/
end DL


/-! DLT: frozen lists taken as one's own again, at a def's own level. -/
namespace DL
open PySem PySem.Spec PyProof.Rows L2
variable {K : PySem.W.Frag} {Z Z' Z0 : Hp}
open Classical in
/-- a frozen heap without some addresses -/
noncomputable def dels (Z : Hp) (ps : List Addr) : Hp := fun a => if a ∈ ps then none else Z a
theorem dels_in {ps : List Addr} {a : Addr} (h : a ∈ ps) : dels Z ps a = none := if_pos h
theorem dels_out {ps : List Addr} {a : Addr} (h : a ∉ ps) : dels Z ps a = Z a := if_neg h
/-- tuples are read in one way -/
def Coh (K : PySem.W.Frag) (Z : Hp) : Prop := ∀ p us vs, SqT K Z p us → SqT K Z p vs → us = vs
theorem coh_of {X : Cx} {pins : List (Addr × Obj)} {σ : L2.St} {H : Hp} {s : Shared} (I : Inv X pins σ H s) (sub : Same Z H) : Coh X.K Z := fun p us vs h g => by
  obtain ⟨a, r1, ⟨o1, e1, c1, n1, d1⟩, _⟩ := I.tuple (sqT_mono sub h)
  obtain ⟨b, r2, ⟨o2, e2, c2, n2, d2⟩, _⟩ := I.tuple (sqT_mono sub g)
  rw [e1] at e2; cases e2
  rw [d1] at d2
  have : a = b := by injection d2 with q1 q2; simpa using q1
  subst this
  exact r1.inj r2
/-- no list is read as both -/
def Inc (l m : List D) : Prop := ∀ (K : PySem.W.Frag) Z vs, Coh K Z → RVs K Z l vs → RVs K Z m vs → False
mutual
def NoL (L : List (List D)) : D → Prop
  | .lst m => (∀ l ∈ L, Inc l m) ∧ NoLs L m
  | .rol m => (∀ l ∈ L, Inc l m) ∧ NoLs L m
  | .tup m => NoLs L m
  | .dic _ m => NoLs L m
  | .obj _ _ m => NoLs L m
  | _ => True
def NoLs (L : List (List D)) : List D → Prop
  | [] => True
  | d :: m => NoL L d ∧ NoLs L m
end
mutual
/-- data without lists, dicts, objects -/
def Simp : D → Prop
  | .lst _ => False
  | .rol _ => False
  | .dic _ _ => False
  | .obj _ _ _ => False
  | .ref _ => False
  | .tup m => Simps m
  | _ => True
def Simps : List D → Prop
  | [] => True
  | d :: m => Simp d ∧ Simps m
end
mutual
theorem NoL.simp {L : List (List D)} : ∀ {d : D}, Simp d → NoL L d
  | .non, _ => trivial
  | .bl _, _ => trivial
  | .int _, _ => trivial
  | .str _, _ => trivial
  | .ref _, h => h.elim
  | .lst _, h => h.elim
  | .rol _, h => h.elim
  | .dic _ _, h => h.elim
  | .obj _ _ _, h => h.elim
  | .tup m, h => NoLs.simp (l := m) h
theorem NoLs.simp {L : List (List D)} : ∀ {l : List D}, Simps l → NoLs L l
  | [], _ => trivial
  | d :: m, h => ⟨NoL.simp h.1, NoLs.simp h.2⟩
end
/-- all of these addresses hold lists read as told -/
def Holds (K : PySem.W.Frag) (Z : Hp) (as : List (Addr × List D)) : Prop := ∀ x ∈ as, ∃ vs, Z x.1 = some (.lst vs) ∧ RVs K Z x.2 vs
section
variable {as : List (Addr × List D)}
theorem Holds.lst (h : Holds K Z as) {a : Addr} (ha : a ∈ as.map (·.1)) : ∃ vs l, Z a = some (.lst vs) ∧ l ∈ as.map (·.2) ∧ RVs K Z l vs := by
  obtain ⟨x, hx, rfl⟩ := List.mem_map.mp ha
  obtain ⟨vs, h1, h2⟩ := h x hx
  exact ⟨vs, x.2, h1, List.mem_map.mpr ⟨x, hx, rfl⟩, h2⟩
theorem Holds.keep (h : Holds K Z as) {a : Addr} {o : HO} (e : Z a = some o) (hn : ∀ vs, o ≠ .lst vs) : dels Z (as.map (·.1)) a = some o := by
  rw [dels_out fun ha => ?_, e]
  obtain ⟨vs, _, h1, _⟩ := h.lst ha
  rw [e] at h1; exact hn vs (Option.some.inj h1)
theorem rd_keep (h : Holds K Z as) {a : Addr} {u : HO} (hn : ∀ vs, u ≠ .lst vs) (r : Rd Z a u) : Rd (dels Z (as.map (·.1))) a u := by
  rcases r with r | ⟨o, r⟩
  · exact .inl (h.keep r hn)
  · exact .inr ⟨o, h.keep r fun vs e => by cases e⟩
mutual
theorem RV.dels (co : Coh K Z) (h : Holds K Z as) : ∀ {d : D} {v : V}, NoL (as.map (·.2)) d → RV K Z d v → RV K (DL.dels Z (as.map (·.1))) d v
  | .non, _, _, r => by simpa only [RV] using r
  | .bl _, _, _, r => by simpa only [RV] using r
  | .int _, _, _, r => by simpa only [RV] using r
  | .str _, _, _, r => by simpa only [RV] using r
  | .ref _, _, _, r => by simpa only [RV] using r
  | .tup m, v, n, r => by
    obtain ⟨p, vs, h1, h2, h3⟩ := rv_tup r
    simp only [RV]
    exact ⟨p, vs, h1, h2.imp (rd_keep h fun _ e => by cases e) id, RVs.dels co h n h3⟩
  | .lst m, v, n, r => by
    obtain ⟨p, vs, h1, h2, h3⟩ := rv_lst r
    simp only [RV]
    refine ⟨p, vs, h1, ?_, RVs.dels co h n.2 h3⟩
    rw [dels_out fun hp => ?_, h2]
    obtain ⟨us, l, e1, e2, e3⟩ := h.lst hp
    rw [h2] at e1; cases e1
    exact n.1 l e2 K Z vs co e3 h3
  | .rol m, v, n, r => by
    obtain ⟨p, vs, h1, h2, h3⟩ := rv_rol r
    simp only [RV]
    refine ⟨p, vs, h1, ?_, RVs.dels co h n.2 h3⟩
    rcases h2 with (h2 | ⟨o, h2⟩) | h2
    · refine .inl (.inl ?_)
      rw [dels_out fun hp => ?_, h2]
      obtain ⟨us, l, e1, e2, e3⟩ := h.lst hp
      rw [h2] at e1; cases e1
      exact n.1 l e2 K Z vs co e3 h3
    · exact .inl (.inr ⟨o, h.keep h2 fun vs e => by cases e⟩)
    · exact .inr h2
  | .dic ks m, v, n, r => by
    obtain ⟨p, kvs, h1, h2, h3, h4⟩ := rv_dic r
    simp only [RV]
    exact ⟨p, kvs, h1, h.keep h2 (fun vs e => by cases e), h3, RVs.dels co h n h4⟩
  | .obj c ns m, v, n, r => by
    obtain ⟨p, dx, fs, h1, h2, h3, h4⟩ := rv_obj r
    simp only [RV]
    exact ⟨p, dx, fs, h1, h.keep h2 (fun vs e => by cases e), h3, RVs.dels co h n h4⟩
theorem RVs.dels (co : Coh K Z) (h : Holds K Z as) : ∀ {l : List D} {vs : List V}, NoLs (as.map (·.2)) l → RVs K Z l vs → RVs K (DL.dels Z (as.map (·.1))) l vs
  | [], vs, _, r => by rw [r.inv0]; exact .nil
  | d :: l, vs, n, r => by
    obtain ⟨v, u, rfl, r1, r2⟩ := r.inv
    exact .cons (RV.dels co h n.1 r1) (RVs.dels co h n.2 r2)
end
/-- what an object holds, without such lists -/
def NoLO (L : List (List D)) : AO → Prop
  | .lst l => NoLs L l
  | .dic kvs => NoLs L (kvs.map (·.2))
  | .obj _ fs => NoLs L (fs.map (·.2))
  | .tk _ _ => False
theorem RO.dels (co : Coh K Z) (h : Holds K Z as) {H : Hp} {a : Addr} {o : AO} (n : NoLO (as.map (·.2)) o) (r : RO K Z H a o) : RO K (DL.dels Z (as.map (·.1))) H a o := by
  cases o with
  | lst l => obtain ⟨vs, h1, h2⟩ := r; exact ⟨vs, h1, h2.dels co h n⟩
  | dic kvs => obtain ⟨us, h1, h2, h3⟩ := r; exact ⟨us, h1, h2, h3.dels co h n⟩
  | obj c fs => obtain ⟨dx, us, h1, h2, h3⟩ := r; exact ⟨dx, us, h1, h2, h3.dels co h n⟩
  | tk hf kvs => exact n.elim
end
/-! ### lists of a value taken as one's own -/
mutual
inductive Th : D → D → List (Addr × List D) → Prop
  | atom {d} : Simp d → Th d d []
  | lst {l p} : Simps l → Th (.lst l) (.ref p) [(p, l)]
  | tup {l l2 as} : Ths l l2 as → Th (.tup l) (.tup l2) as
inductive Ths : List D → List D → List (Addr × List D) → Prop
  | nil : Ths [] [] []
  | cons {d d2 as l l2 bs} : Th d d2 as → Ths l l2 bs → Ths (d :: l) (d2 :: l2) (as ++ bs)
end
mutual
def lof : D → List (List D)
  | .lst l => [l]
  | .tup m => lofs m
  | _ => []
def lofs : List D → List (List D)
  | [] => []
  | d :: m => lof d ++ lofs m
end
/-- a value's lists told by their addresses -/
structure ThR (K : PySem.W.Frag) (Z : Hp) (d d2 : D) (as : List (Addr × List D)) (v : V) : Prop where
  th : Th d d2 as
  ls : as.map (·.2) = lof d
  hd : Holds K Z as
  sm : ∀ x ∈ as, Simps x.2
  rv : RV K Z d2 v
  nl : ∀ L, NoL L d2
structure ThRs (K : PySem.W.Frag) (Z : Hp) (l l2 : List D) (as : List (Addr × List D)) (vs : List V) : Prop where
  th : Ths l l2 as
  ls : as.map (·.2) = lofs l
  hd : Holds K Z as
  sm : ∀ x ∈ as, Simps x.2
  rv : RVs K Z l2 vs
  nl : ∀ L, NoLs L l2
theorem ThR.atom {d : D} {v : V} (h : Simp d) (hl : lof d = []) (r : RV K Z d v) : ThR K Z d d [] v := ⟨.atom h, hl.symm, fun _ h => (nomatch h), fun _ h => (nomatch h), r, fun _ => .simp h⟩
def AH.puts (A : AH) : List (Addr × List D) → AH
  | [] => A
  | x :: as => (AH.puts A as).put x.1 (.lst x.2)
theorem AH.puts_out {A : AH} {a : Addr} : ∀ {as : List (Addr × List D)}, a ∉ as.map (·.1) → A.puts as a = A a
  | [], _ => rfl
  | x :: as, h => by
    rw [List.map_cons, List.mem_cons, not_or] at h
    unfold AH.puts
    rw [AH.put_ne _ _ h.1]
    exact AH.puts_out h.2
theorem AH.puts_in {A : AH} {a : Addr} : ∀ {as : List (Addr × List D)}, a ∈ as.map (·.1) → ∃ x ∈ as, x.1 = a ∧ A.puts as a = some (.lst x.2)
  | [], h => (nomatch h)
  | x :: as, h => by
    unfold AH.puts
    by_cases hx : a = x.1
    · subst hx; exact ⟨x, List.mem_cons_self, rfl, AH.put_same ..⟩
    · rw [AH.put_ne _ _ hx]
      rw [List.map_cons, List.mem_cons] at h
      obtain ⟨y, hy, h1, h2⟩ := AH.puts_in (h.resolve_left hx)
      exact ⟨y, List.mem_cons_of_mem _ hy, h1, h2⟩
/-- slots forgotten -/
abbrev Fgt : DSt → DSt → Prop := Paired fun a b => b = none ∨ b = a
theorem RS.fgt {δ δ1 : DSt} {σ : L2.St} (f : Fgt δ δ1) : RS K Z δ σ → RS K Z δ1 σ := by
  intro h
  induction f generalizing σ with
  | nil => exact h
  | cons r t ih =>
    cases h with
    | cons h1 h2 =>
      refine .cons ?_ (ih h2)
      rcases r with rfl | rfl
      · trivial
      · exact h1
theorem RS.dels {as : List (Addr × List D)} (co : Coh K Z) (hh : Holds K Z as) {δ : DSt} {σ : L2.St} (n : ∀ x ∈ δ, ∀ d, x = some d → NoL (as.map (·.2)) d) (h : RS K Z δ σ) : RS K (DL.dels Z (as.map (·.1))) δ σ := by
  induction h with
  | nil => exact .nil
  | cons r t ih =>
    rename_i a b l l'
    refine .cons ?_ (ih fun x hx => n x (List.mem_cons_of_mem _ hx))
    cases a with
    | none => trivial
    | some d => cases b with
      | none => exact r
      | some v => exact RV.dels co hh (n _ List.mem_cons_self d rfl) r
/-- what a def's own rows keep: what stood at its beginning alone -/
def liftP (K : PySem.W.Frag) (Z0 : Hp) (t : DS) : TS := fun DV σ H => ∃ Z δ A DD, Same Z0 Z ∧ RS K Z δ σ ∧ RA K Z A H ∧ t DD δ A ∧ RE K Z0 DD DV
abbrev QP (X : Cx) (Z0 : Hp) (st : List Stmt) (t : DS) : Prop := PSs X st (liftP X.K Z0 t)
section
variable {X : Cx} {st : Stmt} {rest : List Stmt} {t u : DS}
theorem qp_of (h : QSs X Z0 rest t) : QP X Z0 rest t := PSs.imp h fun DV σ H ⟨Z, δ, A, DD, z, rs, ra, t, re⟩ => ⟨Z, δ, A, DD, z, rs, ra, t, re.mono z⟩
theorem qp_cons (h1 : QS X Z0 st t) (h2 : QP X Z0 rest u) : QP X Z0 (st :: rest) (sSeq t u) := PSs.imp (pss_cons h1 h2) fun D σ H ⟨Z, δ, A, DD, z, rs, ra, t, re⟩ =>
  ⟨Z, δ, A, { DD with nx := u DD }, z, rs, ra, t, ⟨fun Z1 δ1 A1 σ1 H1 s1 rs1 ra1 t1 => ⟨Z1, δ1, A1, DD, z.trans s1, rs1, ra1, t1, re⟩, (re.mono z).rt, (re.mono z).bk, (re.mono z).ct⟩⟩
theorem RS.put {δ : DSt} {σ : L2.St} {i : Nat} {d : D} {v : V} (h : RS K Z δ σ) (hv : σ[i]? = some (some v)) (r : RV K Z d v) : RS K Z (δ.set i (some d)) σ := by
  have := RS.set i h (a := some d) (b := some v) r
  have e : σ.set i (some v) = σ := by
    apply List.ext_getElem?
    intro j
    rw [List.getElem?_set]
    split
    · rename_i hj; subst hj
      split
      · exact hv.symm
      · rename_i hl; exact (List.getElem?_eq_none (by omega)).symm
    · rfl
  rw [e] at this; exact this
end
/-! ### the law's def over a clean heap -/
def CleanZ (Z : Hp) : Prop := ∀ a vs, Z a ≠ some (.lst vs)
def CleanA (A : AH) : Prop := ∀ a o, A a = some o → ∃ l : List Int, o = .lst (l.map .int)
def liftSpC (K : PySem.W.Frag) (sp : DSp) : Sp := fun vs H Q E => ∃ Z ds A Kt Ex, CleanZ Z ∧ RVs K Z ds vs ∧ RA K Z A H ∧ sp ds A Kt Ex ∧
  (∀ Z' d A' v H', Same Z Z' → RA K Z' A' H' → RV K Z' d v → Kt d A' → Q v H') ∧
  (∀ Z' c fs A' cv dd H', Same Z Z' → RA K Z' A' H' → RX K Z' c fs cv dd → Ex c fs A' → E cv dd H')
def spLawC : DSp := fun ds A Q _ => ∃ (ns : List Int) (d : D), ds = [d] ∧ asL A d = some (ns.map .int) ∧ ns.length ≤ 63 ∧ CleanA A ∧ ∀ A', Q (.bl true) A'
theorem sp_endC {H : Hp} {a : Addr} {ns : List Int} (hl : ns.length ≤ 63) (hS : SqL K H a (ns.map V.int)) : liftSpC K spLawC [.ref a] H (fun v _ => v = .bl true) (fun _ _ _ => False) := by
  have fin : ∀ (Z : Hp) (d : D) (A : AH), CleanZ Z → RV K Z d (.ref a) → RA K Z A H → asL A d = some (ns.map .int) → CleanA A → liftSpC K spLawC [.ref a] H (fun v _ => v = .bl true) (fun _ _ _ => False) := fun Z d A c r ra e ca =>
    ⟨Z, [d], A, fun d _ => d = .bl true, fun _ _ _ => False, c, .cons r .nil, ra, ⟨ns, d, rfl, e, hl, ca, fun _ => rfl⟩, by rintro Z' d A' v H' _ _ rv rfl; exact rv_bl rv, fun _ _ _ _ _ _ _ _ _ _ q => q⟩
  rcases hS with (h | ⟨o, h⟩) | h
  · refine fin (fun _ => none) (.ref a) (fun b => if b = a then some (.lst (ns.map .int)) else none) (fun _ _ e => (nomatch e)) mk_ref ⟨fun _ _ e => (nomatch e), fun b o e => ⟨rfl, ?_⟩⟩ ?_ (fun b o e => ?_)
    · split at e
      · rename_i hb; cases e; subst hb; exact ⟨_, h, rvs_ints ns⟩
      · cases e
    · show (match (if a = a then some (AO.lst (ns.map .int)) else none) with | some (.lst l) => some l | _ => none) = _
      rw [if_pos rfl]
    · simp only at e
      split at e
      · cases e; exact ⟨ns, rfl⟩
      · cases e
  · refine fin (fun b => if b = a then some (.frz o (.lst (ns.map V.int))) else none) (.rol (ns.map .int)) (fun _ => none) (fun b vs e => ?_) ?_ ⟨fun b u e => ?_, fun _ _ e => (nomatch e)⟩ rfl (fun _ _ e => (nomatch e))
    · simp only at e
      split at e <;> cases e
    · rw [RV]; exact ⟨a, _, rfl, .inl (.inr ⟨o, if_pos rfl⟩), rvs_ints ns⟩
    · split at e
      · rename_i hb; cases e; subst hb; exact h
      · cases e
  · refine fin (fun _ => none) (.rol (ns.map .int)) (fun _ => none) (fun _ _ e => (nomatch e)) ?_ ⟨fun _ _ e => (nomatch e), fun _ _ e => (nomatch e)⟩ rfl (fun _ _ e => (nomatch e))
    rw [RV]; exact ⟨a, _, rfl, .inr h, rvs_ints ns⟩
end DL


/-! DLU: methods whose last values are left out. -/
namespace DL
open PySem PySem.Spec PyProof.Rows L2
variable {K : PySem.W.Frag} {X : Cx} {Z0 : Hp} {k j : Nat}
structure DMethD (P : Program) (w : World) (K : PySem.W.Frag) (mg : Str → Option Value) (base : Heap) (k : Nat) (c m : String) (sp : DSp) (dvs : List D) : Prop where
  ex : ∃ (f : Addr) (fd : FuncData) (ps : List Str) (ds : List Value) (ws : List V), Cls K (He.ga K (Str.ofString c)) ∧ Meth K (He.ga K (Str.ofString c)) (Str.ofString m) f ∧ FnOk P w K mg base (CX P w) k f fd ps (liftSp K sp) ∧ Binds K fd ps ds ∧ Vals ws ds ∧ ∀ Z, RVs K Z dvs ws
end DL


/-! DLV: sorted(d.items()), the keys texts, the values tuples. -/
namespace DL
open PySem PySem.W PySem.Calls PyProof.Rows PyProof.V PySem.Spec DT
section
variable {prog : Program} {w : World} {A : Around} {E : Value → Shared → Prop} {s : Shared}
end
end DL
namespace DL
open PySem PySem.Spec PyProof.Rows L2 DX
section
variable {X : Cx}
end

/-! ### a rank of texts -/
section
variable {X : Cx} {Z0 : Hp} {K : PySem.W.Frag}
end
end DL


/-! DLW: two values' lists taken back at once. -/
namespace DL
open PySem PySem.Spec PyProof.Rows L2
section
variable {K : PySem.W.Frag} {Z Z' Z0 : Hp} {X : Cx} {st : Stmt} {rest : List Stmt} {t u : DS}
end
end DL


/-! DLY: try with several clauses 'except C as e', e one name for all. -/
namespace L2
open PySem PySem.Spec PyProof.Rows
/-- what such clauses wish of an exception of the body, one after the other -/
def wManyAs (K : PySem.W.Frag) (i : Nat) (Wout : WX) (D : Ends) : List (Value × (Addr → Value → Option Addr → TS)) → WX
  | [] => Wout
  | (c, ts) :: r => fun cls d σ H => ∃ b, PySem.W.exmOne K cls c = some b ∧
    (b = true → ∀ a, H a = none → ts a cls d { nx := fun σ' H' => D.nx (σ'.set i none) H', rt := D.rt, bk := fun σ' H' => D.bk (σ'.set i none) H', ct := fun σ' H' => D.ct (σ'.set i none) H' } (σ.set i (some (.ref a))) H) ∧
    (b = false → wManyAs K i Wout D r cls d σ H)
inductive HdsAs (X : Cx) (n : Str) : List ExceptHandler → List (Value × (Addr → Value → Option Addr → TS)) → Prop
  | nil : HdsAs X n [] []
  | cons {x : Str} {c : Value} {ts : Addr → Value → Option Addr → TS} {b0 : Stmt} {suite : List Stmt} {np pos' : Pos} {hds : List ExceptHandler} {l : List (Value × (Addr → Value → Option Addr → TS))} (hc : Names X x c)
      (hsu : ∀ (a : Addr) (oe : Obj) (cls : Value) (d : Option Addr) (pn : List (Addr × Obj)), Zc cls d oe → (∃ vs, oe.data = .fields vs) → PSs (X.suite a ((a, oe) :: pn)) (b0 :: suite) (ts a cls d)) (r : HdsAs X n hds l) :
      HdsAs X n (.ExceptHandler (some (.Name x np)) (some n) (b0 :: suite) pos' :: hds) ((c, ts) :: l)
section
variable {X : Cx} {n : Str} {i : Nat} {body : List Stmt} {h0 : ExceptHandler} {hds : List ExceptHandler} {l : List (Value × (Addr → Value → Option Addr → TS))} {pos : Pos} {tb : WX → TS} {Wout : WX}
/-- an exception of the body (at a, of the class cls), as the clauses meet it: the body's state without it is σ, H -/
def Met (X : Cx) (pins : List (Addr × Obj)) (a : Addr) (cls : Value) (d : Option Addr) (σ : St) (H : Hp) (s : Shared) : Prop :=
  ∃ B s0, Inv X pins σ H s0 ∧ (∀ b o, s0.heap.get? b = some o → b ∉ frs X.stack → B.get? b = some o) ∧ s0.heap.UpToSlots s.heap ∧ HandSPX.FlyingZ B (X.env :: X.outer) a (Zc cls d) s.heap ∧ H a = none ∧ s.os = s0.os ∧ AllBare s.gens
section
variable {pins : List (Addr × Obj)} {a : Addr} {cls : Value} {d : Option Addr} {σ : St} {H : Hp} {s : Shared} {D : Ends}
/-- its object, and the state with it pinned -/
theorem Met.held (m : Met X pins a cls d σ H s) (hf : X.env.frame = some X.env.locals) : H a = none ∧
    ∃ oe, s.heap.get? a = some oe ∧ Zc cls d oe ∧ (∃ vs, oe.data = .fields vs) ∧ Inv (X.suite a ((a, oe) :: (X.pn ++ pins))) [] σ H s := by
  obtain ⟨B, s0, I, keepB, up, fly, na, hos, bare⟩ := m
  refine ⟨na, ?_⟩
  obtain ⟨oe, vs, look, isZ, flds⟩ := fly.there
  have far : a ∉ frs (X.env :: X.outer) := by
    intro inFr
    obtain ⟨x, ob, at_, noFlds⟩ := fly.2.2.1.mem inFr
    rw [look] at at_
    cases at_
    exact noFlds _ flds
  refine ⟨oe, look, isZ, ⟨vs, flds⟩, (I.landed keepB fly.1 up hos bare).suite look flds na (fun e => far ?_) fun hx => far ?_⟩
  · exact List.mem_filterMap.mpr ⟨_, List.mem_cons_self, hf.trans (congrArg some e.symm)⟩
  · obtain ⟨v, hv, e⟩ := List.mem_filterMap.mp hx
    exact List.mem_filterMap.mpr ⟨v, List.mem_cons_of_mem _ hv, e⟩
theorem Met.inv (m : Met X pins a cls d σ H s) : Inv X pins σ H s := by
  obtain ⟨B, s0, I, keepB, up, fly, _, hos, bare⟩ := m
  exact I.landed keepB fly.1 up hos bare
/-- no clause takes it -/
theorem Met.out (m : Met X pins a cls d σ H s) (hs : X.stack = X.env :: X.outer) (hf : X.env.frame = some X.env.locals) (tk : Takes X Wout) (w : Wout cls d σ H) (Q : Flow → Shared → Prop) :
    wpAny (model X.prog X.w) X.A (handleBy (.ref a) X.env []) Q X.xe s := by
  obtain ⟨B, s0, I, keepB, up, fly, na, hos, bare⟩ := m
  apply wpAny_handleBy_nil
  have fly' := fly
  obtain ⟨_, _, _, oe, vs, T, oT, us, look, _, flds, one, _⟩ := fly'
  unfold PySem.passOn
  apply wpAny_bind
  refine wpAny_field look flds one ?_
  have notNone : ¬ ((Value.ref T == Value.none) = true) := by simp
  rw [if_neg notNone]
  have thrown : wpAny (model X.prog X.w) X.A (setFlight (.ref a) X.env.frame) (fun _ t => wpAny (model X.prog X.w) X.A (throw (.ref a) : Sem Flow) Q X.xe t) X.xe s := by
    rw [hf]
    refine HandSPX.setFlight_upZ fly fun hp kept upp => ?_
    refine wpAny_throw (tk _ _ ⟨a, B, s0, pins, σ, H, cls, d, rfl, I, keepB, up.trans upp, ?_, na, hos, bare, w⟩)
    rw [hs]
    exact Or.inr (Or.inr kept)
  first
    | exact wpAny_bind thrown
    | exact wpAny_bind (wpAny_pure (wpAny_bind thrown))
/-- one clause is asked -/
theorem Met.clause {x : Str} {c : Value} {ts : Addr → Value → Option Addr → TS} {b0 : Stmt} {suite : List Stmt} {np ep : Pos} {b : Bool} (m : Met X pins a cls d σ H s) (ok : X.Ok) (hf : X.env.frame = some X.env.locals) (hN : X.N.Nodup) (hi : X.N[i]? = some n) (hln : X.env.kindOf n = some .local) (hc : Names X x c)
    (hsu : ∀ (a : Addr) (oe : Obj) (cls : Value) (d : Option Addr) (pn : List (Addr × Obj)), Zc cls d oe → (∃ vs, oe.data = .fields vs) → PSs (X.suite a ((a, oe) :: pn)) (b0 :: suite) (ts a cls d)) (tells : PySem.W.exmOne X.K cls c = some b)
    (yes : b = true → ts a cls d { nx := fun σ' H' => D.nx (σ'.set i none) H', rt := D.rt, bk := fun σ' H' => D.bk (σ'.set i none) H', ct := fun σ' H' => D.ct (σ'.set i none) H' } (σ.set i (some (.ref a))) H)
    (no : b = false → wpAny (model X.prog X.w) X.A (handleBy (.ref a) X.env hds) (SP X pins D) X.xe s) :
    wpAny (model X.prog X.w) X.A (handleBy (.ref a) X.env (.ExceptHandler (some (.Name x np)) (some n) (b0 :: suite) ep :: hds)) (SP X pins D) X.xe s := by
  obtain ⟨_, oe, look, isZ, _, S⟩ := m.held hf
  refine wpAny_handleBy_cons (codeAny_handlers_test ?_) (fun z => nomatch z)
  have named : ∀ {Q E : Value → Shared → Prop}, Q c s → wpAny (model X.prog X.w) (X.A.mark (some (.ref a))) (eval (.Name x np) X.env) Q E s := by
    intro Q E q
    rcases hc with ⟨gl, dbg, h | ⟨h, boot, nn⟩⟩
    · exact ld_glob (X := X.suite a ((a, oe) :: (X.pn ++ pins))) S gl h q dbg
    · exact ld_blt (X := X.suite a ((a, oe) :: (X.pn ++ pins))) S gl h boot q nn dbg
  have typ : PySem.W.Looks (model X.prog X.w) s.heap (typeOf (.ref a)) cls := fun _ _ _ _ there q => wpAny_typeOf_ref (there _ _ look) (by rw [isZ.1]; exact q)
  refine named ((PySem.W.exm_one (M := model X.prog X.w) m.inv.kIn typ tells).here ?_)
  cases b with
  | false => exact no rfl
  | true =>
    refine codeAny_handlers_suite_as ?_
    obtain ⟨B, s0, I, keepB, up, fly, na, hos, bare⟩ := m
    refine HandSPX.lands_againZ fly fun hp fly2 up2 => ?_
    have m2 : Met X pins a cls d σ H { s with heap := hp } := ⟨B, s0, I, keepB, up.trans up2, fly2, na, hos, bare⟩
    obtain ⟨_, oe2, _, isZ2, hasF, S2⟩ := m2.held hf
    refine store_ok (X := X.suite a ((a, oe2) :: (X.pn ++ pins))) (v := .ref a) S2 hN hi (Or.inl hln) rfl (fun t Sx => ?_) (Or.inr hln)
    refine wpAny_mono ((hsu a oe2 cls d (X.pn ++ pins) isZ2 hasF).run [] t _ H _ Sx (yes rfl)) (fun f u => ?_) fun _ _ z => z.elim
    have gone : ∀ {σ3 : St} {H3 : Hp} {P : Shared → Prop}, Inv (X.suite a ((a, oe2) :: (X.pn ++ pins))) [] σ3 H3 u → (∀ v, Inv X pins (σ3.set i none) H3 v → P v) →
        wpAny (model X.prog X.w) X.A (do bindName X.env n .none; unbindBehindTheSuite X.env n ep) (fun _ v => P v) X.xe u := by
      intro σ3 H3 P S3 hP
      exact gone_ok (S3.unsuite ok) hN hi hln hP
    cases f with
    | next => rintro ⟨_, _, S3, q⟩; exact gone S3 fun v J => ⟨_, _, J, q⟩
    | brk => rintro ⟨_, _, S3, q⟩; exact gone S3 fun v J => ⟨_, _, J, q⟩
    | cont => rintro ⟨_, _, S3, q⟩; exact gone S3 fun v J => ⟨_, _, J, q⟩
    | ret r => rintro ⟨_, _, _, S3, rel, q⟩; exact gone S3 fun v J => ⟨_, _, _, J, rel, q⟩
/-- the clauses, one after the other -/
theorem Met.clauses (ok : X.Ok) (hs : X.stack = X.env :: X.outer) (hf : X.env.frame = some X.env.locals) (hN : X.N.Nodup) (hi : X.N[i]? = some n) (hln : X.env.kindOf n = some .local) (tk : Takes X Wout) (m : Met X pins a cls d σ H s) (hk : HdsAs X n hds l) :
    wManyAs X.K i Wout D l cls d σ H → wpAny (model X.prog X.w) X.A (handleBy (.ref a) X.env hds) (SP X pins D) X.xe s := by
  induction hk with
  | nil => exact fun w => m.out hs hf tk w _
  | cons hc hsu _ ih =>
    rintro ⟨b, tells, yes, no⟩
    exact m.clause ok hf hN hi hln hc hsu tells (fun e => yes e a (m.held hf).1) fun e => ih (no e)
end
end
end L2
namespace DL
open PySem PySem.Spec PyProof.Rows L2
variable {K : PySem.W.Frag} {Z Z' Z0 : Hp} {X : Cx}
section
variable {x x2 n : Str} {c c2 : Value} {i : Nat} {body suite suite2 : List Stmt} {b0 b2 : Stmt} {np np2 pos pos' pos2 : Pos} {tb : DW → DS} {ts ts2 : Addr → String → List (String × D) → DS} {w : DW} {sub sub2 : String → Option Bool}
end
end DL


/-! DLZ: text.split(sep). -/
namespace DL
open PySem PySem.Spec PyProof.Rows L2
variable {K : PySem.W.Frag} {Z Z' Z0 : Hp} {X : Cx}
/-! ### a dict of the module, its keys and values texts -/
abbrev TabS : Type := List (Str × Str)
def Told (K : PySem.W.Frag) (d : Addr) (tab : TabS) : Prop := ∀ z : Str, ∃ r, PySem.W.nsIn K d z = some r ∧ (match tab.lookup z with
  | some v => ∃ t, r = some (.str v t)
  | none => r = none)
section
variable {a : Expr} {ta : DE} {x : Str} {d : Addr} {tab : TabS} {es : Array DictEntry} {n : Nat} {p pos : Pos}
end
/-! ### the head's facts with such dicts beside -/
end DL


/-! DM0: dicts whose keys are pairs of a text and a truth. -/
namespace DL
open PySem PySem.Spec PyProof.Rows L2
variable {K : PySem.W.Frag} {X : Cx} {Z0 : Hp}
abbrev KP := Str × Bool
class HashT where
  hf : Str → Bool → Int
section
variable {pins : List (Addr × Obj)} {σ : L2.St} {H : Hp} {s : Shared} {a p : Addr} {A : Around} {E : Value → Shared → Prop} {us : List (KP × Addr × V)} {k : KP}
end
/-! ### readings -/
section
variable {a b : Expr} {pos : Pos} {ta tb : DE}
end
end DL


/-! DM1: zip of a text and a list; text.index(text). -/
namespace DL
open PySem PySem.Spec PyProof.Rows L2
variable {K : PySem.W.Frag} {Z : Hp} {X : Cx} {Z0 : Hp}
/-! ### text.index(text) -/
/-! ### a text among the keys of the module's dict, as a test -/
section
variable {a : Expr} {ta : DE} {x : Str} {d : Addr} {tab : TabS} {es : Array DictEntry} {n : Nat} {p pos : Pos}
end
end DL


/-! FT: names, fractions told, ties. -/
namespace FR
open PySem PySem.Spec PyProof.Rows L2 DL
def isIntD : D → Bool
  | .int _ => true
  | _ => false
def nameB (z : Str) : Bool := decide (1 ≤ z.length ∧ z.length ≤ 8) && z.cps.toList.all fun c => decide (97 ≤ c ∧ c ≤ 122)
def fracB : D → Bool
  | .tup [.int a, .int b] => decide (1 ≤ b) && decide (Int.gcd a b = 1)
  | _ => false
def tyOk (A : AH) : D → Bool
  | .tup l => l.all fun d => (tyD A d).isSome
  | d => (tyD A d).isSome
theorem fracB_eq (d : D) : fracB d = (deFr d).isSome := by
  unfold fracB
  split
  · rename_i a b
    show _ = (if h : 0 < b ∧ a.natAbs.gcd b.natAbs = 1 then some (⟨a, b.natAbs, by omega, h.2⟩ : Rat) else none).isSome
    by_cases h : 0 < b ∧ a.natAbs.gcd b.natAbs = 1
    · rw [dif_pos h]
      have h1 : 1 ≤ b := by omega
      have h2 : Int.gcd a b = 1 := h.2
      simp [h1, h2]
    · rw [dif_neg h]
      by_cases h1 : 1 ≤ b
      · have h2 : ¬ Int.gcd a b = 1 := fun e => h ⟨by omega, e⟩
        simp [h2]
      · simp [h1]
  · rename_i h
    unfold deFr
    split
    · rename_i a b; exact absurd rfl (h a b)
    · rfl
@[simp] theorem fracB_fr (q : Rat) : fracB (frD q) = true := by rw [fracB_eq, deFr_frD]; rfl
@[simp] theorem tyOk_fr {A : AH} (q : Rat) : tyOk A (frD q) = true := by unfold frD; simp [tyOk]
/-! ### ties -/
structure TieV where
  name : Str
  start : Str
  fin : Str
  low : Option Rat
  high : Option Rat
def obD : Option Rat → D
  | none => .non
  | some q => frD q
theorem obD_inj : ∀ {a b : Option Rat}, obD a = obD b → a = b
  | none, none, _ => rfl
  | none, some _, h => by simp [obD, frD] at h
  | some _, none, h => by simp [obD, frD] at h
  | some a, some b, h => by rw [frD_inj h]
@[simp] theorem obD_none : obD none = .non := rfl
@[simp] theorem obD_some (q : Rat) : obD (some q) = frD q := rfl
/-- a tie's plain tuple -/
def tieD (t : TieV) : D := .tup [.str t.name, .str t.start, .str t.fin, obD t.low, obD t.high]
def leOb : Option Rat → Option Rat → Bool
  | some l, some h => decide (l ≤ h)
  | _, _ => true
structure TieV.Ok (t : TieV) : Prop where
  n1 : nameB t.name = true
  n2 : nameB t.start = true
  n3 : nameB t.fin = true
  ne : t.start ≠ t.fin
  le : leOb t.low t.high = true
def TieV.Sm (t : TieV) : Prop := (∀ q, t.low = some q → FR.Sm q) ∧ ∀ q, t.high = some q → FR.Sm q
def deOb : D → Option (Option Rat)
  | .non => some none
  | d => (deFr d).map some
@[simp] theorem deOb_obD (o : Option Rat) : deOb (obD o) = some o := by
  cases o with
  | none => rfl
  | some q =>
    have e : deOb (frD q) = (deFr (frD q)).map some := by rw [frD_def]; rfl
    show deOb (frD q) = _
    rw [e, deFr_frD]; rfl
theorem deOb_ok {d : D} {o : Option Rat} (h : deOb d = some o) : d = obD o := by
  unfold deOb at h
  split at h
  · cases h; rfl
  · obtain ⟨q, h1, h2⟩ := Option.map_eq_some_iff.mp h
    subst h2
    exact deFr_ok h1
def TieV.okB (t : TieV) : Bool := nameB t.name && (nameB t.start && (nameB t.fin && (!(t.start == t.fin) && leOb t.low t.high)))
theorem TieV.okB_iff (t : TieV) : t.okB = true ↔ t.Ok := by
  unfold TieV.okB
  simp only [Bool.and_eq_true, Bool.not_eq_true', beq_eq_false_iff_ne]
  exact ⟨fun ⟨a, b, c, d, e⟩ => ⟨a, b, c, d, e⟩, fun ⟨a, b, c, d, e⟩ => ⟨a, b, c, d, e⟩⟩
/-- what a thing is a tie's tuple of -/
def deTie : D → Option TieV
  | .tup [.str a, .str b, .str c, l, h] => (match deOb l, deOb h with
    | some lo, some hi => if (TieV.okB ⟨a, b, c, lo, hi⟩) = true then some ⟨a, b, c, lo, hi⟩ else none
    | _, _ => none)
  | _ => none
theorem deTie_tie {t : TieV} (h : t.Ok) : deTie (tieD t) = some t := by
  unfold tieD deTie
  simp only [deOb_obD]
  rw [if_pos ((TieV.okB_iff _).mpr h)]
def TieV.cls (t : TieV) : String := match t.low, t.high with
  | none, none => "Free"
  | some _, none => "AtLeast"
  | none, some _ => "AtMost"
  | some l, some h => if l = h then "Just" else "Between"
def TieV.flds (t : TieV) : List (String × D) := [("name", .str t.name), ("start", .str t.start), ("end", .str t.fin)] ++ match t.low, t.high with
  | none, none => []
  | some l, none => [("least", frD l)]
  | none, some h => [("greatest", frD h)]
  | some l, some h => if l = h then [("size", frD l)] else [("least", frD l), ("greatest", frD h)]
/-- a tie's object -/
@[irreducible] def tieO (t : TieV) : D := .obj t.cls (t.flds.map (·.1)) (t.flds.map (·.2))
theorem zip_maps {α β : Type} : ∀ l : List (α × β), (l.map (·.1)).zip (l.map (·.2)) = l
  | [] => rfl
  | (a, b) :: l => by simp [zip_maps l]
@[simp] theorem asObj_tie {A : AH} (t : TieV) : asObj A (tieO t) = some (t.cls, t.flds) := by
  unfold tieO; rw [asObj_obj, zip_maps]
theorem tieO_inj {t u : TieV} (h : tieO t = tieO u) : t = u := by
  have e : some (t.cls, t.flds) = some (u.cls, u.flds) := by rw [← asObj_tie (A := fun _ => none) t, h, asObj_tie]
  simp only [Option.some.injEq, Prod.mk.injEq] at e
  obtain ⟨e1, e2⟩ := e
  obtain ⟨a, b, c, l, hh⟩ := t
  obtain ⟨a2, b2, c2, l2, h2⟩ := u
  unfold TieV.flds at e2
  unfold TieV.cls at e1
  simp only [List.cons_append, List.nil_append, List.cons.injEq, Prod.mk.injEq, D.str.injEq, true_and] at e2
  obtain ⟨rfl, rfl, rfl, e2⟩ := e2
  cases l <;> cases hh <;> cases l2 <;> cases h2 <;> simp only at e1 e2 <;> try rfl
  all_goals
    first
    | (exfalso; split at e1 <;> exact absurd e1 (by decide))
    | (exfalso; exact absurd e1 (by decide))
    | (exfalso; split at e1 <;> first | exact absurd e1 (by decide) | (split at e1 <;> exact absurd e1 (by decide)))
    | (simp only [List.cons.injEq, Prod.mk.injEq, true_and, and_true] at e2; rw [frD_inj e2])
    | skip
  rename_i a1 b1 a2 b2
  split at e2
  · rename_i q1
    split at e2
    · rename_i q2
      simp only [List.cons.injEq, Prod.mk.injEq, true_and, and_true] at e2
      have := frD_inj e2
      rw [← q1, ← q2, this]
    · simp at e2
  · split at e2
    · simp at e2
    · simp only [List.cons.injEq, Prod.mk.injEq, true_and, and_true] at e2
      rw [frD_inj e2.1, frD_inj e2.2]
theorem cls5 (t : TieV) : t.cls = "Free" ∨ t.cls = "AtLeast" ∨ t.cls = "AtMost" ∨ t.cls = "Just" ∨ t.cls = "Between" := by
  unfold TieV.cls
  split
  · exact .inl rfl
  · exact .inr (.inl rfl)
  · exact .inr (.inr (.inl rfl))
  · split
    · exact .inr (.inr (.inr (.inl rfl)))
    · exact .inr (.inr (.inr (.inr rfl)))
@[simp] theorem flds_name (t : TieV) : lookS "name" t.flds = some (.str t.name) := by rw [lookS_eq]; rfl
@[simp] theorem flds_start (t : TieV) : lookS "start" t.flds = some (.str t.start) := by rw [lookS_eq]; rfl
@[simp] theorem flds_end (t : TieV) : lookS "end" t.flds = some (.str t.fin) := by rw [lookS_eq]; rfl
theorem flds_no (t : TieV) {m : String} (h : m ≠ "name" ∧ m ≠ "start" ∧ m ≠ "end" ∧ m ≠ "least" ∧ m ≠ "greatest" ∧ m ≠ "size") : lookS m t.flds = none := by
  rw [lookS_eq]
  obtain ⟨h1, h2, h3, h4, h5, h6⟩ := h
  unfold TieV.flds
  have b : ∀ {a c : String}, a ≠ c → (a == c) = false := fun h => beq_eq_false_iff_ne.mpr h
  split <;> (try split) <;> simp [List.lookup, b h1, b h2, b h3, b h4, b h5, b h6]
def nameD : D → Bool
  | .str z => nameB z
  | _ => false
theorem nameD_ok {d : D} (h : nameD d = true) : ∃ z, d = .str z ∧ nameB z = true := by
  cases d <;> first | exact ⟨_, rfl, h⟩ | cases h
theorem tyOk_ty {A : AH} {d : D} (h : tyOk A d = true) : (tyD A d).isSome = true := by
  cases d <;> first | exact h | rfl
/-- what may be asked whether it is a tie -/
def TieIn (A : AH) (d : D) : Prop := (tyD A d).isSome = true ∧ ∀ l, d = .tup l → l.length = 5 → ∀ x ∈ l, tyOk A x = true ∧ (∀ z, x = .str z → Few z.length ∧ PyData.strOk z = true) ∧ ∀ q, x = frD q → Sm q
theorem nameB_few {z : Str} (h : nameB z = true) : Few z.length ∧ PyData.strOk z = true := by
  unfold nameB at h
  simp only [Bool.and_eq_true, decide_eq_true_eq] at h
  refine ⟨by show _ < _; omega, ?_⟩
  unfold PyData.strOk
  rw [Array.all_eq_true_iff_forall_mem]
  intro x hx
  have := List.all_eq_true.mp h.2 x (by simpa using hx)
  simp only [decide_eq_true_eq] at this
  exact decide_eq_true (by omega)
theorem tyOk_ob {A : AH} (o : Option Rat) : tyOk A (obD o) = true := by
  cases o with
  | none => rfl
  | some q => exact tyOk_fr q
theorem tieIn_tie {A : AH} {t : TieV} (h : t.Ok) (s : t.Sm) : TieIn A (tieD t) := by
  refine ⟨rfl, fun l e _ x hx => ?_⟩
  unfold tieD at e
  cases e
  have str : ∀ z, nameB z = true → tyOk A (.str z) = true ∧ (∀ y, D.str z = .str y → Few y.length ∧ PyData.strOk y = true) ∧ ∀ q, D.str z = frD q → Sm q := fun z hz =>
    ⟨rfl, fun y e => by cases e; exact nameB_few hz, fun q e => by rw [frD_def] at e; cases e⟩
  have ob : ∀ o, (∀ q, o = some q → Sm q) → tyOk A (obD o) = true ∧ (∀ y, obD o = .str y → Few y.length ∧ PyData.strOk y = true) ∧ ∀ q, obD o = frD q → Sm q := fun o ho =>
    ⟨tyOk_ob o, fun y e => (by
      cases o with
      | none => exact nomatch e
      | some q => rw [obD_some, frD_def] at e; exact nomatch e), fun q e => ho q (obD_inj (b := some q) e)⟩
  simp only [List.mem_cons, List.not_mem_nil, or_false] at hx
  rcases hx with rfl | rfl | rfl | rfl | rfl
  · exact str _ h.n1
  · exact str _ h.n2
  · exact str _ h.n3
  · exact ob _ s.1
  · exact ob _ s.2
@[simp] theorem putD_nil (f : String) (d : D) : putD f d [] = [(f, d)] := rfl
@[simp] theorem putD_cons (f g : String) (d x : D) (r : List (String × D)) : putD f d ((g, x) :: r) = if g = f then (g, d) :: r else (g, x) :: putD f d r := rfl
end FR


/-! DM3: lists taken as one's own within a def that is called: what stood at its beginning holds lists of other kinds alone. -/
namespace DL
open PySem PySem.Spec PyProof.Rows L2
variable {K : PySem.W.Frag} {Z Z' Z0 : Hp} {P : List D → Prop}
mutual
/-- data whose lists are of a kind -/
def KD (P : List D → Prop) : D → Prop
  | .lst m => P m ∧ KDs P m
  | .rol m => P m ∧ KDs P m
  | .tup m => KDs P m
  | .dic _ m => KDs P m
  | .obj _ _ m => KDs P m
  | _ => True
def KDs (P : List D → Prop) : List D → Prop
  | [] => True
  | d :: m => KD P d ∧ KDs P m
end
mutual
theorem KD.simp : ∀ {d : D}, Simp d → KD P d
  | .non, _ => trivial
  | .bl _, _ => trivial
  | .int _, _ => trivial
  | .str _, _ => trivial
  | .ref _, h => h.elim
  | .lst _, h => h.elim
  | .rol _, h => h.elim
  | .dic _ _, h => h.elim
  | .obj _ _ _, h => h.elim
  | .tup m, h => KDs.simp (l := m) h
theorem KDs.simp : ∀ {l : List D}, Simps l → KDs P l
  | [], _ => trivial
  | d :: m, h => ⟨KD.simp h.1, KDs.simp h.2⟩
end
open Classical in
/-- a frozen heap without the lists of other kinds -/
noncomputable def cl (K : PySem.W.Frag) (P : List D → Prop) (Z : Hp) : Hp := fun a => if ∃ vs, Z a = some (.lst vs) ∧ ¬ ∃ l, RVs K Z l vs ∧ P l ∧ KDs P l then none else Z a
theorem cl_keep {a : Addr} {o : HO} (e : Z a = some o) (hn : ∀ vs, o ≠ .lst vs) : cl K P Z a = some o := by
  unfold cl
  rw [if_neg, e]
  rintro ⟨vs, h, _⟩
  rw [e] at h
  exact hn vs (Option.some.inj h)
theorem cl_lst {a : Addr} {vs : List V} {l : List D} (e : Z a = some (.lst vs)) (r : RVs K Z l vs) (h : P l) (k : KDs P l) : cl K P Z a = some (.lst vs) := by
  unfold cl
  rw [if_neg, e]
  rintro ⟨us, h2, h3⟩
  rw [e] at h2
  have : vs = us := by injection h2 with q; injection q
  subst this
  exact h3 ⟨l, r, h, k⟩
theorem cl_in {a : Addr} {o : HO} (h : cl K P Z a = some o) : Z a = some o ∧ ∀ vs, o = .lst vs → ∃ l, RVs K Z l vs ∧ P l ∧ KDs P l := by
  unfold cl at h
  split at h
  · cases h
  · rename_i hn
    refine ⟨h, fun vs e => ?_⟩
    subst e
    exact Classical.byContradiction fun q => hn ⟨vs, h, q⟩
theorem cl_sub : Same (cl K P Z) Z := fun a o h => (cl_in h).1
theorem rd_cl {a : Addr} {u : HO} (hn : ∀ vs, u ≠ .lst vs) (r : Rd Z a u) : Rd (cl K P Z) a u := by
  rcases r with r | ⟨o, r⟩
  · exact .inl (cl_keep r hn)
  · exact .inr ⟨o, cl_keep r fun vs e => by cases e⟩
mutual
theorem RV.cl : ∀ {d : D} {v : V}, KD P d → RV K Z d v → RV K (DL.cl K P Z) d v
  | .non, _, _, r => by simpa only [RV] using r
  | .bl _, _, _, r => by simpa only [RV] using r
  | .int _, _, _, r => by simpa only [RV] using r
  | .str _, _, _, r => by simpa only [RV] using r
  | .ref _, _, _, r => by simpa only [RV] using r
  | .tup m, v, n, r => by
    obtain ⟨p, vs, h1, h2, h3⟩ := rv_tup r
    simp only [RV]
    exact ⟨p, vs, h1, h2.imp (rd_cl fun _ e => by cases e) id, RVs.cl n h3⟩
  | .lst m, v, n, r => by
    obtain ⟨p, vs, h1, h2, h3⟩ := rv_lst r
    simp only [RV]
    exact ⟨p, vs, h1, cl_lst h2 h3 n.1 n.2, RVs.cl n.2 h3⟩
  | .rol m, v, n, r => by
    obtain ⟨p, vs, h1, h2, h3⟩ := rv_rol r
    simp only [RV]
    refine ⟨p, vs, h1, ?_, RVs.cl n.2 h3⟩
    rcases h2 with (h2 | ⟨o, h2⟩) | h2
    · exact .inl (.inl (cl_lst h2 h3 n.1 n.2))
    · exact .inl (.inr ⟨o, cl_keep h2 fun vs e => by cases e⟩)
    · exact .inr h2
  | .dic ks m, v, n, r => by
    obtain ⟨p, kvs, h1, h2, h3, h4⟩ := rv_dic r
    simp only [RV]
    exact ⟨p, kvs, h1, cl_keep h2 (fun vs e => by cases e), h3, RVs.cl n h4⟩
  | .obj c ns m, v, n, r => by
    obtain ⟨p, dx, fs, h1, h2, h3, h4⟩ := rv_obj r
    simp only [RV]
    exact ⟨p, dx, fs, h1, cl_keep h2 (fun vs e => by cases e), h3, RVs.cl n h4⟩
theorem RVs.cl : ∀ {l : List D} {vs : List V}, KDs P l → RVs K Z l vs → RVs K (DL.cl K P Z) l vs
  | [], vs, _, r => by rw [r.inv0]; exact .nil
  | d :: l, vs, n, r => by
    obtain ⟨v, u, rfl, r1, r2⟩ := r.inv
    exact .cons (RV.cl n.1 r1) (RVs.cl n.2 r2)
end
/-- all lists are of a kind -/
def CleanP (K : PySem.W.Frag) (P : List D → Prop) (Z : Hp) : Prop := ∀ a vs, Z a = some (.lst vs) → ∃ l, RVs K Z l vs ∧ P l
theorem cleanP_cl : CleanP K P (cl K P Z) := fun a vs h => by
  obtain ⟨h1, h2⟩ := cl_in h
  obtain ⟨l, r, h, k⟩ := h2 vs rfl
  exact ⟨l, r.cl k, h⟩
theorem cl_clean (c : CleanZ Z0) (s : Same Z0 Z) : Same Z0 (cl K P Z) := fun a o h => cl_keep (s _ _ h) fun vs e => c a vs (by rw [h, e])
/-- what an object holds, of that kind -/
def KO (P : List D → Prop) : AO → Prop
  | .lst l => KDs P l
  | .dic kvs => KDs P (kvs.map (·.2))
  | .obj _ fs => KDs P (fs.map (·.2))
  | .tk _ _ => False
theorem RO.cl {H : Hp} {a : Addr} {o : AO} (n : KO P o) (r : RO K Z H a o) : RO K (DL.cl K P Z) H a o := by
  cases o with
  | lst l => obtain ⟨vs, h1, h2⟩ := r; exact ⟨vs, h1, h2.cl n⟩
  | dic kvs => obtain ⟨us, h1, h2, h3⟩ := r; exact ⟨us, h1, h2, h3.cl n⟩
  | obj c fs => obtain ⟨dx, us, h1, h2, h3⟩ := r; exact ⟨dx, us, h1, h2, h3.cl n⟩
  | tk hf kvs => exact n.elim
theorem RA.cl {A : AH} {H : Hp} (n : ∀ a o, A a = some o → KO P o) (r : RA K Z A H) : RA K (DL.cl K P Z) A H := ⟨fun a o h => r.sub a o (cl_sub a o h), fun a o h => by
  obtain ⟨h1, h2⟩ := r.at_ a o h
  refine ⟨?_, h2.cl (n a o h)⟩
  cases q : DL.cl K P Z a with
  | none => rfl
  | some u => rw [cl_sub a u q] at h1; cases h1⟩
/-- a def's promise where all that stands frozen is of a kind -/
def liftSpP (K : PySem.W.Frag) (P : List D → Prop) (sp : DSp) : Sp := fun vs H Q E => ∃ Z ds A Kt Ex, CleanP K P Z ∧ RVs K Z ds vs ∧ RA K Z A H ∧ sp ds A Kt Ex ∧
  (∀ Z' d A' v H', Same Z Z' → RA K Z' A' H' → RV K Z' d v → Kt d A' → Q v H') ∧
  (∀ Z' c fs A' cv dd H', Same Z Z' → RA K Z' A' H' → RX K Z' c fs cv dd → Ex c fs A' → E cv dd H')
structure DFnP (P : Program) (w : World) (K : PySem.W.Frag) (mg : Str → Option Value) (base : Heap) (k : Nat) (x : Str) (PL : List D → Prop) (sp : DSp) : Prop where
  ex : ∃ (f : Addr) (fd : FuncData) (ps : List Str), FnOk P w K mg base (CX P w) k f fd ps (liftSpP K PL sp) ∧ mg x = some (.ref f) ∧ PySem.W.keepIn K (.ref f) = true ∧ Binds K fd ps []
theorem cl_into (s : Same (cl K P Z) Z') : Same (cl K P Z) (cl K P Z') := fun a o h => by
  obtain ⟨h1, h2⟩ := cl_in h
  by_cases hl : ∃ vs, o = .lst vs
  · obtain ⟨vs, rfl⟩ := hl
    obtain ⟨l, r, q, k⟩ := h2 vs rfl
    exact cl_lst (s _ _ h) ((r.cl k).mono s) q k
  · exact cl_keep (s _ _ h) fun vs e => hl ⟨vs, e⟩
/-- for x in ..: if not f(a, b, x): return .., where all tell True; no slot is looked at behind -/
def sForP (P : List D → Prop) (te : DE) (sp : DSp) (i1 i2 j : Nat) (t : DS) : DS := fun DD δ A => te δ A fun d A1 => ∃ (l : List D) (d1 d2 : D) (A2 : AH), d = .lst l ∧ P l ∧ δ[i1]? = some (some d1) ∧ δ[i2]? = some (some d2) ∧ j < δ.length ∧ i1 ≠ j ∧ i2 ≠ j ∧ KD P d1 ∧ KD P d2 ∧ (∀ a o, A2 a = some o → A1 a = some o) ∧ (∀ a o, A2 a = some o → KO P o) ∧
  (∀ d ∈ l, KD P d ∧ sp [d1, d2, d] A2 (fun r A' => r = .bl true ∧ A' = A2) (fun _ _ _ => False)) ∧ t DD (List.replicate δ.length none) A2
theorem rs_none : ∀ {σ : L2.St}, RS K Z (List.replicate σ.length none) σ
  | [] => .nil
  | _ :: _ => .cons trivial rs_none
theorem kds_of {l : List D} (h : ∀ d ∈ l, KD P d) : KDs P l := by
  induction l with
  | nil => trivial
  | cons x l ih => exact ⟨h x List.mem_cons_self, ih fun d hd => h d (List.mem_cons_of_mem _ hd)⟩
theorem qp_forP {X : Cx} {rest : List Stmt} {t : DS} {te : DE} {iter e1 e2 e3 : Expr} {st : Stmt} {x y : Str} {p0 p1 p2 p3 p4 p5 : Pos} {k jr i1 i2 j : Nat} {sp : DSp} {w : DW} (hZ : CleanZ Z0)
    (hp : PassesOwn (model X.prog X.w) X.A X.env X.xe) (hc : X.calm = true) (hi : QE X Z0 iter te) (hN : X.N.Nodup) (hj : X.N[j]? = some y) (hx : Loc X.env.scope y)
    (F : DFnP X.prog X.w X.K X.mg X.base k x P sp) (hr : Room jr X.A) (hk : k ≤ jr) (hg : Gl X x) (tk : Takes X (liftW X.K Z0 w))
    (h1 : PE X e1 (tVar i1)) (h2 : PE X e2 (tVar i2)) (h3 : PE X e3 (tVar j)) (hrest : QP X Z0 rest t)
    (hf : X.fn y = true ∨ X.env.scope.names.lookup y = some .local := by first | exact .inl rfl | exact .inr rfl | assumption)
    (hdb : (x == ("__debug__" : Str)) = false := by decide)
    (a1 : starEach [e1, e2, e3] X.env = (false, eval e1 X.env) :: starEach [e2, e3] X.env := by rfl) (a2 : starEach [e2, e3] X.env = (false, eval e2 X.env) :: starEach [e3] X.env := by rfl) (a3 : starEach [e3] X.env = (false, eval e3 X.env) :: starEach [] X.env := by rfl)
    (hpl : (backTo p1 (starEach [e2, e3] X.env)).any (·.1) = false := by rfl)
    (hs : ∀ z, foldedSetIterable iter X.env z = pure z := by intro _; rfl)
    (ht : ∀ whole, isTrue (.Call (.Name x p0) [e1, e2, e3] [] p1) X.env whole = (do let v ← whole; standAt (Expr.pos (.Call (.Name x p0) [e1, e2, e3] [] p1)); holding [v] (truthy v)) := by intro _; rfl) :
    QP X Z0 (.For (.Name y p2) iter [.If (.UnaryOp .Not (.Call (.Name x p0) [e1, e2, e3] [] p1) p3) [st] [] p4] [] p5 :: rest) (sForP P te sp i1 i2 j t) := by
  obtain ⟨f, fd, ps, F, hm, kp, b⟩ := F.ex
  have hcall := pe_callSD F (hr.mono hk) hg hm kp b .nil (fun σ => passAt tk σ) (pa_cons h1 (pa_cons h2 (pa_cons h3 pa_nil a3) a2) a1) (p := p0) (pos := p1) hdb a1 hpl
  have hbody := pss_one (ps_if (pos := p4) (pt_not (pos := p3) (pt_truth hcall ht)) (pss_one (ps_never (st := st))) pss_nil)
  refine PSs.imp (pss_cons (ps_for (pos := p5) hp hc (pi_seqH hi) (pg_name (pos := p2) hN hj hx hf) hbody hs) hrest) fun D σ H ⟨Z, δ, A, DD, z, rs, ra, t0, re⟩ => ?_
  refine ⟨Z, δ, A, _, z, rs, ra, t0, fun Z1 d A1 v H1 s1 ra1 rv t1 => ?_⟩
  obtain ⟨l, d1, d2, A2, rfl, pl, g1, g2, jl, n1, n2, kd1, kd2, sb, ko, hl, hn⟩ := t1
  have ra1 := ra1.same sb
  obtain ⟨pa, vs, rfl, e2, e3⟩ := rv_lst rv
  have kl : KDs P l := kds_of fun d hd => (hl d hd).1
  have rs1 := rs.mono s1
  obtain ⟨v1, q1, r1⟩ := rs1.get g1
  obtain ⟨v2, q2, r2⟩ := rs1.get g2
  have hlen := rs.len
  have r1b := RV.cl kd1 r1
  have r2b := RV.cl kd2 r2
  have eb : cl X.K P Z1 pa = some (.lst vs) := cl_lst e2 e3 pl kl
  have e3b := e3.cl kl
  refine ⟨pa, rfl, .inl ⟨vs, SqL.of (ra1.sub _ _ e2), ?_⟩⟩
  obtain ⟨G, Y, wk, hG, hY⟩ := (walkD_list (a := pa) (g := fun _ => True) e3b fun Z' A H s ra _ => SqL.of (ra.sub _ _ (s _ _ eb))).ex
  refine ⟨fun i m σ' H' => m = l.length - i ∧ i ≤ l.length ∧ σ'.length = σ.length ∧ (∀ n, n ≠ j → σ'[n]? = σ[n]?) ∧ ∃ Z2, Same (cl X.K P Z1) Z2 ∧ RA X.K Z2 A2 H', ⟨l.length, by omega, Nat.zero_le _, rfl, fun _ _ => rfl, Z1, cl_sub, ra1⟩, fun i m σ' H' ⟨em, hi, hl', hσ, Z2, s2, ra2⟩ => ?_⟩
  by_cases hlt : i < l.length
  · refine .inr ⟨wk.goes i H' hlt (hG Z2 A2 H' s2 ra2 trivial), fun σ2 H2 => σ2.length = σ.length ∧ (∀ n, n ≠ j → σ2[n]? = σ[n]?) ∧ ∃ Z2, Same (cl X.K P Z1) Z2 ∧ RA X.K Z2 A2 H2, fun σ2 H2 ⟨b1, b2, b3⟩ => ⟨l.length - (i + 1), by omega, rfl, hlt, b1, b2, b3⟩, fun u H2 hy => ?_⟩
    obtain ⟨Z3, d, s3, ra3, hd, rv3⟩ := hY i Z2 A2 H' u H2 hlt s2 ra2 trivial (wk.yields i H' u H2 hlt (hG Z2 A2 H' s2 ra2 trivial) hy)
    have hdm : d ∈ l := List.mem_of_getElem? hd
    obtain ⟨kd, hsp⟩ := hl d hdm
    have sc : Same (cl X.K P Z1) (cl X.K P Z3) := cl_into (s2.trans s3)
    have jl' : j < σ'.length := by omega
    have hσ2 : ∀ n, n ≠ j → (σ'.set j (some u))[n]? = σ[n]? := fun n hn => by rw [List.getElem?_set_ne (Ne.symm hn)]; exact hσ n hn
    refine ⟨v1, by rw [hσ2 i1 n1]; exact q1, v2, by rw [hσ2 i2 n2]; exact q2, u, List.getElem?_set_self jl', cl X.K P Z3, [d1, d2, d], A2, _, _, cleanP_cl, .cons (r1b.mono sc) (.cons (r2b.mono sc) (.cons (RV.cl kd rv3) .nil)), RA.cl ko ra3, hsp, ?_, fun _ _ _ _ _ _ _ _ _ _ q => q.elim⟩
    rintro Z4 r A4 v H4 s4 ra4 rv4 ⟨rfl, rfl⟩
    refine ⟨true, by rw [rv_bl rv4]; exact rfl, ?_⟩
    exact ⟨by rw [List.length_set]; exact hl', hσ2, Z4, sc.trans s4, ra4⟩
  · have ei : i = l.length := by omega
    subst ei
    refine .inl ⟨wk.stops H' (hG Z2 A2 H' s2 ra2 trivial), Z2, List.replicate δ.length none, A2, DD, (cl_clean hZ (z.trans s1)).trans s2, ?_, ra2, hn, re⟩
    have : δ.length = σ'.length := by omega
    rw [this]
    exact rs_none
end DL


/-! DM4: a list of rows, each with a list at its end, taken as one's own. -/
namespace DL
open PySem PySem.Spec PyProof.Rows L2
variable {K : PySem.W.Frag} {Z Z' Z0 : Hp} {P : List D → Prop}
section
variable {L : List (List D)}
mutual
theorem NoL.kd (h : ∀ l ∈ L, ∀ m, P m → Inc l m) : ∀ {d : D}, KD P d → NoL L d
  | .non, _ => trivial
  | .bl _, _ => trivial
  | .int _, _ => trivial
  | .str _, _ => trivial
  | .ref _, _ => trivial
  | .lst m, k => ⟨fun l hl => h l hl m k.1, NoLs.kd h k.2⟩
  | .rol m, k => ⟨fun l hl => h l hl m k.1, NoLs.kd h k.2⟩
  | .dic _ m, k => NoLs.kd h (l := m) k
  | .obj _ _ m, k => NoLs.kd h (l := m) k
  | .tup m, k => NoLs.kd h (l := m) k
theorem NoLs.kd (h : ∀ l ∈ L, ∀ m, P m → Inc l m) : ∀ {l : List D}, KDs P l → NoLs L l
  | [], _ => trivial
  | d :: m, k => ⟨NoL.kd h k.1, NoLs.kd h k.2⟩
end
theorem NoLO.kd (h : ∀ l ∈ L, ∀ m, P m → Inc l m) {o : AO} (k : KO P o) : NoLO L o := by
  cases o with
  | lst l => exact NoLs.kd h k
  | dic kvs => exact NoLs.kd h k
  | obj c fs => exact NoLs.kd h k
  | tk hf kvs => exact k.elim
end
theorem inc_nil {l : List D} (h : l ≠ []) : Inc l [] := fun K Z vs _ r q => by
  have h1 := r.len
  have h2 := q.len
  exact h (List.length_eq_zero_iff.mp (by rw [← h1, h2]; rfl))
abbrev Row := D × D × List D
def rowD (x : Row) : D := .tup [x.1, x.2.1, .lst x.2.2]
/-- rows whose lists are one's own (the empty ones as they stood) -/
def Thw (A1 A2 : AH) (p : Addr) : List Row → List D → Prop
  | [], [] => True
  | x :: R, y :: S => (∃ e, y = .tup [x.1, x.2.1, e] ∧ ((x.2.2 = [] ∧ e = .lst []) ∨ (x.2.2 ≠ [] ∧ ∃ q, e = .ref q ∧ q ≠ p ∧ A1 q = none ∧ A2 q = some (.lst x.2.2)))) ∧ Thw A1 A2 p R S
  | _, _ => False
/-- the rows' lists by their addresses -/
def Rel (qs : List (Addr × List D)) : List Row → List D → Prop
  | [], [] => True
  | x :: R, y :: S => (∃ e, y = .tup [x.1, x.2.1, e] ∧ ((x.2.2 = [] ∧ e = .lst []) ∨ (x.2.2 ≠ [] ∧ ∃ q, e = .ref q ∧ (q, x.2.2) ∈ qs))) ∧ Rel qs R S
  | _, _ => False
theorem Rel.mono {qs rs : List (Addr × List D)} (h : ∀ x ∈ qs, x ∈ rs) : ∀ {R : List Row} {S : List D}, Rel qs R S → Rel rs R S
  | [], [], _ => trivial
  | [], _ :: _, q => q.elim
  | _ :: _, [], q => q.elim
  | x :: R, y :: S, ⟨⟨e, h1, h2⟩, q⟩ => ⟨⟨e, h1, h2.imp id fun ⟨n, a, b, c⟩ => ⟨n, a, b, h _ c⟩⟩, q.mono h⟩
theorem rows_ex : ∀ {R : List Row} {vs : List V}, RVs K Z (R.map rowD) vs → ∃ qs S, Rel qs R S ∧ RVs K Z S vs ∧ Holds K Z qs ∧ ∀ y ∈ qs, ∃ x ∈ R, x.2.2 = y.2 ∧ x.2.2 ≠ []
  | [], vs, r => ⟨[], [], trivial, r, fun _ h => (nomatch h), fun _ h => (nomatch h)⟩
  | x :: R, vs, r => by
    rw [List.map_cons] at r
    obtain ⟨v, us, rfl, r1, r2⟩ := r.inv
    obtain ⟨qs, S, h1, h2, h3, h4⟩ := rows_ex r2
    unfold rowD at r1
    obtain ⟨pt, ws, rfl, ht, h5⟩ := rv_tup r1
    obtain ⟨w1, ws1, rfl, a1, h6⟩ := h5.inv
    obtain ⟨w2, ws2, rfl, a2, h7⟩ := h6.inv
    obtain ⟨w3, ws3, rfl, a3, h8⟩ := h7.inv
    by_cases hc : x.2.2 = []
    · refine ⟨qs, .tup [x.1, x.2.1, .lst []] :: S, ⟨⟨_, rfl, .inl ⟨hc, rfl⟩⟩, h1⟩, .cons (mk_tup ht (.cons a1 (.cons a2 (.cons (by rw [hc] at a3; exact a3) h8)))) h2, h3, fun y hy => ?_⟩
      obtain ⟨z, hz, e⟩ := h4 y hy
      exact ⟨z, List.mem_cons_of_mem _ hz, e⟩
    · obtain ⟨q, cs, rfl, hq, rq⟩ := rv_lst a3
      refine ⟨(q, x.2.2) :: qs, .tup [x.1, x.2.1, .ref q] :: S, ⟨⟨_, rfl, .inr ⟨hc, q, rfl, List.mem_cons_self⟩⟩, h1.mono fun y hy => List.mem_cons_of_mem _ hy⟩, .cons (mk_tup ht (.cons a1 (.cons a2 (.cons mk_ref h8)))) h2, fun y hy => ?_, fun y hy => ?_⟩
      · rcases List.mem_cons.mp hy with rfl | hy
        · exact ⟨cs, hq, rq⟩
        · exact h3 y hy
      · rcases List.mem_cons.mp hy with rfl | hy
        · exact ⟨x, List.mem_cons_self, rfl, hc⟩
        · obtain ⟨z, hz, e⟩ := h4 y hy
          exact ⟨z, List.mem_cons_of_mem _ hz, e⟩
theorem Rel.thw {qs : List (Addr × List D)} {A1 A2 : AH} {p : Addr} (h : ∀ q c, (q, c) ∈ qs → q ≠ p ∧ A1 q = none ∧ A2 q = some (.lst c)) : ∀ {R : List Row} {S : List D}, Rel qs R S → Thw A1 A2 p R S
  | [], [], _ => trivial
  | [], _ :: _, q => q.elim
  | _ :: _, [], q => q.elim
  | x :: R, y :: S, ⟨⟨e, h1, h2⟩, q⟩ => ⟨⟨e, h1, h2.imp id fun ⟨n, a, b, c⟩ => ⟨n, a, b, (h _ _ c).1, (h _ _ c).2.1, (h _ _ c).2.2⟩⟩, q.thw h⟩
theorem Rel.nol {qs : List (Addr × List D)} {L : List (List D)} (hL : ∀ l ∈ L, l ≠ []) : ∀ {R : List Row} {S : List D}, (∀ x ∈ R, Simp x.1 ∧ Simp x.2.1) → Rel qs R S → NoLs L S
  | [], [], _, _ => trivial
  | [], _ :: _, _, q => q.elim
  | _ :: _, [], _, q => q.elim
  | x :: R, y :: S, hs, ⟨⟨e, h1, h2⟩, q⟩ => by
    obtain ⟨s1, s2⟩ := hs x List.mem_cons_self
    refine ⟨?_, Rel.nol hL (fun z hz => hs z (List.mem_cons_of_mem _ hz)) q⟩
    subst h1
    refine ⟨.simp s1, .simp s2, ?_, trivial⟩
    rcases h2 with ⟨_, rfl⟩ | ⟨_, q, rfl, _⟩
    · exact ⟨fun l hl => inc_nil (hL l hl), trivial⟩
    · trivial
/-- a slot's rows are one's own from here on -/
def sThN (P : List D → Prop) (i : Nat) (t : DS) : DS := fun DD δ A => ∃ (R : List Row) (δ1 : DSt) (A1 : AH), δ[i]? = some (some (.lst (R.map rowD))) ∧ Fgt δ δ1 ∧ δ1[i]? = some none ∧ (∀ a o, A1 a = some o → A a = some o) ∧ R ≠ [] ∧ (∀ x ∈ R, Simp x.1 ∧ Simp x.2.1 ∧ Simps x.2.2) ∧
  (∀ l, P l → Inc (R.map rowD) l) ∧ (∀ x ∈ R, x.2.2 ≠ [] → (∀ l, P l → Inc x.2.2 l) ∧ Inc (R.map rowD) x.2.2) ∧
  (∀ x ∈ R, ∀ y ∈ R, ∀ (K : PySem.W.Frag) Z vs, Coh K Z → RVs K Z x.2.2 vs → RVs K Z y.2.2 vs → x.2.2 = y.2.2) ∧
  (∀ x ∈ δ1, ∀ e, x = some e → KD P e) ∧ (∀ a o, A1 a = some o → KO P o) ∧
  ∀ p S A2, Thw A1 A2 p R S → A1 p = none → A2 p = some (.lst S) → (∀ a o, A1 a = some o → A2 a = some o) → t DD (δ1.set i (some (.ref p))) A2
theorem qp_thN {X : Cx} {rest : List Stmt} {t : DS} {i : Nat} (hZ : CleanP X.K P Z0) (h : QP X Z0 rest t) : QP X Z0 rest (sThN P i t) := ⟨fun pins s σ H DV I hh => h.run pins s σ H DV I (by
  obtain ⟨Z, δ, A, DD, z, rs, ra, ⟨R, δ1, A1, e1, f1, e2, sb, ne, sm, hp, hc, un, n1, n2, q⟩, re⟩ := hh
  have co : Coh X.K Z := coh_of I ra.sub
  obtain ⟨v, e3, rv⟩ := rs.get e1
  obtain ⟨p, vs, rfl, ep, rr⟩ := rv_lst rv
  obtain ⟨qs, S, hrel, hS, hq, hx⟩ := rows_ex rr
  have ra1 : RA X.K Z A1 H := ra.same sb
  have neR : R.map rowD ≠ [] := fun e => ne (List.map_eq_nil_iff.mp e)
  let as : List (Addr × List D) := (p, R.map rowD) :: qs
  have hd : Holds X.K Z as := fun y hy => by
    rcases List.mem_cons.mp hy with rfl | hy
    · exact ⟨vs, ep, rr⟩
    · exact hq y hy
  have hI : ∀ l ∈ as.map (·.2), (∀ m, P m → Inc l m) ∧ l ≠ [] := fun l hl => by
    obtain ⟨y, hy, rfl⟩ := List.mem_map.mp hl
    rcases List.mem_cons.mp hy with rfl | hy
    · exact ⟨hp, neR⟩
    · obtain ⟨x, hxR, ex, exn⟩ := hx y hy
      rw [← ex]
      exact ⟨(hc x hxR exn).1, exn⟩
  have fr : ∀ y ∈ as, A1 y.1 = none := fun y hy => by
    obtain ⟨us, h1, _⟩ := hd y hy
    cases ha : A1 y.1 with
    | none => rfl
    | some o =>
      have := (ra1.at_ _ _ ha).1
      rw [h1] at this; cases this
  have hqp : ∀ c q', (q', c) ∈ qs → q' ≠ p := fun c q' hm e => by
    obtain ⟨us, h1, h2⟩ := hq _ hm
    obtain ⟨x, hxR, ex, exn⟩ := hx _ hm
    simp only at h1 h2 ex
    rw [e, ep] at h1
    have : vs = us := by injection h1 with w; injection w
    subst this
    rw [← ex] at h2
    exact (hc x hxR exn).2 _ Z vs co rr h2
  have same : ∀ y ∈ qs, ∀ y' ∈ qs, y.1 = y'.1 → y.2 = y'.2 := fun y hy y' hy' e => by
    obtain ⟨us, h1, h2⟩ := hq y hy
    obtain ⟨ws, h3, h4⟩ := hq y' hy'
    obtain ⟨x, hxR, ex, _⟩ := hx y hy
    obtain ⟨x', hxR', ex', _⟩ := hx y' hy'
    rw [← e, h1] at h3
    have : us = ws := by injection h3 with w; injection w
    subst this
    rw [← ex] at h2 ⊢
    rw [← ex'] at h4 ⊢
    exact un x hxR x' hxR' _ Z us co h2 h4
  let A2 : AH := A1.puts ((p, S) :: qs)
  have kp : as.map (·.1) = ((p, S) :: qs).map (·.1) := rfl
  have hA2p : A2 p = some (.lst S) := AH.put_same ..
  have hA2q : ∀ q' c, (q', c) ∈ qs → A2 q' = some (.lst c) := fun q' c hm => by
    have hin : q' ∈ ((p, S) :: qs).map (·.1) := List.mem_map.mpr ⟨(q', c), List.mem_cons_of_mem _ hm, rfl⟩
    obtain ⟨y, hy, h1, h2⟩ := AH.puts_in (A := A1) hin
    rcases List.mem_cons.mp hy with rfl | hy
    · exact absurd h1.symm (hqp c q' hm)
    · rw [show A2 q' = _ from h2, same y hy (q', c) hm h1]
  refine ⟨dels Z (as.map (·.1)), δ1.set i (some (.ref p)), A2, DD, fun a o ha => ?_, ?_, ⟨fun a o ha => ?_, fun a o ha => ?_⟩, q p S A2 (hrel.thw fun q' c hm => ⟨hqp c q' hm, fr (q', c) (List.mem_cons_of_mem _ hm), hA2q q' c hm⟩) (fr _ List.mem_cons_self) hA2p fun a o ha => ?_, re⟩
  · by_cases hin : a ∈ as.map (·.1)
    · obtain ⟨y, hy, rfl⟩ := List.mem_map.mp hin
      obtain ⟨us, h1, h2⟩ := hd y hy
      have hz := z _ _ ha
      rw [h1] at hz
      have : o = .lst us := (Option.some.inj hz).symm
      subst this
      obtain ⟨l, r, pl⟩ := hZ _ _ ha
      exact ((hI y.2 (List.mem_map.mpr ⟨y, hy, rfl⟩)).1 l pl _ Z us co h2 (r.mono z)).elim
    · rw [dels_out hin]; exact z a o ha
  · exact ((rs.fgt f1).dels co hd fun x hx' e he => NoL.kd (fun l hl => (hI l hl).1) (n1 x hx' e he)).put e3 mk_ref
  · by_cases hin : a ∈ as.map (·.1)
    · rw [dels_in hin] at ha; cases ha
    · rw [dels_out hin] at ha; exact ra.sub a o ha
  · by_cases hin : a ∈ as.map (·.1)
    · refine ⟨dels_in hin, ?_⟩
      obtain ⟨y, hy, rfl, h2⟩ := AH.puts_in (A := A1) (as := (p, S) :: qs) (by rw [← kp]; exact hin)
      rw [show A2 y.1 = _ from h2] at ha
      cases ha
      rcases List.mem_cons.mp hy with rfl | hy
      · exact ⟨vs, ra.sub _ _ ep, hS.dels co hd (hrel.nol (fun l hl => (hI l hl).2) fun x hx' => ⟨(sm x hx').1, (sm x hx').2.1⟩)⟩
      · obtain ⟨us, h3, h4⟩ := hq y hy
        obtain ⟨x, hxR, ex, _⟩ := hx y hy
        exact ⟨us, ra.sub _ _ h3, h4.dels co hd (.simp (by rw [← ex]; exact (sm x hxR).2.2))⟩
    · have hin' : a ∉ ((p, S) :: qs).map (·.1) := by rw [← kp]; exact hin
      rw [show A2 a = _ from AH.puts_out (A := A1) hin'] at ha
      obtain ⟨h1, h2⟩ := ra1.at_ a o ha
      exact ⟨by rw [dels_out hin]; exact h1, h2.dels co hd (NoLO.kd (fun l hl => (hI l hl).1) (n2 a o ha))⟩
  · have hin' : a ∉ ((p, S) :: qs).map (·.1) := fun h => by
      rw [← kp] at h
      obtain ⟨y, hy, rfl⟩ := List.mem_map.mp h
      rw [fr y hy] at ha; cases ha
    rw [show A2 a = _ from AH.puts_out (A := A1) hin']; exact ha)⟩
/-- an empty list may be cleared as it stands -/
def mClr2 : DMt := fun d ds A Q => match d, ds with
  | .ref a, [] => (match A a with
    | some (.lst l) => Q .non (A.put a (.lst []))
    | _ => False)
  | .lst [], [] => Q .non A
  | _, _ => False
theorem lift_clr2 : LiftMt K "list" mClr2 rClear := fun Z A H d v ds vs Kt Q R r rs h k => by
  unfold mClr2 at h
  split at h
  · rename_i a
    split at h
    · rename_i l q
      have := rs.inv0
      subst this
      obtain ⟨us, e1, e2⟩ := (R.at_ a _ q).2
      exact ⟨a, us, rv_ref r, rfl, e1, k Z _ _ _ _ (Same.refl Z) (lst_write R q .nil) mk_non h⟩
    · exact h.elim
  · have := rs.inv0
    subst this
    obtain ⟨p, us, rfl, e1, e2⟩ := rv_lst r
    have := e2.inv0
    subst this
    have e3 := R.sub _ _ e1
    have eu : upd H p (.lst []) = H := by
      funext b
      unfold upd
      split
      · rename_i hb; first | (rw [hb, e3]) | (subst hb; rw [e3]) | simp_all
      · rfl
    exact ⟨p, [], rfl, rfl, e3, by rw [eu]; exact k Z _ _ _ _ (Same.refl Z) R mk_non h⟩
  · exact h.elim
end DL


/-! TF0: typed programs, what stands in the slots. -/
namespace TF
open PySem PySem.Spec PyProof.Rows L2 DL FR

/-- what a typed program tells: a value, an exception, or nothing is promised -/
inductive R (α : Type) where
  | ok (a : α) | exc (c : String) (fs : List (String × D)) | bad
namespace R
variable {α β γ : Type}
def bind (m : R α) (f : α → R β) : R β := match m with
  | .ok a => f a
  | .exc c fs => .exc c fs
  | .bad => .bad
def wp (m : R α) (Q : α → Prop) (E : String → List (String × D) → Prop) : Prop := match m with
  | .ok a => Q a
  | .exc c fs => E c fs
  | .bad => False
abbrev map (m : R α) (f : α → β) : R β := m.bind fun a => .ok (f a)
abbrev b2 (m : R α) (n : R β) (F : α → β → R γ) : R γ := m.bind fun a => n.bind fun b => F a b
abbrev cond (m : R Bool) (a b : R β) : R β := m.bind fun c => if c = true then a else b
def noexc (m : R α) : R α := match m with
  | .ok a => .ok a
  | _ => .bad
@[simp] theorem ok_bind {a : α} {f : α → R β} : (ok a).bind f = f a := rfl
@[simp] theorem exc_bind {c fs} {f : α → R β} : (exc c fs : R α).bind f = .exc c fs := rfl
@[simp] theorem bad_bind {f : α → R β} : (bad : R α).bind f = .bad := rfl
@[simp] theorem noexc_ok {a : α} : (ok a).noexc = .ok a := rfl
theorem bind_assoc {m : R α} {f : α → R β} {g : β → R γ} : (m.bind f).bind g = m.bind fun a => (f a).bind g := by cases m <;> rfl
@[simp] theorem wp_ok {a : α} {Q : α → Prop} {E} : (ok a).wp Q E = Q a := rfl
@[simp] theorem wp_exc {c fs} {Q : α → Prop} {E} : (exc c fs : R α).wp Q E = E c fs := rfl
@[simp] theorem wp_bad {Q : α → Prop} {E} : (bad : R α).wp Q E = False := rfl
theorem wp_bind {m : R α} {f : α → R β} {Q : β → Prop} {E} : (m.bind f).wp Q E = m.wp (fun a => (f a).wp Q E) E := by cases m <;> rfl
theorem wp_imp {m : R α} {Q Q' : α → Prop} {E E'} (h : m.wp Q E) (hq : ∀ a, Q a → Q' a) (he : ∀ c fs, E c fs → E' c fs) : m.wp Q' E' := by
  cases m with
  | ok a => exact hq a h
  | exc c fs => exact he c fs h
  | bad => exact h
theorem wp_noexc {m : R α} {Q : α → Prop} {E E'} (h : m.noexc.wp Q E) : m.wp Q E' := by
  cases m with
  | ok a => exact h
  | exc c fs => exact h.elim
  | bad => exact h
end R

/-! ### values as data -/
class Enc (α : Type) where
  enc : α → D
  vw : AH → D → α → Prop := fun _ d a => d = enc a
  vw_enc : ∀ A a, vw A (enc a) a := by intros; rfl
  vw_mono : ∀ {A B d a}, Sub A B → vw A d a → vw B d a := by exact fun _ h => h
open Enc
structure T1 (α : Type) where a : α
  deriving DecidableEq
structure T3 (α β γ : Type) where (a : α) (b : β) (c : γ)
  deriving DecidableEq
structure T4 (α β γ δ : Type) where (a : α) (b : β) (c : γ) (d : δ)
  deriving DecidableEq
structure T5 (α β γ δ ε : Type) where (a : α) (b : β) (c : γ) (d : δ) (e : ε)
  deriving DecidableEq
structure T6 (α β γ δ ε ζ : Type) where (a : α) (b : β) (c : γ) (d : δ) (e : ε) (f : ζ)
  deriving DecidableEq
structure Dic (κ α : Type) where l : List (κ × α)
instance : Enc Int := { enc := .int }
instance : Enc Bool := { enc := .bl }
instance : Enc Str := { enc := .str }
instance : Enc Unit := { enc := fun _ => .non }
instance : Enc Rat := { enc := frD }
instance : Enc D := { enc := id }
section
variable {α β γ δ ε ζ κ : Type} [Enc α] [Enc β] [Enc γ] [Enc δ] [Enc ε] [Enc ζ]
instance : Enc (Option α) := { enc := fun o => match o with
  | none => .non
  | some a => enc a }
instance : Enc (T1 α) := { enc := fun t => .tup [enc t.a] }
instance : Enc (α × β) := { enc := fun t => .tup [enc t.1, enc t.2] }
instance : Enc (T3 α β γ) := { enc := fun t => .tup [enc t.a, enc t.b, enc t.c] }
instance : Enc (T4 α β γ δ) := { enc := fun t => .tup [enc t.a, enc t.b, enc t.c, enc t.d] }
instance : Enc (T5 α β γ δ ε) := { enc := fun t => .tup [enc t.a, enc t.b, enc t.c, enc t.d, enc t.e] }
instance : Enc (T6 α β γ δ ε ζ) := { enc := fun t => .tup [enc t.a, enc t.b, enc t.c, enc t.d, enc t.e, enc t.f] }
theorem asL_sub {A B : AH} (s : Sub A B) {d : D} {l : List D} (h : asL A d = some l) : asL B d = some l := by
  cases d with
  | ref a =>
    have h' : (match A a with | some (.lst l) => some l | _ => none) = some l := h
    show (match B a with | some (.lst l) => some l | _ => none) = some l
    split at h'
    · rename_i q; rw [s _ _ q]; exact h'
    · cases h'
  | _ => exact h
theorem asDic_sub {A B : AH} (s : Sub A B) {d : D} {l : List (Key × D)} (h : asDic A d = some l) : asDic B d = some l := by
  cases d with
  | ref a =>
    have h' : (match A a with | some (.dic l) => some l | _ => none) = some l := h
    show (match B a with | some (.dic l) => some l | _ => none) = some l
    split at h'
    · rename_i q; rw [s _ _ q]; exact h'
    · cases h'
  | _ => exact h
instance : Enc (List α) where
  enc l := .lst (l.map enc)
  vw A d l := asL A d = some (l.map enc)
  vw_enc _ _ := rfl
  vw_mono s h := asL_sub s h
class KeyT (κ : Type) where
  key : κ → Key
  inj : ∀ {a b}, key a = key b → a = b
instance : KeyT Int := ⟨.inl, fun h => Sum.inl.inj h⟩
instance : KeyT Str := ⟨.inr, fun h => Sum.inr.inj h⟩
open KeyT
variable [KeyT κ]
/-- a dict's entries as data -/
def encKV (l : List (κ × α)) : List (Key × D) := l.map fun p => (key p.1, enc p.2)
instance : Enc (Dic κ α) where
  enc d := .dic ((encKV d.l).map (·.1)) ((encKV d.l).map (·.2))
  vw A d l := asDic A d = some (encKV l.l)
  vw_enc _ _ := by show some (((encKV _).map (·.1)).zip ((encKV _).map (·.2))) = _; rw [zip_maps]
  vw_mono s h := asDic_sub s h
end
@[simp] theorem enc_int {i : Int} : enc i = .int i := rfl
@[simp] theorem enc_bool {i : Bool} : enc i = .bl i := rfl
@[simp] theorem enc_str {i : Str} : enc i = .str i := rfl
@[simp] theorem enc_unit {i : Unit} : enc i = .non := rfl
@[simp] theorem enc_rat {i : Rat} : enc i = frD i := rfl
@[simp] theorem enc_D {i : D} : enc i = i := rfl
instance : Enc TieV := { enc := fun t => .tup [enc t.name, enc t.start, enc t.fin, enc t.low, enc t.high] }
theorem enc_opt (o : Option Rat) : enc o = obD o := by cases o <;> rfl
theorem enc_tie (t : TieV) : enc t = tieD t := by
  show D.tup [enc t.name, enc t.start, enc t.fin, enc t.low, enc t.high] = _
  rw [enc_opt, enc_opt]; rfl

/-! ### slots -/
/-- what a slot's own object is: a list or a dict, or an object (its address known or not) with fields, each a value or a list or dict of its own -/
inductive OT where
  | ao (o : AO)
  | ob (c : String) (pin : Option Addr) (fs : List (String × (D ⊕ AO)))
  | pn (q : Addr) (o : AO)
  | on (c : String) (pin : Option Addr) (f : String) (t : OT) (fs : List (String × (D ⊕ AO)))
/-- fields: the values as told, the own ones behind addresses apart -/
def OwnF (A : AH) : List (String × (D ⊕ AO)) → List (String × D) → List Addr → Prop
  | [], r, B => r = [] ∧ B = []
  | (f, .inl d) :: fs, r, B => ∃ r', r = (f, d) :: r' ∧ OwnF A fs r' B
  | (f, .inr o) :: fs, r, B => ∃ r' q B', r = (f, .ref q) :: r' ∧ A q = some o ∧ q ∉ B' ∧ B = q :: B' ∧ OwnF A fs r' B'
theorem OwnF.frame {A A' : AH} : ∀ {fs : List (String × (D ⊕ AO))} {r : List (String × D)} {B : List Addr}, OwnF A fs r B → (∀ a ∈ B, A' a = A a) → OwnF A' fs r B
  | [], _, _, h, _ => h
  | (_, .inl _) :: _, _, _, ⟨r', e, h⟩, q => ⟨r', e, h.frame q⟩
  | (_, .inr _) :: _, _, _, ⟨r', x, B', e1, e2, e3, e4, h⟩, q => by
    subst e4
    exact ⟨r', x, B', e1, by rw [q x List.mem_cons_self]; exact e2, e3, rfl, h.frame fun a ha => q a (List.mem_cons_of_mem _ ha)⟩
theorem OwnF.there {A : AH} : ∀ {fs : List (String × (D ⊕ AO))} {r : List (String × D)} {B : List Addr}, OwnF A fs r B → ∀ a ∈ B, A a ≠ none
  | [], _, _, ⟨_, e⟩, a, ha => by subst e; cases ha
  | (_, .inl _) :: _, _, _, ⟨_, _, h⟩, a, ha => h.there a ha
  | (_, .inr _) :: _, _, _, ⟨r', x, B', e1, e2, e3, e4, h⟩, a, ha => by
    subst e4
    rcases List.mem_cons.mp ha with rfl | ha
    · rw [e2]; intro z; cases z
    · exact h.there a ha
def Own (A : AH) : OT → Addr → List Addr → Prop
  | .ao o, p, B => A p = some o ∧ B = [p]
  | .pn q o, p, B => A p = some o ∧ B = [p] ∧ p = q
  | .ob c pin fs, p, B => ∃ r B', A p = some (.obj c r) ∧ OwnF A fs r B' ∧ p ∉ B' ∧ B = p :: B' ∧ ∀ x, pin = some x → p = x
  | .on c pin f t fs, p, B => ∃ q B2 r B1, A p = some (.obj c ((f, .ref q) :: r)) ∧ Own A t q B2 ∧ OwnF A fs r B1 ∧ p ∉ B2 ∧ p ∉ B1 ∧ (∀ a ∈ B2, a ∉ B1) ∧ B = p :: (B2 ++ B1) ∧ ∀ x, pin = some x → p = x
theorem Own.frame {A A' : AH} : ∀ {t : OT} {p : Addr} {B : List Addr}, Own A t p B → (∀ a ∈ B, A' a = A a) → Own A' t p B
  | .ao o, p, B, ⟨h, e⟩, q => by subst e; exact ⟨by rw [q p (List.mem_singleton.mpr rfl)]; exact h, rfl⟩
  | .pn x o, p, B, ⟨h, e, e2⟩, q => by subst e; exact ⟨by rw [q p (List.mem_singleton.mpr rfl)]; exact h, rfl, e2⟩
  | .ob c pin fs, p, B, ⟨r, B', h1, h2, h3, e, hp⟩, q => by
    subst e
    exact ⟨r, B', by rw [q p List.mem_cons_self]; exact h1, h2.frame fun a ha => q a (List.mem_cons_of_mem _ ha), h3, rfl, hp⟩
  | .on c pin f t fs, p, B, ⟨x, B2, r, B1, h1, h2, h3, h4, h5, h6, e, hp⟩, q => by
    subst e
    exact ⟨x, B2, r, B1, by rw [q p List.mem_cons_self]; exact h1, h2.frame fun a ha => q a (List.mem_cons_of_mem _ (List.mem_append_left _ ha)), h3.frame fun a ha => q a (List.mem_cons_of_mem _ (List.mem_append_right _ ha)), h4, h5, h6, rfl, hp⟩
theorem Own.there {A : AH} : ∀ {t : OT} {p : Addr} {B : List Addr}, Own A t p B → ∀ a ∈ B, A a ≠ none
  | .ao o, p, B, ⟨h, e⟩, a, ha => by subst e; rw [List.mem_singleton.mp ha, h]; intro z; cases z
  | .pn x o, p, B, ⟨h, e, _⟩, a, ha => by subst e; rw [List.mem_singleton.mp ha, h]; intro z; cases z
  | .ob c pin fs, p, B, ⟨r, B', h1, h2, h3, e, _⟩, a, ha => by
    subst e
    rcases List.mem_cons.mp ha with rfl | ha
    · rw [h1]; intro z; cases z
    · exact h2.there a ha
  | .on c pin f t fs, p, B, ⟨x, B2, r, B1, h1, h2, h3, h4, h5, h6, e, _⟩, a, ha => by
    subst e
    rcases List.mem_cons.mp ha with rfl | ha
    · rw [h1]; intro z; cases z
    · rcases List.mem_append.mp ha with ha | ha
      · exact h2.there a ha
      · exact h3.there a ha
inductive Sl where
  | emp | val (d : D) | own (t : OT)
inductive EnvR (A0 A : AH) : List Addr → List Sl → DSt → Prop
  | nil : EnvR A0 A [] [] []
  | emp {B ss δ x} : EnvR A0 A B ss δ → EnvR A0 A B (.emp :: ss) (x :: δ)
  | val {B ss δ d} : EnvR A0 A B ss δ → EnvR A0 A B (.val d :: ss) (some d :: δ)
  | own {B C ss δ t p} : EnvR A0 A B ss δ → Own A t p C → (∀ a ∈ C, a ∉ B) → (∀ a ∈ C, A0 a = none) → EnvR A0 A (C ++ B) (.own t :: ss) (some (.ref p) :: δ)
structure Env (A0 : AH) (ss : List Sl) (δ : DSt) (A : AH) : Prop where
  sub : Sub A0 A
  ex : ∃ B, EnvR A0 A B ss δ
theorem EnvR.frame {A0 A A' : AH} {B : List Addr} {ss : List Sl} {δ : DSt} (h : EnvR A0 A B ss δ) (q : ∀ a ∈ B, A' a = A a) : EnvR A0 A' B ss δ := by
  induction h with
  | nil => exact .nil
  | emp _ ih => exact .emp (ih q)
  | val _ ih => exact .val (ih q)
  | own r o h1 h2 ih => exact .own (ih fun a ha => q a (List.mem_append_right _ ha)) (o.frame fun a ha => q a (List.mem_append_left _ ha)) h1 h2
theorem EnvR.there {A0 A : AH} {B : List Addr} {ss : List Sl} {δ : DSt} (h : EnvR A0 A B ss δ) : ∀ a ∈ B, A a ≠ none ∧ A0 a = none := by
  induction h with
  | nil => intro a ha; cases ha
  | emp _ ih => exact ih
  | val _ ih => exact ih
  | own r o h1 h2 ih =>
    intro a ha
    rcases List.mem_append.mp ha with ha | ha
    · exact ⟨o.there a ha, h2 a ha⟩
    · exact ih a ha
theorem EnvR.get_val {A0 A : AH} {B : List Addr} {ss : List Sl} {δ : DSt} (h : EnvR A0 A B ss δ) : ∀ {i : Nat} {d : D}, ss[i]? = some (.val d) → δ[i]? = some (some d) := by
  induction h with
  | nil => intro i d e; simp at e
  | emp _ ih =>
    intro i d e
    cases i with
    | zero => simp at e
    | succ i => exact ih (by simpa using e)
  | val _ ih =>
    intro i d e
    cases i with
    | zero => simp at e; subst e; rfl
    | succ i => exact ih (by simpa using e)
  | own r o h1 h2 ih =>
    intro i d e
    cases i with
    | zero => simp at e
    | succ i => exact ih (by simpa using e)
theorem EnvR.get_own {A0 A : AH} {B : List Addr} {ss : List Sl} {δ : DSt} (h : EnvR A0 A B ss δ) : ∀ {i : Nat} {t : OT}, ss[i]? = some (.own t) → ∃ p C, δ[i]? = some (some (.ref p)) ∧ Own A t p C ∧ ∀ a ∈ C, a ∈ B := by
  induction h with
  | nil => intro i d e; simp at e
  | emp _ ih =>
    intro i d e
    cases i with
    | zero => simp at e
    | succ i => exact ih (by simpa using e)
  | val _ ih =>
    intro i d e
    cases i with
    | zero => simp at e
    | succ i => exact ih (by simpa using e)
  | own r o h1 h2 ih =>
    intro i d e
    cases i with
    | zero => simp at e; subst e; exact ⟨_, _, rfl, o, fun a ha => List.mem_append_left _ ha⟩
    | succ i =>
      obtain ⟨p, C, e1, e2, e3⟩ := ih (i := i) (t := d) (by simpa using e)
      exact ⟨p, C, e1, e2, fun a ha => List.mem_append_right _ (e3 a ha)⟩
/-- a slot set to a value, or forgotten: what was its own may go -/
theorem EnvR.set_val {A0 A : AH} {B : List Addr} {ss : List Sl} {δ : DSt} (h : EnvR A0 A B ss δ) : ∀ (i : Nat) (d : D), ∃ B', (∀ a ∈ B', a ∈ B) ∧ EnvR A0 A B' (ss.set i (.val d)) (δ.set i (some d)) := by
  induction h with
  | nil => intro i d; exact ⟨[], fun _ h => h, .nil⟩
  | emp r ih =>
    intro i d
    cases i with
    | zero => exact ⟨_, fun _ h => h, .val r⟩
    | succ i => obtain ⟨B', h1, h2⟩ := ih i d; exact ⟨B', h1, .emp h2⟩
  | val r ih =>
    intro i d
    cases i with
    | zero => exact ⟨_, fun _ h => h, .val r⟩
    | succ i => obtain ⟨B', h1, h2⟩ := ih i d; exact ⟨B', h1, .val h2⟩
  | own r o h1 h2 ih =>
    intro i d
    cases i with
    | zero => exact ⟨_, fun a h => List.mem_append_right _ h, .val r⟩
    | succ i =>
      obtain ⟨B', q1, q2⟩ := ih i d
      exact ⟨_, fun a h => (List.mem_append.mp h).elim (List.mem_append_left _) fun h => List.mem_append_right _ (q1 a h), .own q2 o (fun a ha hb => h1 a ha (q1 a hb)) h2⟩
theorem EnvR.set_any {A0 A : AH} {B : List Addr} {ss : List Sl} {δ : DSt} (h : EnvR A0 A B ss δ) : ∀ (i : Nat) (x : Option D), ∃ B', (∀ a ∈ B', a ∈ B) ∧ EnvR A0 A B' (ss.set i .emp) (δ.set i x) := by
  induction h with
  | nil => intro i x; exact ⟨[], fun _ h => h, .nil⟩
  | emp r ih =>
    intro i x
    cases i with
    | zero => exact ⟨_, fun _ h => h, .emp r⟩
    | succ i => obtain ⟨B', h1, h2⟩ := ih i x; exact ⟨B', h1, .emp h2⟩
  | val r ih =>
    intro i x
    cases i with
    | zero => exact ⟨_, fun _ h => h, .emp r⟩
    | succ i => obtain ⟨B', h1, h2⟩ := ih i x; exact ⟨B', h1, .val h2⟩
  | own r o h1 h2 ih =>
    intro i x
    cases i with
    | zero => exact ⟨_, fun a h => List.mem_append_right _ h, .emp r⟩
    | succ i =>
      obtain ⟨B', q1, q2⟩ := ih i x
      exact ⟨_, fun a h => (List.mem_append.mp h).elim (List.mem_append_left _) fun h => List.mem_append_right _ (q1 a h), .own q2 o (fun a ha hb => h1 a ha (q1 a hb)) h2⟩
/-- a slot gets an own object that stands apart from all others -/
theorem EnvR.set_own {A0 A : AH} {B : List Addr} {ss : List Sl} {δ : DSt} (h : EnvR A0 A B ss δ) : ∀ (i : Nat) {t : OT} {p : Addr} {C : List Addr}, Own A t p C → (∀ a ∈ C, a ∉ B) → (∀ a ∈ C, A0 a = none) → ∃ B', (∀ a ∈ B', a ∈ C ∨ a ∈ B) ∧ EnvR A0 A B' (ss.set i (.own t)) (δ.set i (some (.ref p))) := by
  induction h with
  | nil => intro i t p C o h1 h2; exact ⟨[], fun _ h => .inr h, .nil⟩
  | emp r ih =>
    intro i t p C o h1 h2
    cases i with
    | zero => exact ⟨_, fun a h => List.mem_append.mp h, .own r o h1 h2⟩
    | succ i => obtain ⟨B', q1, q2⟩ := ih i o h1 h2; exact ⟨B', q1, .emp q2⟩
  | val r ih =>
    intro i t p C o h1 h2
    cases i with
    | zero => exact ⟨_, fun a h => List.mem_append.mp h, .own r o h1 h2⟩
    | succ i => obtain ⟨B', q1, q2⟩ := ih i o h1 h2; exact ⟨B', q1, .val q2⟩
  | own r o' g1 g2 ih =>
    intro i t p C o h1 h2
    cases i with
    | zero => exact ⟨_, fun a h => (List.mem_append.mp h).imp id (List.mem_append_right _), .own r o (fun a ha hb => h1 a ha (List.mem_append_right _ hb)) h2⟩
    | succ i =>
      obtain ⟨B', q1, q2⟩ := ih i o (fun a ha hb => h1 a ha (List.mem_append_right _ hb)) h2
      refine ⟨_, fun a h => (List.mem_append.mp h).elim (fun h => .inr (List.mem_append_left _ h)) fun h => (q1 a h).imp id (List.mem_append_right _), .own q2 o' (fun a ha hb => ?_) g2⟩
      rcases q1 a hb with hb | hb
      · exact h1 a hb (List.mem_append_left _ ha)
      · exact g1 a ha hb
/-- the own object of a slot and the rest apart -/
theorem EnvR.split_own {A0 A : AH} {B : List Addr} {ss : List Sl} {δ : DSt} (h : EnvR A0 A B ss δ) : ∀ {i : Nat} {t : OT}, ss[i]? = some (.own t) → ∃ p C B', δ[i]? = some (some (.ref p)) ∧ Own A t p C ∧ (∀ a ∈ C, A0 a = none) ∧ (∀ a ∈ C, a ∉ B') ∧ (∀ a ∈ C, a ∈ B) ∧ (∀ a ∈ B', a ∈ B) ∧ EnvR A0 A B' (ss.set i .emp) δ := by
  induction h with
  | nil => intro i d e; simp at e
  | emp _ ih =>
    intro i d e
    cases i with
    | zero => simp at e
    | succ i =>
      obtain ⟨p, C, B', e1, e2, e3, e4, e5, e6, e7⟩ := ih (i := i) (t := d) (by simpa using e)
      exact ⟨p, C, B', e1, e2, e3, e4, e5, e6, .emp e7⟩
  | val _ ih =>
    intro i d e
    cases i with
    | zero => simp at e
    | succ i =>
      obtain ⟨p, C, B', e1, e2, e3, e4, e5, e6, e7⟩ := ih (i := i) (t := d) (by simpa using e)
      exact ⟨p, C, B', e1, e2, e3, e4, e5, e6, .val e7⟩
  | own r o h1 h2 ih =>
    intro i d e
    cases i with
    | zero => simp at e; subst e; exact ⟨_, _, _, rfl, o, h2, h1, fun a ha => List.mem_append_left _ ha, fun a ha => List.mem_append_right _ ha, .emp r⟩
    | succ i =>
      obtain ⟨p, C, B', e1, e2, e3, e4, e5, e6, e7⟩ := ih (i := i) (t := d) (by simpa using e)
      refine ⟨p, C, _, e1, e2, e3, fun a ha hb => ?_, fun a ha => List.mem_append_right _ (e5 a ha), fun a ha => (List.mem_append.mp ha).elim (List.mem_append_left _) fun h => List.mem_append_right _ (e6 a h), .own e7 o (fun a ha hb => h1 a ha (e6 a hb)) h2⟩
      rcases List.mem_append.mp hb with hb | hb
      · exact h1 a hb (e5 a ha)
      · exact e4 a ha hb
section
variable {A0 A : AH} {ss : List Sl} {δ : DSt} {i : Nat} {d : D} {p : Addr} {o : AO} {t : OT}
theorem Env.get_val (h : Env A0 ss δ A) (e : ss[i]? = some (.val d)) : δ[i]? = some (some d) := by obtain ⟨_, B, h⟩ := h; exact h.get_val e
theorem Env.set_val (h : Env A0 ss δ A) (i : Nat) (d : D) : Env A0 (ss.set i (.val d)) (δ.set i (some d)) A := by
  obtain ⟨s, B, h⟩ := h
  obtain ⟨B', _, q⟩ := h.set_val i d
  exact ⟨s, B', q⟩
theorem Env.set_any (h : Env A0 ss δ A) (i : Nat) (x : Option D) : Env A0 (ss.set i .emp) (δ.set i x) A := by
  obtain ⟨s, B, h⟩ := h
  obtain ⟨B', _, q⟩ := h.set_any i x
  exact ⟨s, B', q⟩
theorem sub_none {A B : AH} (s : Sub A B) {p : Addr} (h : B p = none) : A p = none := by
  cases e : A p with
  | none => rfl
  | some o => rw [s p o e] at h; cases h
/-- what is new may stand beside -/
theorem Env.put (h : Env A0 ss δ A) (hp : A p = none) : Env A0 ss δ (A.put p o) := by
  obtain ⟨s, B, h⟩ := h
  refine ⟨fun a u e => ?_, B, h.frame fun a ha => ?_⟩
  · have hn : a ≠ p := fun z => by rw [z, sub_none s hp] at e; cases e
    rw [AH.put_ne A o hn]; exact s a u e
  · have hn : a ≠ p := fun z => (h.there a ha).1 (by rw [z, hp])
    exact AH.put_ne A o hn
/-- a new own object -/
theorem Env.new {A' : AH} {C : List Addr} (h : Env A0 ss δ A) (ho : Own A' t p C) (hn : ∀ a ∈ C, A a = none) (hs : ∀ a, a ∉ C → A' a = A a) : Env A0 (ss.set i (.own t)) (δ.set i (some (.ref p))) A' := by
  obtain ⟨s, B, h⟩ := h
  have hd : ∀ a ∈ C, a ∉ B := fun a ha hb => (h.there a hb).1 (hn a ha)
  have h' : EnvR A0 A' B ss δ := h.frame fun a ha => hs a fun hc => hd a hc ha
  obtain ⟨B', _, q⟩ := h'.set_own i ho hd fun a ha => sub_none s (hn a ha)
  refine ⟨fun a u e => ?_, B', q⟩
  have hc : a ∉ C := fun hc => by
    have := s a u e
    rw [hn a hc] at this; cases this
  rw [hs a hc]; exact s a u e
/-- an own object is changed -/
theorem Env.upd_own {o' : AO} (h : Env A0 ss δ A) (e : ss[i]? = some (.own (.ao o))) : ∃ p, δ[i]? = some (some (.ref p)) ∧ A p = some o ∧ Env A0 (ss.set i (.own (.ao o'))) δ (A.put p o') := by
  obtain ⟨s, B, h⟩ := h
  obtain ⟨p, C, B', e1, ⟨e2, e2'⟩, e3, e4, e5, e6, e7⟩ := h.split_own e
  subst e2'
  have hp : p ∈ [p] := List.mem_singleton.mpr rfl
  refine ⟨p, e1, e2, ⟨fun a u q => ?_, ?_⟩⟩
  · have hn : a ≠ p := fun z => by rw [z, e3 p hp] at q; cases q
    rw [AH.put_ne A o' hn]; exact s a u q
  · have h' : EnvR A0 (A.put p o') B' (ss.set i .emp) δ := e7.frame fun a ha => AH.put_ne A o' fun z => e4 p hp (z ▸ ha)
    obtain ⟨B2, _, q⟩ := h'.set_own i (t := .ao o') (p := p) (C := [p]) ⟨AH.put_same .., rfl⟩ e4 e3
    rw [List.set_set] at q
    have hδ : δ.set i (some (.ref p)) = δ := by
      apply List.ext_getElem?
      intro j
      rw [List.getElem?_set]
      split
      · rename_i hj; subst hj
        split
        · exact e1.symm
        · rename_i hl; exact (List.getElem?_eq_none (by omega)).symm
      · rfl
    rw [hδ] at q
    exact ⟨B2, q⟩
theorem Env.get_own (h : Env A0 ss δ A) (e : ss[i]? = some (.own (.ao o))) : ∃ p, δ[i]? = some (some (.ref p)) ∧ A p = some o ∧ A0 p = none := by
  obtain ⟨s, B, h⟩ := h
  obtain ⟨p, C, B', e1, ⟨e2, e2'⟩, e3, e4, e5, e6, e7⟩ := h.split_own e
  subst e2'
  exact ⟨p, e1, e2, e3 p (List.mem_singleton.mpr rfl)⟩
/-- an own object goes -/
theorem Env.del_own (h : Env A0 ss δ A) (e : ss[i]? = some (.own (.ao o))) : ∃ p, δ[i]? = some (some (.ref p)) ∧ A p = some o ∧ Env A0 (ss.set i .emp) δ (A.del p) := by
  obtain ⟨s, B, h⟩ := h
  obtain ⟨p, C, B', e1, ⟨e2, e2'⟩, e3, e4, e5, e6, e7⟩ := h.split_own e
  subst e2'
  have hp : p ∈ [p] := List.mem_singleton.mpr rfl
  refine ⟨p, e1, e2, ⟨fun a u q => ?_, B', e7.frame fun a ha => AH.del_ne A fun z => e4 p hp (z ▸ ha)⟩⟩
  have hn : a ≠ p := fun z => by rw [z, e3 p hp] at q; cases q
  rw [AH.del_ne A hn]; exact s a u q
end
end TF


/-! TF1: what a reading tells of a typed expression. -/
namespace TF
open PySem PySem.Spec PyProof.Rows L2 DL FR
open Enc KeyT
section
variable {α β γ δ' ε ζ κ : Type} [Enc α] [Enc β] [Enc γ] [Enc δ'] [Enc ε] [Enc ζ] [KeyT κ]
variable {w : DW} {A0 A : AH} {ss : List Sl} {δ : DSt} {Q : DK}

/-- the value is just this data -/
def SE (w : DW) (A0 : AH) (ss : List Sl) (t : DE) (m : R α) : Prop := ∀ (δ : DSt) (A : AH) (Q : DK), Env A0 ss δ A → m.wp (fun a => Q (enc a) A) (fun c fs => w c fs δ A) → t δ A Q
/-- the value may be read as this -/
def SV (w : DW) (A0 : AH) (ss : List Sl) (t : DE) (m : R α) : Prop := ∀ (δ : DSt) (A : AH) (Q : DK), Env A0 ss δ A → m.wp (fun a => ∀ d, vw A d a → Q d A) (fun c fs => w c fs δ A) → t δ A Q
def ST (w : DW) (A0 : AH) (ss : List Sl) (t : DT) (m : R Bool) : Prop := ∀ (δ : DSt) (A : AH) (Q : Bool → AH → Prop), Env A0 ss δ A → m.wp (fun a => Q a A) (fun c fs => w c fs δ A) → t δ A Q
/-- A' is A and a new own object beside -/
structure New (A : AH) (t : OT) (p : Addr) (A' : AH) : Prop where
  ex : ∃ C, Own A' t p C ∧ (∀ a ∈ C, A a = none) ∧ ∀ a, a ∉ C → A' a = A a
theorem New.put {p : Addr} {o : AO} (h : A p = none) : New A (.ao o) p (A.put p o) :=
  ⟨[p], ⟨AH.put_same .., rfl⟩, fun a ha => by rw [List.mem_singleton.mp ha]; exact h, fun a ha => AH.put_ne A o fun e => ha (List.mem_singleton.mpr e)⟩
/-- the value is a new own object -/
def SO {τ : Type} (w : DW) (A0 : AH) (ss : List Sl) (t : DE) (m : R τ) (o : τ → OT) : Prop := ∀ (δ : DSt) (A : AH) (Q : DK), Env A0 ss δ A → m.wp (fun a => ∀ p A', New A (o a) p A' → Q (.ref p) A') (fun c fs => w c fs δ A) → t δ A Q
/-- arguments, each just this data -/
def SEs (w : DW) (A0 : AH) (ss : List Sl) (t : DA) (m : R (List α)) : Prop := ∀ (δ : DSt) (A : AH) (Q : List D → AH → Prop), Env A0 ss δ A → m.wp (fun l => Q (l.map enc) A) (fun c fs => w c fs δ A) → t δ A Q

theorem SE.run {t : DE} {m : R α} {τ : Type} {k : α → R τ} {V : τ → Prop} {X} (h : SE w A0 ss t m) (e : Env A0 ss δ A) (hw : (m.bind k).wp V X) (hx : ∀ c fs, X c fs → w c fs δ A) (hk : ∀ a, (k a).wp V X → Q (enc a) A) : t δ A Q :=
  h δ A Q e (by rw [R.wp_bind] at hw; exact R.wp_imp hw hk hx)
theorem SV.run {t : DE} {m : R α} {τ : Type} {k : α → R τ} {V : τ → Prop} {X} (h : SV w A0 ss t m) (e : Env A0 ss δ A) (hw : (m.bind k).wp V X) (hx : ∀ c fs, X c fs → w c fs δ A) (hk : ∀ a d, vw A d a → (k a).wp V X → Q d A) : t δ A Q :=
  h δ A Q e (by rw [R.wp_bind] at hw; exact R.wp_imp hw (fun a ha d hd => hk a d hd ha) hx)
theorem ST.run {t : DT} {m : R Bool} {τ : Type} {k : Bool → R τ} {V : τ → Prop} {X} {Q : Bool → AH → Prop} (h : ST w A0 ss t m) (e : Env A0 ss δ A) (hw : (m.bind k).wp V X) (hx : ∀ c fs, X c fs → w c fs δ A) (hk : ∀ a, (k a).wp V X → Q a A) : t δ A Q :=
  h δ A Q e (by rw [R.wp_bind] at hw; exact R.wp_imp hw hk hx)
theorem SO.run {t : DE} {τ' : Type} {m : R τ'} {o : τ' → OT} {τ : Type} {k : τ' → R τ} {V : τ → Prop} {X} (h : SO w A0 ss t m o) (e : Env A0 ss δ A) (hw : (m.bind k).wp V X) (hx : ∀ c fs, X c fs → w c fs δ A) (hk : ∀ a p A', New A (o a) p A' → (k a).wp V X → Q (.ref p) A') : t δ A Q :=
  h δ A Q e (by rw [R.wp_bind] at hw; exact R.wp_imp hw (fun a ha p A' hn => hk a p A' hn ha) hx)
theorem SEs.run {t : DA} {m : R (List α)} {τ : Type} {k : List α → R τ} {V : τ → Prop} {X} {Q : List D → AH → Prop} (h : SEs w A0 ss t m) (e : Env A0 ss δ A) (hw : (m.bind k).wp V X) (hx : ∀ c fs, X c fs → w c fs δ A) (hk : ∀ l, (k l).wp V X → Q (l.map enc) A) : t δ A Q :=
  h δ A Q e (by rw [R.wp_bind] at hw; exact R.wp_imp hw hk hx)
theorem SE.v {t : DE} {m : R α} (h : SE w A0 ss t m) : SV w A0 ss t m := fun δ A Q e hw => h δ A Q e (R.wp_imp hw (fun a ha => ha _ (vw_enc A a)) fun _ _ h => h)

/-! ### names, constants -/
theorem se_var {i : Nat} {a : α} (h : ss[i]? = some (.val (enc a))) : SE w A0 ss (eVar i) (.ok a) := fun δ A Q e hw => by
  rw [eVar_eq (e.get_val h)]; exact hw
theorem sv_var {i : Nat} {d : D} {a : α} (h : ss[i]? = some (.val d)) (v : vw A0 d a) : SV w A0 ss (eVar i) (.ok a) := fun δ A Q e hw => by
  rw [eVar_eq (e.get_val h)]; exact hw d (vw_mono e.sub v)
theorem sv_own {i : Nat} {l : List α} (h : ss[i]? = some (.own (.ao (.lst (l.map enc))))) : SV w A0 ss (eVar i) (.ok l) := fun δ A Q e hw => by
  obtain ⟨p, h1, h2, _⟩ := e.get_own h
  rw [eVar_eq h1]
  refine hw _ ?_
  show (match A p with | some (.lst l) => some l | _ => none) = _
  rw [h2]
theorem se_int (i : Int) : SE w A0 ss (eC (.int i)) (.ok i) := fun δ A Q e hw => hw
theorem se_bl (i : Bool) : SE w A0 ss (eC (.bl i)) (.ok i) := fun δ A Q e hw => hw
theorem se_str (i : Str) : SE w A0 ss (eC (.str i)) (.ok i) := fun δ A Q e hw => hw
theorem se_non : SE w A0 ss (eC .non) (.ok (none : Option α)) := fun δ A Q e hw => hw
theorem se_unit : SE w A0 ss (eC .non) (.ok ()) := fun δ A Q e hw => hw
/-- the same data, told otherwise -/
theorem se_co {t : DE} {m : R α} (f : α → β) (hf : ∀ a, (enc (f a) : D) = enc a) (h : SE w A0 ss t m) : SE w A0 ss t (m.map f) := fun δ A Q e hw =>
  h.run e hw (fun _ _ => id) fun a ha => by rw [← hf a]; exact ha
theorem se_coM {t : DE} {m : R α} (f : α → R β) (hf : ∀ a b, f a = .ok b → (enc b : D) = enc a) (hx : ∀ a c fs, f a ≠ .exc c fs) (h : SE w A0 ss t m) : SE w A0 ss t (m.bind f) := fun δ A Q e hw =>
  h.run e hw (fun _ _ => id) fun a ha => by
    cases hb : f a with
    | ok b => rw [hb] at ha; rw [← hf a b hb]; exact ha
    | exc c fs => exact absurd hb (hx a c fs)
    | bad => rw [hb] at ha; exact ha.elim
theorem se_some {t : DE} {m : R α} (h : SE w A0 ss t m) : SE w A0 ss t (m.map some) := se_co some (fun _ => rfl) h
def unw (o : Option α) : R α := match o with
  | some a => .ok a
  | none => .bad
omit [Enc α] in
@[simp] theorem unw_some {a : α} : unw (some a) = .ok a := rfl
omit [Enc α] in
@[simp] theorem unw_none : unw (none : Option α) = .bad := rfl
theorem se_unw {t : DE} {m : R (Option α)} (h : SE w A0 ss t m) : SE w A0 ss t (m.bind unw) := se_coM unw (fun a b e => by cases a <;> cases e; rfl) (fun a c fs e => by cases a <;> cases e) h
theorem se_dyn {t : DE} {m : R α} (h : SE w A0 ss t m) : SE w A0 ss t (m.map enc) := se_co enc (fun _ => rfl) h
/-- a pair that is a fraction -/
def toRat (p : Int × Int) : R Rat := if h : 0 < p.2 ∧ p.1.natAbs.gcd p.2.natAbs = 1 then .ok ⟨p.1, p.2.natAbs, by omega, h.2⟩ else .bad
theorem se_toRat {t : DE} {m : R (Int × Int)} (h : SE w A0 ss t m) : SE w A0 ss t (m.bind toRat) := se_coM toRat (fun a b e => by
  unfold toRat at e
  split at e
  · rename_i h; cases e
    show frD _ = _
    rw [frD_def]
    have : ((a.2.natAbs : Nat) : Int) = a.2 := by omega
    show D.tup [.int a.1, .int (a.2.natAbs : Nat)] = _
    rw [this]; rfl
  · cases e) (fun a c fs e => by unfold toRat at e; split at e <;> cases e) h
def ofRat (q : Rat) : Int × Int := (q.num, q.den)
theorem se_ofRat {t : DE} {m : R Rat} (h : SE w A0 ss t m) : SE w A0 ss t (m.map ofRat) := se_co ofRat (fun q => (frD_def q).symm) h
@[simp] theorem toRat_num (q : Rat) : toRat (q.num, (q.den : Int)) = .ok q := by
  unfold toRat
  rw [dif_pos ⟨by have := q.den_pos; show (0 : Int) < (q.den : Int); omega, q.reduced⟩]
  congr 1

/-! ### tuples, lists -/
theorem se_tup2 {t1 t2 : DE} {m1 : R α} {m2 : R β} (h1 : SE w A0 ss t1 m1) (h2 : SE w A0 ss t2 m2) : SE w A0 ss (eTup (aCons t1 (aCons t2 aNil))) (m1.bind fun a => m2.bind fun b => .ok (a, b)) := fun δ A Q e hw =>
  h1.run e hw (fun _ _ => id) fun a hw => h2.run e hw (fun _ _ => id) fun b hw => ⟨by show (2 : Nat) < _; decide, hw⟩
theorem se_tup3 {t1 t2 t3 : DE} {m1 : R α} {m2 : R β} {m3 : R γ} (h1 : SE w A0 ss t1 m1) (h2 : SE w A0 ss t2 m2) (h3 : SE w A0 ss t3 m3) :
    SE w A0 ss (eTup (aCons t1 (aCons t2 (aCons t3 aNil)))) (m1.bind fun a => m2.bind fun b => m3.bind fun c => .ok (T3.mk a b c)) := fun δ A Q e hw =>
  h1.run e hw (fun _ _ => id) fun a hw => h2.run e hw (fun _ _ => id) fun b hw => h3.run e hw (fun _ _ => id) fun c hw => ⟨by show (3 : Nat) < _; decide, hw⟩
theorem se_tup4 {t1 t2 t3 t4 : DE} {m1 : R α} {m2 : R β} {m3 : R γ} {m4 : R δ'} (h1 : SE w A0 ss t1 m1) (h2 : SE w A0 ss t2 m2) (h3 : SE w A0 ss t3 m3) (h4 : SE w A0 ss t4 m4) :
    SE w A0 ss (eTup (aCons t1 (aCons t2 (aCons t3 (aCons t4 aNil))))) (m1.bind fun a => m2.bind fun b => m3.bind fun c => m4.bind fun d => .ok (T4.mk a b c d)) := fun δ A Q e hw =>
  h1.run e hw (fun _ _ => id) fun a hw => h2.run e hw (fun _ _ => id) fun b hw => h3.run e hw (fun _ _ => id) fun c hw => h4.run e hw (fun _ _ => id) fun d hw => ⟨by show (4 : Nat) < _; decide, hw⟩
theorem se_tup5 {t1 t2 t3 t4 t5 : DE} {m1 : R α} {m2 : R β} {m3 : R γ} {m4 : R δ'} {m5 : R ε} (h1 : SE w A0 ss t1 m1) (h2 : SE w A0 ss t2 m2) (h3 : SE w A0 ss t3 m3) (h4 : SE w A0 ss t4 m4) (h5 : SE w A0 ss t5 m5) :
    SE w A0 ss (eTup (aCons t1 (aCons t2 (aCons t3 (aCons t4 (aCons t5 aNil)))))) (m1.bind fun a => m2.bind fun b => m3.bind fun c => m4.bind fun d => m5.bind fun e => .ok (T5.mk a b c d e)) := fun δ A Q e hw =>
  h1.run e hw (fun _ _ => id) fun a hw => h2.run e hw (fun _ _ => id) fun b hw => h3.run e hw (fun _ _ => id) fun c hw => h4.run e hw (fun _ _ => id) fun d hw => h5.run e hw (fun _ _ => id) fun d hw => ⟨by show (5 : Nat) < _; decide, hw⟩
theorem ses_nil : SEs w A0 ss aNil (.ok ([] : List α)) := fun δ A Q e hw => hw
theorem ses_cons {t : DE} {u : DA} {m : R α} {n : R (List α)} (h : SE w A0 ss t m) (h2 : SEs w A0 ss u n) : SEs w A0 ss (aCons t u) (m.bind fun a => n.bind fun l => .ok (a :: l)) := fun δ A Q e hw =>
  h.run e hw (fun _ _ => id) fun a hw => h2.run e hw (fun _ _ => id) fun l hw => hw
/-- a list that is not too long -/
def few (l : List α) : R (List α) := if l.length < 1000000 then .ok l else .bad
omit [Enc α] in
theorem few_ok {l : List α} (h : l.length < 1000000) : few l = .ok l := if_pos h
omit [Enc α] in
@[simp] theorem few_nil : few ([] : List α) = .ok [] := rfl
omit [Enc α] in
theorem few_wp {l : List α} {V : List α → Prop} {X} (h : (few l).wp V X) : l.length < 1000000 ∧ V l := by
  unfold few at h
  split at h
  · rename_i hl; exact ⟨hl, h⟩
  · exact h.elim
theorem se_lst {t : DA} {m : R (List α)} (h : SEs w A0 ss t m) : SE w A0 ss (eLst mkF t) (m.bind few) := fun δ A Q e hw =>
  h.run e hw (fun _ _ => id) fun l hw => by
    obtain ⟨h1, h2⟩ := few_wp hw
    exact ⟨by simpa using h1, h2⟩
/-- a list's own object -/
abbrev oL (l : List α) : OT := .ao (.lst (l.map enc))
abbrev oD (d : Dic κ α) : OT := .ao (.dic (encKV d.l))
theorem so_lst {t : DA} {m : R (List α)} (h : SEs w A0 ss t m) : SO w A0 ss (eLst mkO t) (m.bind few) oL := fun δ A Q e hw =>
  h.run e hw (fun _ _ => id) fun l hw => by
    obtain ⟨h1, h2⟩ := few_wp hw
    exact ⟨by simpa using h1, fun p hp => h2 p _ (New.put hp)⟩
/-! ### operators -/
def OpE (rd : DOp) (F : α → β → R γ) : Prop := ∀ (A : AH) (a : α) (b : β) (Q : DK) X, (F a b).wp (fun c => Q (enc c) A) X → rd (enc a) (enc b) A Q
theorem se_bin {rd : DOp} {F : α → β → R γ} {t u : DE} {m : R α} {n : R β} (op : OpE rd F) (h : SE w A0 ss t m) (h2 : SE w A0 ss u n) : SE w A0 ss (eBin rd t u) (R.b2 m n F) := fun δ A Q e hw =>
  h.run e hw (fun _ _ => id) fun a hw => h2.run e hw (fun _ _ => id) fun b hw => op A a b Q _ hw
def OpV (rd : DOp) (F : α → β → R γ) : Prop := ∀ (A : AH) (x y : D) (a : α) (b : β) (Q : DK) X, vw A x a → vw A y b → (F a b).wp (fun c => Q (enc c) A) X → rd x y A Q
theorem sv_bin {rd : DOp} {F : α → β → R γ} {t u : DE} {m : R α} {n : R β} (op : OpV rd F) (h : SV w A0 ss t m) (h2 : SV w A0 ss u n) : SE w A0 ss (eBin rd t u) (R.b2 m n F) := fun δ A Q e hw =>
  h.run e hw (fun _ _ => id) fun a x hx hw => h2.run e hw (fun _ _ => id) fun b y hy hw => op A x y a b Q _ hx hy hw
theorem st_of {t : DE} {m : R Bool} (h : SE w A0 ss t m) : ST w A0 ss (bE t) m := fun δ A Q e hw => by
  rw [bE_eq]; exact h δ A _ e hw
abbrev addI (a b : Int) : R Int := .ok (a + b)
abbrev subI (a b : Int) : R Int := .ok (a - b)
theorem op_addI {mk : DL.Mk} : OpE (opAdd mk) addI := fun A a b Q X hw => hw
theorem op_subI : OpE opSub subI := fun A a b Q X hw => hw
open Classical in
noncomputable def mulI (a b : Int) : R Int := if DL.MulOk a b then .ok (a * b) else .bad
theorem mulI_ok {a b : Int} (h : DL.MulOk a b) : mulI a b = .ok (a * b) := by unfold mulI; rw [if_pos h]
theorem op_mulI : OpE opMul mulI := fun A a b Q X hw => by
  unfold mulI at hw
  split at hw
  · rename_i h; exact ⟨h, hw⟩
  · exact hw.elim
/-- a product with a number that is written -/
theorem se_mulL {t : DE} {m : R Int} (k : Int) (hk : -18446744073709551616 < k ∧ k < 18446744073709551616) (h : SE w A0 ss t m) : SE w A0 ss (eBin opMul (eC (.int k)) t) (m.map fun a => k * a) := fun δ A Q e hw =>
  h.run (Q := fun y A2 => opMul (.int k) y A2 Q) e hw (fun _ _ => id) fun a hw => ⟨.inl (by omega), hw⟩
theorem se_mulR {t : DE} {m : R Int} (k : Int) (hk : -18446744073709551616 < k ∧ k < 18446744073709551616) (h : SE w A0 ss t m) : SE w A0 ss (eBin opMul t (eC (.int k))) (m.map fun a => a * k) := fun δ A Q e hw =>
  h.run e hw (fun _ _ => id) fun a hw => ⟨.inr (.inl (by omega)), hw⟩
theorem se_divR {t : DE} {m : R Int} (k : Int) (hk : 0 < k ∧ k < 18446744073709551616) (h : SE w A0 ss t m) : SE w A0 ss (eBin opDiv t (eC (.int k))) (m.map fun a => a / k) := fun δ A Q e hw =>
  h.run e hw (fun _ _ => id) fun a hw => ⟨divOk_lit hk.1 hk.2, by rw [Int.fdiv_eq_ediv_of_nonneg _ (by omega)]; exact hw⟩
theorem se_modR {t : DE} {m : R Int} (k : Int) (hk : 0 < k) (h : SE w A0 ss t m) : SE w A0 ss (eBin opMod t (eC (.int k))) (m.map fun a => a % k) := fun δ A Q e hw =>
  h.run e hw (fun _ _ => id) fun a hw => ⟨by omega, by rw [Int.fmod_eq_emod_of_nonneg _ (by omega)]; exact hw⟩
open Classical in
noncomputable def divI (a b : Int) : R Int := if DL.DivOk b then .ok (a.fdiv b) else .bad
theorem divI_ok {a b : Int} (h : DL.DivOk b) : divI a b = .ok (a.fdiv b) := by unfold divI; rw [if_pos h]
theorem op_divI : OpE opDiv divI := fun A a b Q X hw => by
  unfold divI at hw
  split at hw
  · rename_i h; exact ⟨h, hw⟩
  · exact hw.elim
def modI (a b : Int) : R Int := if b = 0 then .bad else .ok (a.fmod b)
theorem modI_pos {a b : Int} (h : 0 < b) : modI a b = .ok (a % b) := by
  unfold modI; rw [if_neg (by omega), Int.fmod_eq_emod_of_nonneg _ (by omega)]
theorem op_modI : OpE opMod modI := fun A a b Q X hw => by
  unfold modI at hw
  split at hw
  · exact hw.elim
  · rename_i h; exact ⟨h, hw⟩
theorem se_neg {t : DE} {m : R Int} (h : SE w A0 ss t m) : SE w A0 ss (eNeg t) (m.map fun a => -a) := fun δ A Q e hw => h.run e hw (fun _ _ => id) fun a hw => hw
theorem op_cmpI {p : Int → Int → Bool} : OpE (opCmp p) (fun a b => .ok (p a b)) := fun A a b Q X hw => hw
theorem opAdd_seq {mk : DL.Mk} {x y : D} {l m : List D} {Q : DK} (hx : asL A x = some l) (hy : asL A y = some m) (hf : Few (l.length + m.length)) (h : mk (l ++ m) A Q) : opAdd mk x y A Q := by
  have e : opAdd mk x y A Q = (match asL A x, asL A y with | some l, some m => Few (l.length + m.length) ∧ mk (l ++ m) A Q | _, _ => False) := by
    cases x <;> (first | (exfalso; cases hx; done) | (cases y <;> first | (exfalso; cases hy; done) | rfl))
  rw [e, hx, hy]; exact ⟨hf, h⟩
theorem op_cat : OpV (opAdd mkF) (fun (a b : List α) => few (a ++ b)) := fun A x y a b Q X hx hy hw => by
  obtain ⟨h1, h2⟩ := few_wp hw
  refine opAdd_seq hx hy (by simpa using h1) ?_
  rw [← List.map_append]; exact h2
/-! ### and, or, not -/
theorem st_not {t : DT} {m : R Bool} (h : ST w A0 ss t m) : ST w A0 ss (bNot t) (m.map (!·)) := fun δ A Q e hw => h.run e hw (fun _ _ => id) fun a hw => hw
abbrev andB (m n : R Bool) : R Bool := m.bind fun b => if b = true then n else .ok false
abbrev orB (m n : R Bool) : R Bool := m.bind fun b => if b = true then .ok true else n
theorem st_or {t u : DT} {m n : R Bool} (h : ST w A0 ss t m) (h2 : ST w A0 ss u n) : ST w A0 ss (bOr t u) (orB m n) := fun δ A Q e hw => h.run e hw (fun _ _ => id) fun a hw => by
  cases a with
  | true => exact ⟨fun _ => hw, fun h => (nomatch h)⟩
  | false => exact ⟨fun h => (nomatch h), fun _ => h2 δ A Q e hw⟩
theorem se_and {t u : DE} {m n : R Bool} (h : SE w A0 ss t m) (h2 : SE w A0 ss u n) : SE w A0 ss (eAnd t u) (andB m n) := fun δ A Q e hw => h.run e hw (fun _ _ => id) fun a hw => by
  cases a with
  | true => exact ⟨fun _ => h2 δ A Q e hw, fun h => (nomatch h)⟩
  | false => exact ⟨fun h => (nomatch h), fun _ => hw⟩
end
/-! ### is None, == -/
class NN (α : Type) [Enc α] : Prop where
  nn : ∀ a : α, (enc a).isNon = false
instance : NN Int := ⟨fun _ => rfl⟩
instance : NN Bool := ⟨fun _ => rfl⟩
instance : NN Str := ⟨fun _ => rfl⟩
instance : NN Rat := ⟨fun q => non_fr⟩
instance : NN TieV := ⟨fun _ => rfl⟩
section
variable {α β γ δ' ε ζ κ : Type} [Enc α] [Enc β] [Enc γ] [Enc δ'] [Enc ε] [Enc ζ] [KeyT κ]
instance : NN (T1 α) := ⟨fun _ => rfl⟩
instance : NN (α × β) := ⟨fun _ => rfl⟩
instance : NN (T3 α β γ) := ⟨fun _ => rfl⟩
instance : NN (T4 α β γ δ') := ⟨fun _ => rfl⟩
instance : NN (T5 α β γ δ' ε) := ⟨fun _ => rfl⟩
instance : NN (T6 α β γ δ' ε ζ) := ⟨fun _ => rfl⟩
instance : NN (List α) := ⟨fun _ => rfl⟩
instance : NN (Dic κ α) := ⟨fun _ => rfl⟩
variable {w : DW} {A0 A : AH} {ss : List Sl} {δ : DSt} {Q : DK}
theorem se_isN [NN α] {t : DE} {m : R (Option α)} (neg : Bool) (h : SE w A0 ss t m) : SE w A0 ss (eBin (opIs neg) t (eC .non)) (m.map fun o => xor neg o.isNone) := fun δ A Q e hw =>
  h.run e hw (fun _ _ => id) fun o hw => by
    show Q (.bl (xor neg (enc o : D).isNon)) A
    cases o with
    | none => exact hw
    | some a =>
      have : (enc (some a) : D).isNon = false := NN.nn a
      rw [this]; exact hw
/-- data that may be compared -/
class EqD (α : Type) [Enc α] [DecidableEq α] where
  good : α → Prop
  dep : Nat
  dt_enc : ∀ (a : α) (n : Nat), good a → dep ≤ n → dt n (enc a) = true
  deq_enc : ∀ a b : α, good a → good b → deq (enc a) (enc b) = decide (a = b)
  vw_dt : ∀ (A : AH) (d : D) (a : α) (n : Nat), vw A d a → dt n (enc a) = true → dt n (drf A d) = true
  vw_deq : ∀ (A : AH) (x y : D) (a b : α), vw A x a → vw A y b → deq (drf A x) (drf A y) = deq (enc a) (enc b)
end
end TF


/-! TF2: typed statements. -/
namespace TF
open PySem PySem.Spec PyProof.Rows L2 DL FR
open Enc KeyT
/-- a turn's end -/
inductive Fl (σ ρ : Type) where
  | nx (s : σ) | bk (s : σ) | rt (r : ρ)
def R.flow {σ ρ τ : Type} (m : R (Fl σ ρ)) (k : σ → R τ) (kr : ρ → R τ) : R τ := m.bind fun r => match r with
  | .nx s => k s
  | .bk s => k s
  | .rt r => kr r
section
variable {α β γ σ ρ τ κ : Type} [Enc α] [Enc β] [Enc γ] [Enc ρ] [KeyT κ]
variable {w : DW} {A0 A : AH} {X : String → List (String × D) → Prop} {D0 : DEnds} {V : τ → Prop} {ss : List Sl} {δ : DSt} {Q : DK}
/-- what is let out is wished for -/
abbrev WX (A0 : AH) (w : DW) (X : String → List (String × D) → Prop) : Prop := ∀ c fs δ A, Sub A0 A → X c fs → w c fs δ A
/-- .. where the slots stand so -/
abbrev WE (A0 : AH) (w : DW) (X : String → List (String × D) → Prop) (ss : List Sl) : Prop := ∀ c fs δ A, Env A0 ss δ A → X c fs → w c fs δ A
theorem we {ss : List Sl} (h : WX A0 w X) : WE A0 w X ss := fun c fs δ A e => h c fs δ A e.sub
def SS (A0 : AH) (X : String → List (String × D) → Prop) (D0 : DEnds) (V : τ → Prop) (ss : List Sl) (s : DS) (m : R τ) : Prop := ∀ (δ : DSt) (A : AH), Env A0 ss δ A → m.wp V X → s D0 δ A
def mask : List Bool → List Sl → List Sl
  | true :: bs, s :: ss => s :: mask bs ss
  | false :: bs, _ :: ss => .emp :: mask bs ss
  | _, ss => ss
theorem EnvR.mask {B : List Addr} {ss : List Sl} {δ : DSt} (h : EnvR A0 A B ss δ) : ∀ bs, ∃ B', (∀ a ∈ B', a ∈ B) ∧ EnvR A0 A B' (mask bs ss) δ := by
  induction h with
  | nil => intro bs; cases bs with
    | nil => exact ⟨[], fun _ h => h, .nil⟩
    | cons b bs => cases b <;> exact ⟨[], fun _ h => h, .nil⟩
  | emp r ih => intro bs; cases bs with
    | nil => exact ⟨_, fun _ h => h, .emp r⟩
    | cons b bs => obtain ⟨B', h1, h2⟩ := ih bs; cases b <;> exact ⟨B', h1, .emp h2⟩
  | val r ih => intro bs; cases bs with
    | nil => exact ⟨_, fun _ h => h, .val r⟩
    | cons b bs => obtain ⟨B', h1, h2⟩ := ih bs; cases b with
      | true => exact ⟨B', h1, .val h2⟩
      | false => exact ⟨B', h1, .emp h2⟩
  | own r o h1 h2 ih => intro bs; cases bs with
    | nil => exact ⟨_, fun _ h => h, .own r o h1 h2⟩
    | cons b bs => obtain ⟨B', q1, q2⟩ := ih bs; cases b with
      | true => exact ⟨_, fun a h => (List.mem_append.mp h).elim (List.mem_append_left _) fun h => List.mem_append_right _ (q1 a h), .own q2 o (fun a ha hb => h1 a ha (q1 a hb)) h2⟩
      | false => exact ⟨_, fun a h => List.mem_append_right _ (q1 a h), .emp q2⟩
theorem Env.mask (h : Env A0 ss δ A) (bs : List Bool) : Env A0 (mask bs ss) δ A := by
  obtain ⟨s, B, h⟩ := h
  obtain ⟨B', _, q⟩ := h.mask bs
  exact ⟨s, B', q⟩
/-! ### targets -/
def SG (A0 : AH) (g : DG) (d : D) (ss ss' : List Sl) : Prop := ∀ (δ : DSt) (A : AH) (K : DSt → AH → Prop), Env A0 ss δ A → (∀ δ', Env A0 ss' δ' A → K δ' A) → g d δ A K
theorem sg_name {d : D} {i : Nat} : SG A0 (dgName i) d ss (ss.set i (.val d)) := fun δ A K e k => k _ (e.set_val i d)
theorem sg_tup2 {d a b : D} {i j : Nat} (h : d = .tup [a, b]) : SG A0 (dgTup 2 (dgCons (dgName i) (dgCons (dgName j) dgNil))) d ss ((ss.set i (.val a)).set j (.val b)) := fun δ A K e k => by
  subst h; exact ⟨rfl, k _ ((e.set_val i a).set_val j b)⟩
theorem sg_tup3 {d a b c : D} {i j k : Nat} (h : d = .tup [a, b, c]) : SG A0 (dgTup 3 (dgCons (dgName i) (dgCons (dgName j) (dgCons (dgName k) dgNil)))) d ss (((ss.set i (.val a)).set j (.val b)).set k (.val c)) := fun δ A K e kk => by
  subst h; exact ⟨rfl, kk _ (((e.set_val i a).set_val j b).set_val k c)⟩
theorem sg_tup4 {d a b c x : D} {i j k l : Nat} (h : d = .tup [a, b, c, x]) : SG A0 (dgTup 4 (dgCons (dgName i) (dgCons (dgName j) (dgCons (dgName k) (dgCons (dgName l) dgNil))))) d ss ((((ss.set i (.val a)).set j (.val b)).set k (.val c)).set l (.val x)) := fun δ A K e kk => by
  subst h; exact ⟨rfl, kk _ ((((e.set_val i a).set_val j b).set_val k c).set_val l x)⟩
theorem sg_tup5 {d a b c x y : D} {i j k l m : Nat} (h : d = .tup [a, b, c, x, y]) : SG A0 (dgTup 5 (dgCons (dgName i) (dgCons (dgName j) (dgCons (dgName k) (dgCons (dgName l) (dgCons (dgName m) dgNil)))))) d ss (((((ss.set i (.val a)).set j (.val b)).set k (.val c)).set l (.val x)).set m (.val y)) := fun δ A K e kk => by
  subst h; exact ⟨rfl, kk _ (((((e.set_val i a).set_val j b).set_val k c).set_val l x).set_val m y)⟩
/-! ### blocks -/
theorem ss_one {s : DS} {m : R τ} (h : SS A0 X D0 V ss (sSeq s sNext) m) : SS A0 X D0 V ss s m := h
theorem ss_norm {J : List Sl} {s : DS} {m : R τ} (hj : ss = J) (h : SS A0 X D0 V J s m) : SS A0 X D0 V ss s m := hj ▸ h
theorem ss_into {rest : DS} {m : R τ} (h : SS A0 X D0 V ss rest m) : SS A0 X { D0 with nx := rest D0 } V ss sNext m := h
theorem ss_next {v : τ} {J : List Sl} (bs : List Bool) (hj : mask bs ss = J) (hn : ∀ δ A, V v → Env A0 J δ A → D0.nx δ A) : SS A0 X D0 V ss sNext (.ok v) := fun δ A e hv =>
  hn δ A hv (hj ▸ e.mask bs)
/-! ### x = e -/
theorem ss_asg {i : Nat} {te : DE} {rest : DS} {m : R α} {k : α → R τ} (hw : WE A0 w X ss) (he : SE w A0 ss te m) (hr : ∀ a, SS A0 X D0 V (ss.set i (.val (enc a))) rest (k a)) : SS A0 X D0 V ss (sSeq (sAsg te (dgName i)) rest) (m.bind k) := fun δ A e h =>
  he.run (Q := fun d A1 => dgName i d δ A1 (rest D0)) e h (fun c fs => hw c fs δ A e) fun a ha => hr a _ _ (e.set_val i _) ha
theorem ss_asgO {i : Nat} {te : DE} {rest : DS} {m : R σ} {o : σ → OT} {k : σ → R τ} (hw : WE A0 w X ss) (he : SO w A0 ss te m o) (hr : ∀ a, SS A0 X D0 V (ss.set i (.own (o a))) rest (k a)) : SS A0 X D0 V ss (sSeq (sAsg te (dgName i)) rest) (m.bind k) := fun δ A e h =>
  he.run (Q := fun d A1 => dgName i d δ A1 (rest D0)) e h (fun c fs => hw c fs δ A e) fun a p A' hn ha => by
    obtain ⟨C, h1, h2, h3⟩ := hn.ex
    exact hr a _ _ (e.new h1 h2 h3) ha
theorem ss_asgT {g : DG} {te : DE} {rest : DS} {m : R α} {k : α → R τ} {J : α → List Sl} (hw : WE A0 w X ss) (he : SE w A0 ss te m) (hg : ∀ a, SG A0 g (enc a) ss (J a)) (hr : ∀ a, SS A0 X D0 V (J a) rest (k a)) : SS A0 X D0 V ss (sSeq (sAsg te g) rest) (m.bind k) := fun δ A e h =>
  he.run (Q := fun d A1 => g d δ A1 (rest D0)) e h (fun c fs => hw c fs δ A e) fun a ha => hg a δ A _ e fun δ' e' => hr a _ _ e' ha
theorem ss_par {i j : Nat} {t u : DE} {rest : DS} {m : R α} {n : R β} {k : α → β → R τ} (hw : WE A0 w X ss) (h1 : SE w A0 ss t m) (h2 : SE w A0 ss u n) (hr : ∀ a b, SS A0 X D0 V ((ss.set i (.val (enc a))).set j (.val (enc b))) rest (k a b)) : SS A0 X D0 V ss (sSeq (sPar i j (aCons t (aCons u aNil))) rest) (R.b2 m n k) := fun δ A e h => by
  rw [sSeq_eq, sPar_eq, aCons_eq]
  refine h1.run e h (fun c fs => hw c fs δ A e) fun a ha => ?_
  rw [aCons_eq]
  refine h2.run e ha (fun c fs => hw c fs δ A e) fun b hb => ?_
  exact hr a b _ _ ((e.set_val i _).set_val j _) hb
/-! ### a list, a dict of its own is changed -/
theorem ss_app {i : Nat} {te : DE} {rest : DS} {m : R α} {l : List α} {k : List α → R τ} (hw : WE A0 w X ss) (hi : ss[i]? = some (.own (oL l))) (he : SE w A0 ss te m) (hr : ∀ l', SS A0 X D0 V (ss.set i (.own (oL l'))) rest (k l')) :
    SS A0 X D0 V ss (sSeq (sDrop (eMt "list" mApp (eVar i) (aCons te aNil))) rest) (m.bind fun a => (few l).bind fun _ => (R.ok (l ++ [a])).bind k) := fun δ A e h => by
  obtain ⟨p, h1, h2, _⟩ := e.get_own hi
  rw [sSeq_eq, sDrop_eq, eMt_eq, eVar_eq h1]
  refine ⟨by rw [tyM_ref h2], ?_⟩
  rw [aCons_eq]
  refine he.run e h (fun c fs => hw c fs δ A e) fun a ha => ?_
  rw [R.wp_bind] at ha
  obtain ⟨hl, ha⟩ := few_wp ha
  rw [aNil_eq, mApp_eq]; simp only [h2]
  refine ⟨by simpa using hl, ?_⟩
  obtain ⟨p', q1, q2, q3⟩ := e.upd_own (o' := .lst ((l ++ [a]).map enc)) hi
  rw [h1] at q1; cases q1
  have := hr (l ++ [a]) _ _ q3 ha
  rw [List.map_append] at this; exact this
theorem ss_rev {i : Nat} {rest : DS} {l : List α} {n : R τ} (hi : ss[i]? = some (.own (oL l))) (hr : SS A0 X D0 V (ss.set i (.own (oL l.reverse))) rest n) :
    SS A0 X D0 V ss (sSeq (sDrop (eMt "list" mRev (eVar i) aNil)) rest) n := fun δ A e h => by
  obtain ⟨p, h1, h2, _⟩ := e.get_own hi
  rw [sSeq_eq, sDrop_eq, eMt_eq, eVar_eq h1]
  refine ⟨by rw [tyM_ref h2], ?_⟩
  rw [aNil_eq, mRev_eq]; simp only [h2]
  obtain ⟨p', q1, q2, q3⟩ := e.upd_own (o' := .lst (l.reverse.map enc)) hi
  rw [h1] at q1; cases q1
  have := hr _ _ q3 h
  rw [List.map_reverse] at this; exact this
/-- x[k] = e, x a list -/
def setL (l : List α) (k : Int) (a : α) : R (List α) := match ixN l.length k with
  | some j => .ok (l.set j a)
  | none => .bad
/-- a dict with a value put at a key -/
def Dic.put [DecidableEq κ] (d : Dic κ α) (k : κ) (a : α) : Dic κ α := ⟨if d.l.any (fun p => decide (p.1 = k)) then d.l.map (fun p => if p.1 = k then (p.1, a) else p) else d.l ++ [(k, a)]⟩
theorem encKV_put [DecidableEq κ] (d : Dic κ α) (k : κ) (a : α) : putKD (encKV d.l) (key k) (enc a) = encKV (d.put k a).l := by
  unfold putKD Dic.put encKV
  have e : ((d.l.map fun p => (key p.1, enc p.2)).any fun kv => decide (kv.1 = key k)) = d.l.any fun p => decide (p.1 = k) := by
    rw [List.any_map]; congr 1; funext p
    exact decide_eq_decide.mpr ⟨fun h => KeyT.inj h, fun h => by show key p.1 = key k; rw [h]⟩
  rw [e]
  dsimp only
  split
  · rw [List.map_map, List.map_map]
    apply List.map_congr_left
    intro p _
    by_cases hp : p.1 = k
    · simp [hp]
    · have : ¬ key p.1 = key k := fun h => hp (KeyT.inj h)
      simp [hp, this]
  · rw [List.map_append]; rfl
class KeyD (κ : Type) [Enc κ] [KeyT κ] : Prop where
  ok : ∀ k : κ, asKey (enc k) = some (key k)
instance : KeyD Int := ⟨fun _ => rfl⟩
instance : KeyD Str := ⟨fun _ => rfl⟩
def fewD (d : Dic κ α) : R Unit := if d.l.length < 1000000 then .ok () else .bad
theorem ss_setD [Enc κ] [KeyD κ] [DecidableEq κ] {i : Nat} {te ti : DE} {rest : DS} {m : R α} {n : R κ} {d : Dic κ α} {k : Dic κ α → R τ} (hw : WE A0 w X ss) (hi : ss[i]? = some (.own (oD d))) (he : SE w A0 ss te m) (hk : SE w A0 ss ti n) (hr : ∀ d', SS A0 X D0 V (ss.set i (.own (oD d'))) rest (k d')) :
    SS A0 X D0 V ss (sSeq (sAsg te (dgSub (eVar i) ti)) rest) (m.bind fun a => n.bind fun j => (fewD d).bind fun _ => (R.ok (d.put j a)).bind k) := fun δ A e h => by
  obtain ⟨p, h1, h2, _⟩ := e.get_own hi
  rw [sSeq_eq, sAsg_eq]
  refine he.run e h (fun c fs => hw c fs δ A e) fun a ha => ?_
  rw [dgSub_eq, eVar_eq h1]
  refine hk.run e ha (fun c fs => hw c fs δ A e) fun j hj => ?_
  unfold fewD at hj
  split at hj
  · rename_i hl
    show setD (.ref p) (enc j) (enc a) A _
    unfold setD
    simp only [h2, KeyD.ok]
    refine ⟨by simpa [encKV] using hl, ?_⟩
    obtain ⟨p', q1, q2, q3⟩ := e.upd_own (o' := .dic (encKV (d.put j a).l)) hi
    rw [h1] at q1; cases q1
    rw [encKV_put]; exact hr _ _ _ q3 hj
  · exact hj.elim
/-! ### return, raise -/
theorem ss_ret {te : DE} {m : R α} {k : α → R τ} (hw : WE A0 w X ss) (he : SE w A0 ss te m) (hrt : ∀ a A', Sub A0 A' → (k a).wp V X → D0.rt (enc a) A') : SS A0 X D0 V ss (sRet te) (m.bind k) := fun δ A e h =>
  he.run (Q := D0.rt) e h (fun c fs => hw c fs δ A e) fun a ha => hrt a A e.sub ha
theorem ss_ret1 {te : DE} {m : R τ} [Enc τ] (hw : WE A0 w X ss) (he : SE w A0 ss te m) (hrt : ∀ a A', Sub A0 A' → V a → D0.rt (enc a) A') : SS A0 X D0 V ss (sRet te) m := fun δ A e h =>
  he δ A D0.rt e (R.wp_imp h (fun a ha => hrt a A e.sub ha) fun c fs => hw c fs δ A e)
/-! ### if -/
theorem ss_if {c : DT} {s1 s2 : DS} {m : R Bool} {m1 m2 : R τ} (hw : WE A0 w X ss) (ht : ST w A0 ss c m) (h1 : SS A0 X D0 V ss s1 m1) (h2 : SS A0 X D0 V ss s2 m2) : SS A0 X D0 V ss (sIf c s1 s2) (R.cond m m1 m2) := fun δ A e h =>
  ht.run e h (fun c fs => hw c fs δ A e) fun a ha => by
    cases a with
    | true => exact ⟨fun _ => h1 _ _ e ha, fun h => (nomatch h)⟩
    | false => exact ⟨fun h => (nomatch h), fun _ => h2 _ _ e ha⟩
theorem ss_ifs {c : DT} {s1 s2 rest : DS} {m : R Bool} {m1 m2 : R τ} (hw : WE A0 w X ss) (ht : ST w A0 ss c m) (h1 : SS A0 X { D0 with nx := rest D0 } V ss s1 m1) (h2 : SS A0 X { D0 with nx := rest D0 } V ss s2 m2) : SS A0 X D0 V ss (sSeq (sIf c s1 s2) rest) (R.cond m m1 m2) :=
  ss_if (D0 := { D0 with nx := rest D0 }) hw ht h1 h2
/-- two ways that come together -/
theorem ss_join {s rest : DS} {m : R σ} {k : σ → R τ} (J : σ → List Sl) (h1 : ∀ (V' : σ → Prop) (N : DSt → AH → Prop), (∀ st δ A, V' st → Env A0 (J st) δ A → N δ A) → SS A0 X { D0 with nx := N } V' ss s m)
    (h2 : ∀ st, SS A0 X D0 V (J st) rest (k st)) : SS A0 X D0 V ss (sSeq s rest) (m.bind k) := fun δ A e h => by
  rw [R.wp_bind] at h
  exact h1 (fun st => (k st).wp V X) (rest D0) (fun st δ A hv e => h2 st δ A e hv) δ A e h
/-! ### for -/
/-- what a for walks: it stays so as long as what stood at first stands -/
def SIF (w : DW) (A0 : AH) (ss : List Sl) (it : DI) (m : R (List σ)) (f : σ → D) : Prop := ∀ (δ : DSt) (A : AH) (K : List D → (AH → Prop) → AH → Prop), Env A0 ss δ A → m.wp (fun l => ∀ g : AH → Prop, (∀ A', Sub A0 A' → g A') → K (l.map f) g A) (fun c fs => w c fs δ A) → it δ A K
def foldR : List α → σ → (α → σ → R σ) → R σ
  | [], s, _ => .ok s
  | x :: l, s, f => (f x s).bind fun s => foldR l s f
def forR : List α → σ → (α → σ → R (Fl σ ρ)) → R (Fl σ ρ)
  | [], s, _ => .ok (.nx s)
  | x :: l, s, f => (f x s).bind fun r => match r with
    | .nx s => forR l s f
    | .bk s => .ok (.nx s)
    | .rt r => .ok (.rt r)
theorem ss_for {it : DI} {g : DG} {body rest : DS} {mi : R (List α)} {fe : α → D} {f : α → σ → R σ} {st0 : σ} {k : σ → R τ} (hw : WE A0 w X ss) (J : σ → List Sl) (J1 : α → σ → List Sl) (bs : List Bool) (hj : mask bs ss = J st0) (hi : SIF w A0 ss it mi fe)
    (hg : ∀ x st, SG A0 g (fe x) (J st) (J1 x st)) (hb : ∀ (V' : σ → Prop) (N B : DSt → AH → Prop), (∀ st δ A, V' st → Env A0 (J st) δ A → N δ A) → ∀ x st, SS A0 X { D0 with nx := N, ct := N, bk := B } V' (J1 x st) body (f x st))
    (hr : ∀ st, SS A0 X D0 V (J st) rest (k st)) : SS A0 X D0 V ss (sSeq (sFor it g body) rest) (mi.bind fun l => (foldR l st0 f).bind k) := fun δ A e h => by
  rw [R.wp_bind] at h
  rw [sSeq_eq, sFor_eq]
  refine hi δ A _ e (R.wp_imp h (fun l hl gd hgd => ?_) fun c fs => hw c fs δ A e)
  have key : ∀ (l : List α) (st : σ) (δ : DSt) (A : AH), Env A0 (J st) δ A → ((foldR l st f).bind k).wp V X → forD gd g body { D0 with nx := rest D0 } (l.map fe) δ A := by
    intro l
    induction l with
    | nil => intro st δ A e h; exact ⟨hgd A e.sub, hr st δ A e h⟩
    | cons x l ih =>
      intro st δ A e h
      refine ⟨hgd A e.sub, hg x st δ A _ e fun δ' e' => ?_⟩
      have h' : ((f x st).bind fun s => (foldR l s f).bind k).wp V X := by
        have : (foldR (x :: l) st f).bind k = (f x st).bind fun s => (foldR l s f).bind k := R.bind_assoc
        rw [← this]; exact h
      rw [R.wp_bind] at h'
      exact hb (fun s => ((foldR l s f).bind k).wp V X) _ _ (fun st δ A hv e => ih st δ A e hv) x st δ' A e' h'
  exact key l st0 δ A (hj ▸ e.mask bs) hl
theorem ss_forF {it : DI} {g : DG} {body rest : DS} {mi : R (List α)} {fe : α → D} {f : α → σ → R (Fl σ ρ)} {st0 : σ} {k : σ → R τ} {kr : ρ → R τ} (hw : WE A0 w X ss) (J : σ → List Sl) (J1 : α → σ → List Sl) (bs : List Bool) (hj : mask bs ss = J st0) (hi : SIF w A0 ss it mi fe)
    (hrt : ∀ r A', Sub A0 A' → (kr r).wp V X → D0.rt (enc r) A') (hg : ∀ x st, SG A0 g (fe x) (J st) (J1 x st))
    (hb : ∀ (V' : Fl σ ρ → Prop) (N B : DSt → AH → Prop), (∀ st δ A, V' (.nx st) → Env A0 (J st) δ A → N δ A) → (∀ st δ A, V' (.bk st) → Env A0 (J st) δ A → B δ A) → (∀ r A', Sub A0 A' → V' (.rt r) → D0.rt (enc r) A') → ∀ x st, SS A0 X { D0 with nx := N, ct := N, bk := B } V' (J1 x st) body (f x st))
    (hr : ∀ st, SS A0 X D0 V (J st) rest (k st)) : SS A0 X D0 V ss (sSeq (sFor it g body) rest) (mi.bind fun l => R.flow (forR l st0 f) k kr) := fun δ A e h => by
  rw [R.wp_bind] at h
  rw [sSeq_eq, sFor_eq]
  refine hi δ A _ e (R.wp_imp h (fun l hl gd hgd => ?_) fun c fs => hw c fs δ A e)
  have key : ∀ (l : List α) (st : σ) (δ : DSt) (A : AH), Env A0 (J st) δ A → ((forR l st f).bind fun r => match r with
      | .nx s => k s
      | .bk s => k s
      | .rt r => kr r).wp V X → forD gd g body { D0 with nx := rest D0 } (l.map fe) δ A := by
    intro l
    induction l with
    | nil => intro st δ A e h; exact ⟨hgd A e.sub, hr st δ A e h⟩
    | cons x l ih =>
      intro st δ A e h
      refine ⟨hgd A e.sub, hg x st δ A _ e fun δ' e' => ?_⟩
      have h' : (f x st).wp (fun r => match r with
          | .nx s => ((forR l s f).bind fun r => match r with
              | .nx s => k s
              | .bk s => k s
              | .rt r => kr r).wp V X
          | .bk s => (k s).wp V X
          | .rt r => (kr r).wp V X) X := by
        have h2 := h
        unfold forR at h2
        rw [R.bind_assoc, R.wp_bind] at h2
        refine R.wp_imp h2 (fun r hr => ?_) fun _ _ h => h
        cases r <;> exact hr
      exact hb _ _ _ (fun st δ A hv e => ih st δ A e hv) (fun st δ A hv e => hr st δ A e hv) (fun r A' s hv => hrt r A' s hv) x st δ' A e' h'
  exact key l st0 δ A (hj ▸ e.mask bs) hl
end
end TF


/-! TF3: ==, in, subscripts, slices, built-in functions, calls, comprehensions. -/
namespace TF
open PySem PySem.Spec PyProof.Rows L2 DL FR
open Enc KeyT
/-! ### data that may be compared -/
instance : EqD Int := ⟨fun _ => True, 0, fun a n _ _ => dt_int, fun a b _ _ => by simp [enc]; exact (Bool.beq_eq_decide_eq a b), fun A d a n h q => by rw [h]; exact q, fun A x y a b h k => by rw [h, k]; rfl⟩
instance : EqD Bool := ⟨fun _ => True, 0, fun a n _ _ => dt_bl, fun a b _ _ => by simp [enc]; exact (Bool.beq_eq_decide_eq a b), fun A d a n h q => by rw [h]; exact q, fun A x y a b h k => by rw [h, k]; rfl⟩
instance : EqD Str := ⟨fun s => PyData.strOk s = true, 0, fun a n h _ => by show dt n (.str a) = true; rw [dt_str]; exact h, fun a b _ _ => by simp [enc]; exact (Bool.beq_eq_decide_eq a b), fun A d a n h q => by rw [h]; exact q, fun A x y a b h k => by rw [h, k]; rfl⟩
theorem dt_frn {q : Rat} {n : Nat} (h : 1 ≤ n) : dt n (frD q) = true := by
  obtain ⟨k, rfl⟩ : ∃ k, n = k + 1 := ⟨n - 1, by omega⟩
  exact dt_fr
instance : EqD Rat := ⟨fun _ => True, 1, fun a n _ h => dt_frn h, fun a b _ _ => deq_fr, fun A d a n h q => by rw [h]; show dt n (drf A (frD a)) = true; rw [drf_fr]; exact q, fun A x y a b h k => by rw [h, k]; show deq (drf A (frD a)) (drf A (frD b)) = _; rw [drf_fr, drf_fr]; rfl⟩
theorem drf_nr {A : AH} {d : D} (h : ∀ a, d ≠ .ref a) : drf A d = d := by
  cases d with
  | ref a => exact absurd rfl (h a)
  | _ => rfl
/-- never a changing object -/
class NR (α : Type) [Enc α] : Prop where
  nr : ∀ (a : α) p, enc a ≠ .ref p
  vw : ∀ {A d} {a : α}, vw A d a → d = enc a
section
variable {α β γ δ' ε ζ κ : Type} [Enc α] [Enc β] [Enc γ] [Enc δ'] [Enc ε] [Enc ζ] [KeyT κ]
instance : NR Int := ⟨fun _ _ h => D.noConfusion h, fun h => h⟩
instance : NR Bool := ⟨fun _ _ h => D.noConfusion h, fun h => h⟩
instance : NR Str := ⟨fun _ _ h => D.noConfusion h, fun h => h⟩
instance : NR Rat := ⟨fun _ _ h => by rw [enc_rat, frD_def] at h; exact D.noConfusion h, fun h => h⟩
instance : NR TieV := ⟨fun _ _ h => D.noConfusion h, fun h => h⟩
instance : NR (T1 α) := ⟨fun _ _ h => D.noConfusion h, fun h => h⟩
instance : NR (α × β) := ⟨fun _ _ h => D.noConfusion h, fun h => h⟩
instance : NR (T3 α β γ) := ⟨fun _ _ h => D.noConfusion h, fun h => h⟩
instance : NR (T4 α β γ δ') := ⟨fun _ _ h => D.noConfusion h, fun h => h⟩
instance : NR (T5 α β γ δ' ε) := ⟨fun _ _ h => D.noConfusion h, fun h => h⟩
instance : NR (T6 α β γ δ' ε ζ) := ⟨fun _ _ h => D.noConfusion h, fun h => h⟩
theorem enc_none : (enc (none : Option α) : D) = .non := rfl
theorem enc_somE (a : α) : (enc (some a) : D) = enc a := rfl
instance [NR α] : NR (Option α) := ⟨fun a p h => by
  cases a with
  | none => exact D.noConfusion h
  | some a => exact NR.nr a p h, fun h => h⟩
theorem vw_dtNR [NR α] (A : AH) (d : D) (a : α) (n : Nat) (h : vw A d a) (q : dt n (enc a) = true) : dt n (drf A d) = true := by
  rw [NR.vw h, drf_nr (NR.nr a)]; exact q
theorem vw_deqNR [NR α] (A : AH) (x y : D) (a b : α) (h : vw A x a) (k : vw A y b) : deq (drf A x) (drf A y) = deq (enc a) (enc b) := by
  rw [NR.vw h, NR.vw k, drf_nr (NR.nr a), drf_nr (NR.nr b)]
def Dic.get? [DecidableEq κ] (d : Dic κ α) (k : κ) : Option α := (d.l.find? fun p => decide (p.1 = k)).map (·.2)
theorem dget_enc [DecidableEq κ] (d : Dic κ α) (k : κ) : dget (encKV d.l) (key k) = (d.get? k).map enc := by
  unfold dget Dic.get? encKV
  rw [List.find?_map]
  have e : ((fun kv : Key × D => decide (kv.1 = key k)) ∘ fun p : κ × α => (key p.1, enc p.2)) = fun p => decide (p.1 = k) := by
    funext p; exact decide_eq_decide.mpr ⟨fun h => KeyT.inj h, fun h => by show key p.1 = key k; rw [h]⟩
  rw [e]
  cases d.l.find? fun p => decide (p.1 = k) <;> rfl
variable [DecidableEq α] [DecidableEq β] [DecidableEq γ] [DecidableEq δ'] [DecidableEq ε] [DecidableEq ζ] [EqD α] [EqD β] [EqD γ] [EqD δ'] [EqD ε] [EqD ζ]
theorem deq_non {d : D} (h : d.isNon = false) : deq .non d = false ∧ deq d .non = false := by
  cases d <;> first | exact absurd h (by decide) | exact ⟨by simp [deq], by simp [deq]⟩
instance [NN α] [NR α] : EqD (Option α) where
  good o := ∀ a, o = some a → EqD.good a
  dep := EqD.dep α
  dt_enc a n h hn := by
    cases a with
    | none => exact dt_non
    | some a => exact EqD.dt_enc a n (h a rfl) hn
  deq_enc a b h k := by
    cases a with
    | none => cases b with
      | none => simp [enc_none, deq]
      | some b => rw [enc_none, enc_somE, (deq_non (NN.nn b)).1]; simp
    | some a => cases b with
      | none => rw [enc_none, enc_somE, (deq_non (NN.nn a)).2]; simp
      | some b => rw [enc_somE, enc_somE, EqD.deq_enc a b (h a rfl) (k b rfl)]; simp
  vw_dt A d a n h q := vw_dtNR A d a n h q
  vw_deq A x y a b h k := vw_deqNR A x y a b h k
theorem dt_t {l : List D} {n : Nat} (h : 1 ≤ n) (q : dts (n - 1) l = true) : dt n (.tup l) = true := by
  obtain ⟨k, rfl⟩ : ∃ k, n = k + 1 := ⟨n - 1, by omega⟩
  rw [dt_tup]; exact q
instance : EqD (T1 α) where
  good t := EqD.good t.a
  dep := EqD.dep α + 1
  dt_enc t n h hn := dt_t (by omega) (by simp only [dts_cons, dts_nil, Bool.and_true]; exact EqD.dt_enc _ _ h (by omega))
  deq_enc a b h k := by
    show deq (.tup [enc a.a]) (.tup [enc b.a]) = _
    rw [deq_tup, deqs_cons, deqs_nil, EqD.deq_enc _ _ h k, Bool.and_true]
    cases a; cases b; simp
  vw_dt A d a n h q := vw_dtNR A d a n h q
  vw_deq A x y a b h k := vw_deqNR A x y a b h k
instance : EqD (α × β) where
  good t := EqD.good t.1 ∧ EqD.good t.2
  dep := max (EqD.dep α) (EqD.dep β) + 1
  dt_enc t n h hn := dt_t (by omega) (by simp only [dts_cons, dts_nil, Bool.and_true, Bool.and_eq_true]; exact ⟨EqD.dt_enc _ _ h.1 (by omega), EqD.dt_enc _ _ h.2 (by omega)⟩)
  deq_enc a b h k := by
    show deq (.tup [enc a.1, enc a.2]) (.tup [enc b.1, enc b.2]) = _
    rw [deq_tup, deqs_cons, deqs_cons, deqs_nil, EqD.deq_enc _ _ h.1 k.1, EqD.deq_enc _ _ h.2 k.2, Bool.and_true]
    cases a; cases b; simp
  vw_dt A d a n h q := vw_dtNR A d a n h q
  vw_deq A x y a b h k := vw_deqNR A x y a b h k
instance : EqD (T3 α β γ) where
  good t := EqD.good t.a ∧ EqD.good t.b ∧ EqD.good t.c
  dep := max (EqD.dep α) (max (EqD.dep β) (EqD.dep γ)) + 1
  dt_enc t n h hn := dt_t (by omega) (by simp only [dts_cons, dts_nil, Bool.and_true, Bool.and_eq_true]; exact ⟨EqD.dt_enc _ _ h.1 (by omega), EqD.dt_enc _ _ h.2.1 (by omega), EqD.dt_enc _ _ h.2.2 (by omega)⟩)
  deq_enc a b h k := by
    show deq (.tup [enc a.a, enc a.b, enc a.c]) (.tup [enc b.a, enc b.b, enc b.c]) = _
    rw [deq_tup, deqs_cons, deqs_cons, deqs_cons, deqs_nil, EqD.deq_enc _ _ h.1 k.1, EqD.deq_enc _ _ h.2.1 k.2.1, EqD.deq_enc _ _ h.2.2 k.2.2, Bool.and_true]
    cases a; cases b; simp
  vw_dt A d a n h q := vw_dtNR A d a n h q
  vw_deq A x y a b h k := vw_deqNR A x y a b h k
instance : EqD (T4 α β γ δ') where
  good t := EqD.good t.a ∧ EqD.good t.b ∧ EqD.good t.c ∧ EqD.good t.d
  dep := max (EqD.dep α) (max (EqD.dep β) (max (EqD.dep γ) (EqD.dep δ'))) + 1
  dt_enc t n h hn := dt_t (by omega) (by simp only [dts_cons, dts_nil, Bool.and_true, Bool.and_eq_true]; exact ⟨EqD.dt_enc _ _ h.1 (by omega), EqD.dt_enc _ _ h.2.1 (by omega), EqD.dt_enc _ _ h.2.2.1 (by omega), EqD.dt_enc _ _ h.2.2.2 (by omega)⟩)
  deq_enc a b h k := by
    show deq (.tup [enc a.a, enc a.b, enc a.c, enc a.d]) (.tup [enc b.a, enc b.b, enc b.c, enc b.d]) = _
    rw [deq_tup, deqs_cons, deqs_cons, deqs_cons, deqs_cons, deqs_nil, EqD.deq_enc _ _ h.1 k.1, EqD.deq_enc _ _ h.2.1 k.2.1, EqD.deq_enc _ _ h.2.2.1 k.2.2.1, EqD.deq_enc _ _ h.2.2.2 k.2.2.2, Bool.and_true]
    cases a; cases b; simp
  vw_dt A d a n h q := vw_dtNR A d a n h q
  vw_deq A x y a b h k := vw_deqNR A x y a b h k
instance : EqD (T6 α β γ δ' ε ζ) where
  good t := EqD.good t.a ∧ EqD.good t.b ∧ EqD.good t.c ∧ EqD.good t.d ∧ EqD.good t.e ∧ EqD.good t.f
  dep := max (EqD.dep α) (max (EqD.dep β) (max (EqD.dep γ) (max (EqD.dep δ') (max (EqD.dep ε) (EqD.dep ζ))))) + 1
  dt_enc t n h hn := dt_t (by omega) (by simp only [dts_cons, dts_nil, Bool.and_true, Bool.and_eq_true]; exact ⟨EqD.dt_enc _ _ h.1 (by omega), EqD.dt_enc _ _ h.2.1 (by omega), EqD.dt_enc _ _ h.2.2.1 (by omega), EqD.dt_enc _ _ h.2.2.2.1 (by omega), EqD.dt_enc _ _ h.2.2.2.2.1 (by omega), EqD.dt_enc _ _ h.2.2.2.2.2 (by omega)⟩)
  deq_enc a b h k := by
    show deq (.tup [enc a.a, enc a.b, enc a.c, enc a.d, enc a.e, enc a.f]) (.tup [enc b.a, enc b.b, enc b.c, enc b.d, enc b.e, enc b.f]) = _
    rw [deq_tup, deqs_cons, deqs_cons, deqs_cons, deqs_cons, deqs_cons, deqs_cons, deqs_nil, EqD.deq_enc _ _ h.1 k.1, EqD.deq_enc _ _ h.2.1 k.2.1, EqD.deq_enc _ _ h.2.2.1 k.2.2.1, EqD.deq_enc _ _ h.2.2.2.1 k.2.2.2.1, EqD.deq_enc _ _ h.2.2.2.2.1 k.2.2.2.2.1, EqD.deq_enc _ _ h.2.2.2.2.2 k.2.2.2.2.2, Bool.and_true]
    cases a; cases b; simp
  vw_dt A d a n h q := vw_dtNR A d a n h q
  vw_deq A x y a b h k := vw_deqNR A x y a b h k
theorem dts_map : ∀ (l : List α) (n : Nat), (∀ a ∈ l, EqD.good a) → EqD.dep α ≤ n → dts n (l.map enc) = true
  | [], n, _, _ => dts_nil
  | a :: l, n, h, hn => by
    rw [List.map_cons, dts_cons, EqD.dt_enc a n (h a List.mem_cons_self) hn, dts_map l n (fun a ha => h a (List.mem_cons_of_mem _ ha)) hn]; rfl
theorem deqs_map : ∀ (l m : List α), (∀ a ∈ l, EqD.good a) → (∀ a ∈ m, EqD.good a) → deqs (l.map enc) (m.map enc) = decide (l = m)
  | [], [], _, _ => by simp
  | [], b :: m, _, _ => by simp [deqs]
  | a :: l, [], _, _ => by simp [deqs]
  | a :: l, b :: m, h, k => by
    rw [List.map_cons, List.map_cons, deqs_cons, EqD.deq_enc a b (h a List.mem_cons_self) (k b List.mem_cons_self), deqs_map l m (fun a ha => h a (List.mem_cons_of_mem _ ha)) fun a ha => k a (List.mem_cons_of_mem _ ha)]
    simp
/-- a list as it stands -/
theorem drf_asL {A : AH} {d : D} {l : List D} (h : asL A d = some l) : drf A d = .lst l ∨ drf A d = .rol l := by
  cases d with
  | lst m => cases (show some m = some l from h); exact .inl rfl
  | rol m => cases (show some m = some l from h); exact .inr rfl
  | ref a =>
    have h' : (match A a with | some (.lst l) => some l | _ => none) = some l := h
    split at h'
    · rename_i q; cases h'; exact .inl (drf_ref q)
    · cases h'
  | _ => cases h
theorem dt_l {l : List D} {n : Nat} (h : 1 ≤ n) (q : dts (n - 1) l = true) : dt n (.lst l) = true := by
  obtain ⟨k, rfl⟩ : ∃ k, n = k + 1 := ⟨n - 1, by omega⟩
  rw [dt_lst]; exact q
instance : EqD (List α) where
  good l := ∀ a ∈ l, EqD.good a
  dep := EqD.dep α + 1
  dt_enc l n h hn := dt_l (by omega) (dts_map l _ h (by omega))
  deq_enc a b h k := by
    show deq (.lst _) (.lst _) = _
    rw [deq_lst]; exact deqs_map a b h k
  vw_dt A d a n h q := by
    rcases drf_asL h with e | e
    · rw [e]; exact q
    · rw [e]
      cases n with
      | zero => exact absurd q (by show dt 0 (.lst _) ≠ true; simp [dt])
      | succ n =>
        rw [show (enc a : D) = .lst (a.map enc) from rfl, dt_lst] at q
        rw [dt]; exact q
  vw_deq A x y a b h k := by
    rcases drf_asL h with e | e <;> rcases drf_asL k with e2 | e2 <;> rw [e, e2] <;> simp [deq, enc]
variable {w : DW} {A0 A : AH} {ss : List Sl} {δ : DSt} {Q : DK}
open Classical in
noncomputable def eqR (neg : Bool) (a b : α) : R Bool := if EqD.good a ∧ EqD.good b then .ok (xor neg (decide (a = b))) else .bad
theorem eqR_ok {neg : Bool} {a b : α} (h : EqD.good a) (k : EqD.good b) : eqR neg a b = .ok (xor neg (decide (a = b))) := by unfold eqR; rw [if_pos ⟨h, k⟩]
theorem op_eqV (neg : Bool) (hd : EqD.dep α ≤ 60) : OpV (opEq neg) (eqR (α := α) neg) := fun A x y a b Q X hx hy hw => by
  unfold eqR at hw
  split at hw
  · rename_i h
    refine ⟨EqD.vw_dt A x a 60 hx (EqD.dt_enc a 60 h.1 hd), EqD.vw_dt A y b 60 hy (EqD.dt_enc b 60 h.2 hd), ?_⟩
    rw [EqD.vw_deq A x y a b hx hy, EqD.deq_enc a b h.1 h.2]; exact hw
  · exact hw.elim
/-! ### in -/
open Classical in
noncomputable def inR (neg : Bool) (a : α) (l : List α) : R Bool := if EqD.good a ∧ ∀ b ∈ l, EqD.good b then .ok (xor neg (decide (a ∈ l))) else .bad
theorem inR_ok {neg : Bool} {a : α} {l : List α} (h : EqD.good a) (k : ∀ b ∈ l, EqD.good b) : inR neg a l = .ok (xor neg (decide (a ∈ l))) := by unfold inR; rw [if_pos ⟨h, k⟩]
theorem asDic_asL {A : AH} {d : D} {l : List D} (h : asL A d = some l) : asDic A d = none := by
  cases d with
  | ref a =>
    have h' : (match A a with | some (.lst l) => some l | _ => none) = some l := h
    show (match A a with | some (.dic l) => some l | _ => none) = none
    split at h'
    · rename_i q; rw [q]
    · cases h'
  | lst m => rfl
  | rol m => rfl
  | _ => cases h
theorem any_deq (a : α) (ha : EqD.good a) : ∀ l : List α, (∀ b ∈ l, EqD.good b) → ((l.map enc).any fun z => deq z (enc a)) = decide (a ∈ l)
  | [], _ => by simp
  | b :: l, h => by
    rw [List.map_cons, List.any_cons, any_deq a ha l fun b hb => h b (List.mem_cons_of_mem _ hb), EqD.deq_enc b a (h b List.mem_cons_self) ha]
    by_cases e : b = a
    · simp [e]
    · have : ¬ a = b := fun z => e z.symm
      simp [e, this]
/-- in a list -/
theorem se_in {t u : DE} {m : R α} {n : R (List α)} (neg : Bool) (hd : EqD.dep α ≤ 59) [NR α] (h : SE w A0 ss t m) (h2 : SV w A0 ss u n) : SE w A0 ss (eBin (opIn neg) t u) (R.b2 m n (inR neg)) := fun δ A Q e hw =>
  h.run e hw (fun _ _ => id) fun a hw => h2.run e hw (fun _ _ => id) fun l d hl hw => by
    unfold inR at hw
    split at hw
    · rename_i g
      have hl' : asL A d = some (l.map enc) := hl
      unfold opIn
      rw [asDic_asL hl']
      have e1 : drf A (enc a) = enc a := drf_nr (NR.nr a)
      have fin : ∀ x, x = (enc a : D) → (match asL A d with
        | some l => dt 60 (drf A x) = true ∧ dts 59 l = true ∧ Q (.bl (xor neg (l.any fun z => deq z (drf A x)))) A
        | none => False) := fun x hx => by
        subst hx
        rw [hl', e1]
        refine ⟨EqD.dt_enc a 60 g.1 (by omega), dts_map l 59 g.2 hd, ?_⟩
        rw [any_deq a g.1 l g.2]; exact hw
      generalize hx : (enc a : D) = x at *
      cases d <;> first | (cases hl'; done) | (cases x <;> exact fin _ rfl)
    · exact hw.elim
omit [DecidableEq α] [DecidableEq β] [DecidableEq γ] [DecidableEq δ'] [DecidableEq ε] [DecidableEq ζ] [EqD α] [EqD β] [EqD γ] [EqD δ'] [EqD ε] [EqD ζ]
/-- in a dict -/
theorem se_inD [Enc κ] [KeyD κ] [DecidableEq κ] {t u : DE} {m : R κ} {n : R (Dic κ α)} (neg : Bool) (h : SE w A0 ss t m) (h2 : SV w A0 ss u n) : SE w A0 ss (eBin (opIn neg) t u) (R.b2 m n fun k d => .ok (xor neg (d.get? k).isSome)) := fun δ A Q e hw =>
  h.run e hw (fun _ _ => id) fun a hw => h2.run e hw (fun _ _ => id) fun l d hl hw => by
    have hl' : asDic A d = some (encKV l.l) := hl
    unfold opIn
    rw [hl', KeyD.ok]
    show Q (.bl (xor neg (dget (encKV l.l) (key a)).isSome)) A
    rw [dget_enc]
    have : ((l.get? a).map (enc (α := α))).isSome = (l.get? a).isSome := by cases l.get? a <;> rfl
    rw [this]; exact hw
/-! ### subscripts -/
omit [Enc α] in
theorem atI_map {ρ : Type} (f : α → ρ) (l : List α) (i : Int) : atI (l.map f) i = (atI l i).map f := by
  unfold atI
  rw [List.length_map]
  cases ixN l.length i with
  | none => rfl
  | some j => show (l.map f)[j]? = (l[j]?).map f; rw [List.getElem?_map]
def ixL (l : List α) (i : Int) : R α := match atI l i with
  | some a => .ok a
  | none => .bad
theorem opIx_asL {x : D} {l : List D} {i : Int} {d : D} {Q : DK} (h : asL A x = some l) (hd : atI l i = some d) (q : Q d A) : opIx x (.int i) A Q := by
  have e : opIx x (.int i) A Q = (match asL A x with | some l => (match atI l i with | some d => Q d A | none => False) | none => opIx x (.int i) A Q) := by
    cases x <;> first | (cases h; done) | (unfold opIx asS; simp only [h] <;> cases atI l i <;> rfl)
  rw [e, h]; dsimp only; rw [hd]; exact q
theorem se_ix {t u : DE} {m : R (List α)} {n : R Int} (h : SV w A0 ss t m) (h2 : SE w A0 ss u n) : SE w A0 ss (eBin opIx t u) (R.b2 m n ixL) := fun δ A Q e hw =>
  h.run e hw (fun _ _ => id) fun l d hl hw => h2.run e hw (fun _ _ => id) fun i hw => by
    unfold ixL at hw
    split at hw
    · rename_i a ha
      exact opIx_asL (show asL A d = some (l.map enc) from hl) (by rw [atI_map, ha]; rfl) hw
    · exact hw.elim
def ixS (s : Str) (i : Int) : R Str := if s.length < 1000000 then (match atI s.cps.toList i with
  | some c => .ok ⟨#[c]⟩
  | none => .bad) else .bad
theorem op_ixS : OpE opIx ixS := fun A s i Q X hw => by
  unfold ixS at hw
  split at hw
  · rename_i hl
    split at hw
    · rename_i c hc
      show opIx (.str s) (.int i) A Q
      rw [opIx_str, hc]; exact ⟨hl, hw⟩
    · exact hw.elim
  · exact hw.elim
/-- t[i], t a tuple, i written -/
theorem se_proj {t : DE} {m : R α} (f : α → β) (i : Int) (hf : ∀ a : α, ∃ l, (enc a : D) = .tup l ∧ atI l i = some (enc (f a))) (h : SE w A0 ss t m) : SE w A0 ss (eBin opIx t (eC (.int i))) (m.map f) := fun δ A Q e hw =>
  h.run e hw (fun _ _ => id) fun a hw => by
    obtain ⟨l, h1, h2⟩ := hf a
    rw [h1]
    show opIx (.tup l) (.int i) A Q
    rw [opIx_tup, h2]; exact hw
theorem ix_num : ∀ q : Rat, ∃ l, (enc q : D) = .tup l ∧ atI l 0 = some (enc q.num) := fun q => ⟨_, frD_def q, rfl⟩
theorem ix_den : ∀ q : Rat, ∃ l, (enc q : D) = .tup l ∧ atI l 1 = some (enc ((q.den : Int))) := fun q => ⟨_, frD_def q, rfl⟩
def getR [DecidableEq κ] (d : Dic κ α) (k : κ) : R α := match d.get? k with
  | some a => .ok a
  | none => .bad
theorem opIx_dic {x i : D} {kvs : List (Key × D)} {k : Key} {d : D} {Q : DK} (h : asDic A x = some kvs) (hi : asKey i = some k) (hd : dget kvs k = some d) (q : Q d A) : opIx x i A Q := by
  cases i with
  | int j =>
    cases (show some (Sum.inl j) = some k from hi)
    unfold opIx
    cases x with
    | ref a =>
      have h' : (match A a with | some (.dic l) => some l | _ => none) = some kvs := h
      have e : asS A (.ref a) = none := by
        show (match A a with | some (.lst l) => some l | _ => none) = none
        split at h'
        · rename_i q; rw [q]
        · cases h'
      simp only [e, h, hd]; exact q
    | dic ks vs => simp only [show asS A (.dic ks vs) = none from rfl, h, hd]; exact q
    | _ => cases h
  | str s =>
    cases (show some (Sum.inr s) = some k from hi)
    unfold opIx
    simp only [h, hd]; exact q
  | _ => cases hi
theorem se_get [Enc κ] [KeyD κ] [DecidableEq κ] {t u : DE} {m : R (Dic κ α)} {n : R κ} (h : SV w A0 ss t m) (h2 : SE w A0 ss u n) : SE w A0 ss (eBin opIx t u) (R.b2 m n getR) := fun δ A Q e hw =>
  h.run e hw (fun _ _ => id) fun l d hl hw => h2.run e hw (fun _ _ => id) fun k hw => by
    unfold getR at hw
    split at hw
    · rename_i a ha
      exact opIx_dic (show asDic A d = some (encKV l.l) from hl) (KeyD.ok k) (by rw [dget_enc, ha]; rfl) hw
    · exact hw.elim
/-! ### slices -/
def SOp (w : DW) (A0 : AH) (ss : List Sl) (t : DOpt) (m : R (Option Int)) : Prop := ∀ (δ : DSt) (A : AH) (Q : Option Int → AH → Prop), Env A0 ss δ A → m.wp (fun a => Q a A) (fun c fs => w c fs δ A) → t δ A Q
theorem SOp.run {t : DOpt} {m : R (Option Int)} {τ : Type} {k : Option Int → R τ} {V : τ → Prop} {X} {Q : Option Int → AH → Prop} (h : SOp w A0 ss t m) (e : Env A0 ss δ A) (hw : (m.bind k).wp V X) (hx : ∀ c fs, X c fs → w c fs δ A) (hk : ∀ a, (k a).wp V X → Q a A) : t δ A Q :=
  h δ A Q e (by rw [R.wp_bind] at hw; exact R.wp_imp hw hk hx)
def cut {α : Type} (l : List α) (lo hi : Option Int) : List α := (l.drop (HT.sIx l.length 0 lo)).take (HT.sIx l.length l.length hi - HT.sIx l.length 0 lo)
/-! ### built-in functions -/
def CbE (rd : DCall) (F : α → R β) : Prop := ∀ (A : AH) (a : α) (Q : DK) X, (F a).wp (fun c => Q (enc c) A) X → rd [enc a] A Q
theorem se_cb {rd : DCall} {F : α → R β} {t : DE} {m : R α} (op : CbE rd F) (h : SE w A0 ss t m) : SE w A0 ss (eCB rd (aCons t aNil)) (m.bind F) := fun δ A Q e hw =>
  h.run e hw (fun _ _ => id) fun a hw => op A a Q _ hw
def CbV (rd : DCall) (F : α → R β) : Prop := ∀ (A : AH) (d : D) (a : α) (Q : DK) X, vw A d a → (F a).wp (fun c => Q (enc c) A) X → rd [d] A Q
theorem sv_cb {rd : DCall} {F : α → R β} {t : DE} {m : R α} (op : CbV rd F) (h : SV w A0 ss t m) : SE w A0 ss (eCB rd (aCons t aNil)) (m.bind F) := fun δ A Q e hw =>
  h.run e hw (fun _ _ => id) fun a d hd hw => op A d a Q _ hd hw
theorem asS_asL {A : AH} {d : D} {l : List D} (h : asL A d = some l) : asS A d = some l := by
  cases d <;> first | exact h | cases h
theorem cb_len : CbV bLen (fun (l : List α) => .ok (l.length : Int)) := fun A d a Q X hd hw => by
  have h : asL A d = some (a.map enc) := hd
  have e : bLen [d] A Q = (match asS A d with
    | some l => Q (.int l.length) A
    | none => match asDic A d with
      | some kvs => Q (.int kvs.length) A
      | none => False) := by
    cases d <;> first | (cases h; done) | rfl
  rw [e, asS_asL h]
  show Q (.int ((a.map enc).length : Nat)) A
  rw [List.length_map]; exact hw
theorem cb_abs : CbE bAbs (fun (i : Int) => .ok (i.natAbs : Int)) := fun A a Q X hw => hw
theorem bList_asL {mk : DL.Mk} {x : D} {l : List D} {Q : DK} (h : asL A x = some l) (q : mk l A Q) : bList mk [x] A Q := by
  have e : bList mk [x] A Q = (match asS A x with | some l => mk l A Q | none => bList mk [x] A Q) := by
    rw [asS_asL h]; unfold bList; simp only [asS_asL h]
  rw [e, asS_asL h]; exact q
theorem cb_list : CbV (bList mkF) (fun (l : List α) => .ok l) := fun A d a Q X hd hw => bList_asL (show asL A d = some (a.map enc) from hd) hw
/-! ### calls -/
theorem se_call1 {sp : DSp} {dvs : List D} {ρ' : Type} {F : α → R ρ'} [Enc ρ'] {t : DE} {m : R α} (hs : ∀ A d a (Q : DK) E, vw A d a → (F a).wp (fun r => Q (enc r) A) (fun c fs => E c fs A) → sp ([d] ++ dvs) A Q E) (h : SV w A0 ss t m) : SE w A0 ss (eCall w sp dvs (aCons t aNil)) (m.bind F) := fun δ A Q e hw =>
  h.run e hw (fun _ _ => id) fun a d hd hw => hs A d a Q _ hd hw
theorem se_call2 {sp : DSp} {dvs : List D} {ρ' : Type} {F : α → β → R ρ'} [Enc ρ'] {t u : DE} {m : R α} {n : R β} (hs : ∀ A x y a b (Q : DK) E, vw A x a → vw A y b → (F a b).wp (fun r => Q (enc r) A) (fun c fs => E c fs A) → sp ([x, y] ++ dvs) A Q E) (h : SV w A0 ss t m) (h2 : SV w A0 ss u n) :
    SE w A0 ss (eCall w sp dvs (aCons t (aCons u aNil))) (m.bind fun a => n.bind fun b => F a b) := fun δ A Q e hw =>
  h.run e hw (fun _ _ => id) fun a d hd hw => h2.run e hw (fun _ _ => id) fun b y hy hw => hs A d y a b Q _ hd hy hw
theorem se_call3 {sp : DSp} {dvs : List D} {ρ' : Type} {F : α → β → γ → R ρ'} [Enc ρ'] {t u v : DE} {m : R α} {n : R β} {o : R γ} (hs : ∀ A x y z a b c (Q : DK) E, vw A x a → vw A y b → vw A z c → (F a b c).wp (fun r => Q (enc r) A) (fun c fs => E c fs A) → sp ([x, y, z] ++ dvs) A Q E) (h : SV w A0 ss t m) (h2 : SV w A0 ss u n) (h3 : SV w A0 ss v o) :
    SE w A0 ss (eCall w sp dvs (aCons t (aCons u (aCons v aNil)))) (m.bind fun a => n.bind fun b => o.bind fun c => F a b c) := fun δ A Q e hw =>
  h.run e hw (fun _ _ => id) fun a d hd hw => h2.run e hw (fun _ _ => id) fun b y hy hw => h3.run e hw (fun _ _ => id) fun c z hz hw => hs A d y z a b c Q _ hd hy hz hw
/-- a new list, frozen -/
theorem se_fzO {t : DE} {m : R (List α)} (h : SO w A0 ss t m oL) : SE w A0 ss (eFz t) m := fun δ A Q e hw => by
  rw [eFz_eq]
  refine h δ A _ e (R.wp_imp hw (fun a ha p A' hn => ?_) fun _ _ h => h)
  obtain ⟨C, ⟨h1, h2⟩, h3, h4⟩ := hn.ex
  subst h2
  simp only [h1]
  have : A'.del p = A := by
    funext b
    unfold AH.del
    by_cases hb : b = p
    · rw [if_pos hb, hb, h3 p (List.mem_singleton.mpr rfl)]
    · rw [if_neg hb, h4 b (by simpa using hb)]
  rw [this]; exact ha
/-! ### isinstance -/
theorem se_isi {t : DE} {m : R α} {T s : String} (b : Bool) (hb : instB s T = b) (hs : ∀ (A : AH) (a : α), tyD A (enc a) = some s) (h : SE w A0 ss t m) : SE w A0 ss (eIsi T t) (m.bind fun _ => .ok b) := fun δ A Q e hw => by
  rw [eIsi_eq]
  refine h.run e hw (fun _ _ => id) fun a hw => ?_
  rw [hs A a]
  show Q (.bl (instB s T)) A
  rw [hb]; exact hw
theorem sv_isi {t : DE} {m : R (List α)} {T : String} (b : Bool) (hb : instB "list" T = b) (h : SV w A0 ss t m) : SE w A0 ss (eIsi T t) (m.bind fun _ => .ok b) := fun δ A Q e hw => by
  rw [eIsi_eq]
  refine h.run e hw (fun _ _ => id) fun a d hd hw => ?_
  have hd' : asL A d = some (a.map enc) := hd
  have : tyD A d = some "list" := by
    cases d with
    | ref a =>
      have h' : (match A a with | some (.lst l) => some l | _ => none) = some _ := hd'
      split at h'
      · rename_i q; exact ty_ref q
      · cases h'
    | lst _ => rfl
    | rol _ => rfl
    | _ => cases hd'
  rw [this]
  show Q (.bl (instB "list" T)) A
  rw [hb]; exact hw
/-! ### what is walked -/
theorem sif_seq {t : DE} {m : R (List α)} (h : SE w A0 ss t m) : SIF w A0 ss (iSeq t) m enc := fun δ A K e hw => by
  rw [iSeq_eq]
  refine h δ A _ e (R.wp_imp hw (fun l hl => ?_) fun _ _ h => h)
  exact hl _ fun _ _ => trivial
/-- a weak list that stands in a slot -/
theorem sif_var {i : Nat} {d : D} {l : List α} (h : ss[i]? = some (.val d)) (v : vw A0 d l) : SIF w A0 ss (iSeq (eVar i)) (.ok l) enc := fun δ A K e hw => by
  rw [iSeq_eq, eVar_eq (e.get_val h)]
  have v' : asL A0 d = some (l.map enc) := v
  cases d with
  | ref a =>
    have h' : (match A0 a with | some (.lst l) => some l | _ => none) = some _ := v'
    split at h'
    · rename_i m q
      cases h'
      simp only [e.sub _ _ q]
      exact hw _ fun A' s => s _ _ q
    · cases h'
  | lst m => cases (show some m = some _ from v'); exact hw _ fun _ _ => trivial
  | rol m => cases (show some m = some _ from v'); exact hw _ fun _ _ => trivial
  | _ => cases v'
/-- the numbers lo, lo + 1, .. -/
def rngL (lo : Int) (n : Nat) : List Int := (List.range n).map fun i => lo + (i : Nat)
theorem rng_map (lo : Int) (n : Nat) : rngD lo n = (rngL lo n).map enc := by unfold rngD rngL; rw [List.map_map]; rfl
def rng1 (n : Int) : R (List Int) := if n.natAbs < 2 ^ 62 then .ok (rngL 0 n.toNat) else .bad
theorem rng1_ok {n : Int} (h : n.natAbs < 4611686018427387904) : rng1 n = .ok (rngL 0 n.toNat) := if_pos (by simpa using h)
theorem sif_rng1 {t : DE} {m : R Int} (h : SE w A0 ss t m) : SIF w A0 ss (iRng1 (aCons t aNil)) (m.bind rng1) enc := fun δ A K e hw => by
  rw [iRng1_eq, aCons_eq]
  refine h.run e hw (fun _ _ => id) fun n hw => ?_
  unfold rng1 at hw
  split at hw
  · rename_i hn
    refine ⟨hn, ?_⟩
    rw [rng_map]; exact hw _ fun _ _ => trivial
  · exact hw.elim
end
end TF


/-! TF4: comprehensions, while, try, frozen slots, a def's promise. -/
namespace TF
open PySem PySem.Spec PyProof.Rows L2 DL FR
open Enc KeyT
section
variable {α β γ σ ρ τ κ : Type} [Enc α] [Enc β] [Enc γ] [Enc ρ] [KeyT κ]
variable {w : DW} {A0 A : AH} {X : String → List (String × D) → Prop} {D0 : DEnds} {V : τ → Prop} {ss : List Sl} {δ : DSt} {Q : DK}
/-! ### comprehensions -/
def SIC (w : DW) (A0 : AH) (ss : List Sl) (it : DI) (m : R (List σ)) (f : σ → D) : Prop := ∀ (δ : DSt) (A : AH) (K : List D → (AH → Prop) → AH → Prop), Env A0 ss δ A → m.wp (fun l => ∀ g : AH → Prop, (∀ A', Sub A A' → g A') → K (l.map f) g A) (fun c fs => w c fs δ A) → it δ A K
theorem sic_v {t : DE} {m : R (List α)} (h : SV w A0 ss t m) : SIC w A0 ss (iSeq t) m enc := fun δ A K e hw => by
  rw [iSeq_eq]
  refine h δ A _ e (R.wp_imp hw (fun l hl d hd => ?_) fun _ _ h => h)
  have v' : asL A d = some (l.map enc) := hd
  cases d with
  | ref a =>
    have h' : (match A a with | some (.lst l) => some l | _ => none) = some _ := v'
    split at h'
    · rename_i m q
      cases h'
      simp only [q]
      exact hl _ fun A' s => s _ _ q
    · cases h'
  | lst m => cases (show some m = some _ from v'); exact hl _ fun _ _ => trivial
  | rol m => cases (show some m = some _ from v'); exact hl _ fun _ _ => trivial
  | _ => cases v'
def wipeS (ss : List Sl) : List Nat → List Sl
  | [] => ss
  | v :: vs => (wipeS ss vs).set v .emp
theorem Env.wipe (h : Env A0 ss δ A) : ∀ vs : List Nat, Env A0 (wipeS ss vs) (wipeD δ vs) A
  | [] => h
  | v :: vs => (Env.wipe h vs).set_any v none
def compR (c : α → R Bool) (f : α → R β) : List α → List β → R (List β)
  | [], acc => .ok acc
  | x :: l, acc => (c x).noexc.bind fun b => if b = true then (f x).noexc.bind fun y => (few acc).bind fun _ => compR c f l (acc ++ [y]) else compR c f l acc
theorem comp_run {g : DG} {tt : DT} {te : DE} {vs : List Nat} {fe : α → D} {c : α → R Bool} {f : α → R β} (J1 : α → List Sl) {gd : AH → Prop} {fin : AH → Prop} {p : Addr} (hp : A p = none) (hgd : ∀ A', Sub A A' → gd A')
    (hg : ∀ x, SG A0 g (fe x) (wipeS ss vs) (J1 x)) (ht : ∀ x, ST w0 A0 (J1 x) tt (c x)) (he : ∀ x, SE w0 A0 (J1 x) te (f x)) (e : Env A0 ss δ A) {X'} : ∀ (l : List α) (acc : List β), (compR c f l acc).wp (fun r => fin (A.put p (.lst (r.map enc)))) X' → compD p gd g tt te vs fin δ (l.map fe) (A.put p (.lst (acc.map enc)))
  | [], acc, h => ⟨hgd _ ((Sub.refl A).put hp), h⟩
  | x :: l, acc, h => by
    refine ⟨hgd _ ((Sub.refl A).put hp), hg x _ _ _ ((e.wipe vs).put hp) fun δ' e' => ?_⟩
    unfold compR at h
    rw [R.wp_bind] at h
    refine ht x δ' _ _ e' (R.wp_noexc (R.wp_imp h (fun b hb => ?_) fun _ _ h => h))
    cases b with
    | true =>
      refine ⟨fun _ => ?_, fun h => (nomatch h)⟩
      have hb' : ((f x).noexc.bind fun y => (few acc).bind fun _ => compR c f l (acc ++ [y])).wp (fun r => fin (A.put p (.lst (r.map enc)))) X' := hb
      rw [R.wp_bind] at hb'
      refine he x δ' _ _ e' (R.wp_noexc (R.wp_imp hb' (fun y hy => ?_) fun _ _ h => h))
      rw [R.wp_bind] at hy
      obtain ⟨h1, h2⟩ := few_wp hy
      refine ⟨acc.map enc, AH.put_same .., by simpa using h1, ?_⟩
      rw [AH.put_put]
      have := comp_run J1 hp hgd hg ht he e l (acc ++ [y]) h2
      rw [List.map_append] at this
      exact this
    | false => exact ⟨fun h => (nomatch h), fun _ => comp_run J1 hp hgd hg ht he e l acc hb⟩
theorem se_lc {it : DI} {g : DG} {tt : DT} {te : DE} {vs : List Nat} {mi : R (List α)} {fe : α → D} {c : α → R Bool} {f : α → R β} (J1 : α → List Sl) (hi : SIC w A0 ss it mi fe) (hg : ∀ x, SG A0 g (fe x) (wipeS ss vs) (J1 x)) (ht : ∀ x, ST w0 A0 (J1 x) tt (c x)) (he : ∀ x, SE w0 A0 (J1 x) te (f x)) :
    SE w A0 ss (eLc finF it g tt te vs) (mi.bind fun l => (compR c f l []).noexc) := fun δ A Q e h => by
  rw [R.wp_bind] at h
  rw [eLc_eq]
  refine hi δ A _ e (R.wp_imp h (fun l hl gd hgd p hp => ?_) fun _ _ h => h)
  refine comp_run (β := β) J1 hp hgd hg ht he e l [] (X' := fun _ _ => False) ?_
  have hl' := R.wp_noexc (E' := fun _ _ => False) hl
  refine R.wp_imp hl' (fun r hr => ?_) fun _ _ h => h
  unfold finF
  rw [AH.put_same]
  dsimp only
  rw [AH.del_put hp]; exact hr
theorem st_yes : ST w A0 ss bYes (.ok true) := fun δ A Q e h => h
/-- the comprehension that only tells values and tests that never fail -/
theorem compR_ok {c : α → R Bool} {f : α → R β} (p : α → Bool) (g : α → β) : ∀ (l : List α) (acc : List β), (∀ x ∈ l, c x = .ok (p x)) → (∀ x ∈ l, p x = true → f x = .ok (g x)) → acc.length + l.length < 1000000 → compR c f l acc = .ok (acc ++ (l.filter p).map g)
  | [], acc, _, _, _ => by simp [compR]
  | x :: l, acc, hc, hf, hl => by
    simp only [List.length_cons] at hl
    unfold compR
    rw [hc x List.mem_cons_self]
    by_cases h : p x = true
    · rw [h]
      simp only [R.noexc_ok, R.ok_bind, if_true]
      rw [hf x List.mem_cons_self h, R.noexc_ok, R.ok_bind, few_ok (by omega), R.ok_bind, compR_ok p g l _ (fun y hy => hc y (List.mem_cons_of_mem _ hy)) (fun y hy => hf y (List.mem_cons_of_mem _ hy)) (by simp only [List.length_append, List.length_cons, List.length_nil]; omega)]
      simp [h]
    · have h' : p x = false := by simpa using h
      rw [h']
      simp only [R.noexc_ok, R.ok_bind]
      rw [if_neg (by decide), compR_ok p g l _ (fun y hy => hc y (List.mem_cons_of_mem _ hy)) (fun y hy => hf y (List.mem_cons_of_mem _ hy)) (by omega)]
      simp [h']
theorem compR_map {f : α → R β} (g : α → β) (l : List α) (hf : ∀ x ∈ l, f x = .ok (g x)) (hl : l.length < 1000000) : compR (fun _ => .ok true) f l [] = .ok (l.map g) := by
  rw [compR_ok (fun _ => true) g l [] (fun _ _ => rfl) (fun x hx _ => hf x hx) (by simpa using hl)]
  have e : l.filter (fun _ => true) = l := List.filter_eq_self.mpr fun _ _ => rfl
  rw [e, List.nil_append]
/-! ### while -/
def whileF (c : σ → R Bool) (b : σ → R (Fl σ ρ)) : Nat → σ → R (Fl σ ρ)
  | 0, _ => .bad
  | n + 1, s => (c s).bind fun t => if t = true then (b s).bind fun r => match r with
    | .nx s => whileF c b n s
    | .bk s => .ok (.nx s)
    | .rt r => .ok (.rt r) else .ok (.nx s)
open Classical in
noncomputable def whileR (c : σ → R Bool) (b : σ → R (Fl σ ρ)) (s : σ) : R (Fl σ ρ) := if h : ∃ n, whileF c b n s ≠ .bad then whileF c b h.choose s else .bad
omit [Enc ρ] in
theorem whileF_s {c : σ → R Bool} {b : σ → R (Fl σ ρ)} (n : Nat) (s : σ) : whileF c b (n + 1) s = (c s).bind fun t => if t = true then (b s).bind fun r => match r with
    | .nx s => whileF c b n s
    | .bk s => .ok (.nx s)
    | .rt r => .ok (.rt r) else .ok (.nx s) := rfl
omit [Enc ρ] in
theorem whileF_mono {c : σ → R Bool} {b : σ → R (Fl σ ρ)} : ∀ (n : Nat) (s : σ), whileF c b n s ≠ .bad → whileF c b (n + 1) s = whileF c b n s
  | 0, s, h => absurd rfl h
  | n + 1, s, h => by
    rw [whileF_s (n + 1), whileF_s n]
    rw [whileF_s] at h
    cases hc : c s with
    | ok t =>
      rw [hc] at h
      simp only [R.ok_bind] at h ⊢
      cases t with
      | false => rfl
      | true =>
        simp only [if_true] at h ⊢
        cases hb : b s with
        | ok r =>
          rw [hb] at h
          simp only [R.ok_bind] at h ⊢
          cases r with
          | nx s' => exact whileF_mono n s' h
          | bk s' => rfl
          | rt r => rfl
        | exc c fs => rfl
        | bad => rfl
    | exc c fs => rfl
    | bad => rfl
omit [Enc ρ] in
theorem whileF_le {c : σ → R Bool} {b : σ → R (Fl σ ρ)} {n m : Nat} {s : σ} (h : whileF c b n s ≠ .bad) (hm : n ≤ m) : whileF c b m s = whileF c b n s := by
  induction m with
  | zero => have : n = 0 := by omega
            subst this; rfl
  | succ m ih =>
    by_cases e : n = m + 1
    · subst e; rfl
    · have := ih (by omega)
      rw [← this, whileF_mono m s (by rw [this]; exact h)]
omit [Enc ρ] in
theorem whileR_of {c : σ → R Bool} {b : σ → R (Fl σ ρ)} {n : Nat} {s : σ} (h : whileF c b n s ≠ .bad) : whileR c b s = whileF c b n s := by
  have hx : ∃ n, whileF c b n s ≠ .bad := ⟨n, h⟩
  unfold whileR
  rw [dif_pos hx]
  rcases Nat.le_total n hx.choose with q | q
  · exact whileF_le h q
  · exact (whileF_le hx.choose_spec q).symm
omit [Enc ρ] in
/-- a while unrolled once -/
theorem whileR_eq (c : σ → R Bool) (b : σ → R (Fl σ ρ)) (s : σ) : whileR c b s = (c s).bind fun t => if t = true then (b s).bind fun r => match r with
    | .nx s => whileR c b s
    | .bk s => .ok (.nx s)
    | .rt r => .ok (.rt r) else .ok (.nx s) := by
  by_cases h : ∃ n, whileF c b n s ≠ .bad
  · obtain ⟨n, h⟩ := h
    rw [whileR_of h]
    cases n with
    | zero => exact absurd rfl h
    | succ n =>
      rw [whileF_s] at h ⊢
      cases hc : c s with
      | ok t =>
        rw [hc] at h
        simp only [R.ok_bind] at h ⊢
        cases t with
        | false => rfl
        | true =>
          simp only [if_true] at h ⊢
          cases hb : b s with
          | ok r =>
            rw [hb] at h
            simp only [R.ok_bind] at h ⊢
            cases r with
            | nx s' => exact (whileR_of h).symm
            | bk s' => rfl
            | rt r => rfl
          | exc c fs => rfl
          | bad => rfl
      | exc c fs => rfl
      | bad => rfl
  · have e : whileR c b s = .bad := by unfold whileR; rw [dif_neg h]
    rw [e]
    have hn : ∀ n, whileF c b (n + 1) s = .bad := fun n => Classical.byContradiction fun q => h ⟨_, q⟩
    cases hc : c s with
    | ok t =>
      simp only [R.ok_bind]
      cases t with
      | false => have := hn 0; rw [whileF_s, hc] at this; simp at this
      | true =>
        simp only [if_true]
        cases hb : b s with
        | ok r =>
          simp only [R.ok_bind]
          cases r with
          | nx s' =>
            have h2 : ¬ ∃ n, whileF c b n s' ≠ .bad := fun ⟨n, q⟩ => by
              have := hn n
              rw [whileF_s, hc] at this
              simp only [R.ok_bind, if_true, hb] at this
              exact q this
            show R.bad = whileR c b s'
            unfold whileR; rw [dif_neg h2]
          | bk s' => have := hn 0; rw [whileF_s, hc] at this; simp [hb] at this
          | rt r => have := hn 0; rw [whileF_s, hc] at this; simp [hb] at this
        | exc c fs => have := hn 0; rw [whileF_s, hc] at this; simp [hb] at this
        | bad => rfl
    | exc c fs => have := hn 0; rw [whileF_s, hc] at this; simp at this
    | bad => rfl
theorem ss_while {c : DT} {body rest : DS} {f : σ → R (Fl σ ρ)} {cm : σ → R Bool} {st0 : σ} {k : σ → R τ} {kr : ρ → R τ} (hw : WX A0 w X) (J : σ → List Sl) (bs : List Bool) (hj : mask bs ss = J st0)
    (hrt : ∀ r A', Sub A0 A' → (kr r).wp V X → D0.rt (enc r) A') (hc : ∀ st, ST w A0 (J st) c (cm st))
    (hb : ∀ (V' : Fl σ ρ → Prop) (N B : DSt → AH → Prop), (∀ st δ A, V' (.nx st) → Env A0 (J st) δ A → N δ A) → (∀ st δ A, V' (.bk st) → Env A0 (J st) δ A → B δ A) → (∀ r A', Sub A0 A' → V' (.rt r) → D0.rt (enc r) A') → ∀ st, SS A0 X { D0 with nx := N, ct := N, bk := B } V' (J st) body (f st))
    (hr : ∀ st, SS A0 X D0 V (J st) rest (k st)) : SS A0 X D0 V ss (sSeq (sWhile c body) rest) (R.flow (whileR cm f st0) k kr) := fun δ A e h => by
  unfold R.flow at h
  rw [sSeq_eq, sWhile_eq]
  by_cases hx : ∃ n, whileF cm f n st0 ≠ .bad
  case neg =>
    unfold whileR at h
    rw [dif_neg hx] at h
    exact h.elim
  obtain ⟨n, hx⟩ := hx
  rw [whileR_of hx] at h
  refine ⟨n, ?_⟩
  have key : ∀ (n : Nat) (st : σ) (δ : DSt) (A : AH), Env A0 (J st) δ A → ((whileF cm f n st).bind fun r => match r with
      | .nx s => k s
      | .bk s => k s
      | .rt r => kr r).wp V X → whileN c body { D0 with nx := rest D0 } n δ A := by
    intro n
    induction n with
    | zero => intro st δ A e h; exact h.elim
    | succ n ih =>
      intro st δ A e h
      have h2 := h
      rw [whileF_s] at h2
      rw [R.bind_assoc, R.wp_bind] at h2
      unfold DL.whileN
      refine hc st δ A _ e (R.wp_imp h2 (fun t ht => ?_) fun c fs => hw c fs δ A e.sub)
      cases t with
      | false =>
        refine ⟨fun h => (nomatch h), fun _ => ?_⟩
        simp only [Bool.false_eq_true, if_false, R.ok_bind] at ht
        exact hr st δ A e ht
      | true =>
        refine ⟨fun _ => ?_, fun h => (nomatch h)⟩
        simp only [if_true] at ht
        rw [R.bind_assoc, R.wp_bind] at ht
        refine hb (fun r => match r with
          | .nx s => ((whileF cm f n s).bind fun r => match r with
              | .nx s => k s
              | .bk s => k s
              | .rt r => kr r).wp V X
          | .bk s => (k s).wp V X
          | .rt r => (kr r).wp V X) _ _ (fun st δ A hv e => ih st δ A e hv) (fun st δ A hv e => hr st δ A e hv) (fun r A' s hv => hrt r A' s hv) st δ A e (R.wp_imp ht (fun r hr => ?_) fun _ _ h => h)
        cases r <;> exact hr
  exact key n st0 δ A (hj ▸ e.mask bs) h
/-! ### try -/
end
/-! ### a slot is frozen -/
section
variable {K : PySem.W.Frag} {Z Z' Z0 : Hp} {X : Cx}
/-- from here on what stands in slot i changes no more -/
def sFz (i : Nat) (t : DS) : DS := fun D δ A => match δ[i]? with
  | some (some (.ref p)) => (match A p with
    | some (.lst l) => t D (δ.set i (some (.lst l))) (A.del p)
    | some (.dic kvs) => t D (δ.set i (some (.dic (kvs.map (·.1)) (kvs.map (·.2))))) (A.del p)
    | some (.obj c fs) => t D (δ.set i (some (.obj c (fs.map (·.1)) (fs.map (·.2))))) (A.del p)
    | _ => False)
  | _ => False
theorem rs_left {δ : DSt} {σ : L2.St} (r : RS K Z δ σ) {i : Nat} {d : D} {v : V} (h : σ[i]? = some (some v)) (q : RV K Z d v) : RS K Z (δ.set i (some d)) σ := by
  have := r.set i (a := some d) (b := some v) q
  have e : σ.set i (some v) = σ := by
    apply List.ext_getElem?
    intro j
    rw [List.getElem?_set]
    split
    · rename_i hj; subst hj
      split
      · exact h.symm
      · rename_i hl; exact (List.getElem?_eq_none (by omega)).symm
    · rfl
  rw [e] at this; exact this
theorem qss_fz {i : Nat} {rest : List Stmt} {t : DS} (h : QSs X Z0 rest t) : QSs X Z0 rest (sFz i t) := PSs.imp h fun D σ H ⟨Z, δ, A, DD, z, rs, ra, t, re⟩ => by
  unfold sFz at t
  split at t
  · rename_i p hp
    obtain ⟨v, h1, h2⟩ := rs.get hp
    have ev := rv_ref h2
    subst ev
    split at t
    · rename_i l q
      obtain ⟨Z2, s2, r2, q2⟩ := fz_ok ra q
      exact ⟨Z2, _, _, DD, z.trans s2, rs_left (rs.mono s2) h1 q2, r2, t, re.mono s2⟩
    · rename_i l q
      obtain ⟨Z2, s2, r2, q2⟩ := fz_ok ra q
      exact ⟨Z2, _, _, DD, z.trans s2, rs_left (rs.mono s2) h1 q2, r2, t, re.mono s2⟩
    · rename_i l q
      obtain ⟨Z2, s2, r2, q2⟩ := fz_ok ra q
      exact ⟨Z2, _, _, DD, z.trans s2, rs_left (rs.mono s2) h1 q2, r2, t, re.mono s2⟩
    · exact t.elim
  · exact t.elim
end
section
variable {α κ τ : Type} [Enc α] [KeyT κ] {A0 : AH} {X : String → List (String × D) → Prop} {D0 : DEnds} {V : τ → Prop} {ss : List Sl}
theorem ss_fz {i : Nat} {l : List α} {rest : DS} {m : R τ} (hi : ss[i]? = some (.own (oL l))) (hr : SS A0 X D0 V (ss.set i (.val (enc l))) rest m) : SS A0 X D0 V ss (sFz i rest) m := fun δ A e h => by
  obtain ⟨p, h1, h2, h3⟩ := e.del_own hi
  unfold sFz
  simp only [h1, h2]
  have := h3.set_val i (enc l)
  rw [List.set_set] at this
  exact hr _ _ this h
theorem ss_fzD {i : Nat} {l : Dic κ α} {rest : DS} {m : R τ} (hi : ss[i]? = some (.own (oD l))) (hr : SS A0 X D0 V (ss.set i (.val (enc l))) rest m) : SS A0 X D0 V ss (sFz i rest) m := fun δ A e h => by
  obtain ⟨p, h1, h2, h3⟩ := e.del_own hi
  unfold sFz
  simp only [h1, h2]
  have := h3.set_val i (enc l)
  rw [List.set_set] at this
  exact hr _ _ this h
end
/-! ### a def keeps its promise -/
def dropE (E : DX) : DX := fun c fs A => ∃ A2, Sub A2 A ∧ E c fs A2
theorem fn_okX {K : PySem.W.Frag} {P : Program} {w : World} {mg : Str → Option Value} {base : Heap} {x qual : Str} {params : Arguments} {body : List Stmt} {scope : Scope} {dvs : List V} {kws : List (Str × V)} {f : Addr} {fd : FuncData} {N ps : List Str} {k : Nat} {sp : DSp} {t : DW → DS}
    (F : FunD K x qual params body scope dvs kws f fd) (S : FnScope N ps scope) (len : ∀ ds A Q E, sp ds A Q E → ds.length = ps.length)
    (hder : ∀ (cdv : Value) (A : Around) (outer : List PySem.Env) (s : Shared) (H : Hp) (E : XK) (Z0 : Hp) (wd : DW), Room k (A.deeper (envOfC qual scope s.heap.objs.size f cdv)) → Takes (cxOf (CX P w) P w K mg base N qual scope f cdv A outer s H E) (liftW K Z0 wd) → QSs (cxOf (CX P w) P w K mg base N qual scope f cdv A outer s H E) Z0 body (t wd))
    (hrd : ∀ ds A Q E, sp ds A Q E → t (fun c fs _ A => dropE E c fs A) { nx := fun _ A => dropQ Q .non A, rt := dropQ Q } (startD N.length ds) A) : FnOk P w K mg base (CX P w) (k + 1) f fd ps (liftSp K sp) := by
  refine F.ok S (fun vs H Q E ⟨Z, ds, A, Kt, Ex, r, ra, h, _, _⟩ => by rw [r.len]; exact len ds A Kt Ex h) fun cdv A0 outer s H vs Q E hr ⟨Z, ds, A, Kt, Ex, r, ra, h, hq, he⟩ => ?_
  have tk : Takes (cxOf (CX P w) P w K mg base N qual scope f cdv A0 outer s H E) (liftW K Z fun c fs _ A => dropE Ex c fs A) :=
    Takes.imp (takes_of rfl rfl rfl rfl) fun cv dd σ H' ⟨Z', δ, A', c, fs, z, rs, ra', rx, A2, sb, q⟩ => he Z' c fs A2 cv dd H' z (ra'.same sb) rx q
  refine ⟨_, hder cdv A0 outer s H E Z (fun c fs _ A => dropE Ex c fs A) hr tk, Z, startD N.length ds, A, _, Same.refl Z, ?_, ra, hrd ds A Kt Ex h, ?_⟩
  · unfold startD L2.start
    rw [r.len]
    exact start_rs _ r
  · exact ⟨fun Z' δ A' σ H' s rs ra' ⟨A2, sb, q⟩ => hq Z' .non A2 .non H' s (ra'.same sb) mk_non q, fun Z' d A' v H' s ra' rv ⟨A2, sb, q⟩ => hq Z' d A2 v H' s (ra'.same sb) rv q, fun _ _ _ _ _ _ _ _ q => q.elim, fun _ _ _ _ _ _ _ _ q => q.elim⟩
end TF


/-! TF5: more of expressions, statements. -/
namespace TF
open PySem PySem.Spec PyProof.Rows L2 DL FR
open Enc KeyT
section
variable {α β γ δ' ε ζ η σ ρ τ κ : Type} [Enc α] [Enc β] [Enc γ] [Enc δ'] [Enc ε] [Enc ζ] [Enc η] [KeyT κ]
variable {w : DW} {A0 A : AH} {X : String → List (String × D) → Prop} {D0 : DEnds} {V : τ → Prop} {ss : List Sl} {δ : DSt} {Q : DK}
theorem se_powN (a b : Int) (n : Nat) (hb : b = n) (h : n ≤ 1000000 ∧ a.natAbs < 2 ^ 64) : SE w A0 ss (eBin opPow (eC (.int a)) (eC (.int b))) (.ok (a ^ n)) := fun δ A Q e hw => by
  subst hb
  exact ⟨⟨Int.natCast_nonneg n, by omega, h.2⟩, hw⟩
theorem se_modE {t u : DE} {m : R Int} (k : Int) (hk : 0 < k) (h : SE w A0 ss t m) (hu : SE w A0 ss u (.ok k)) : SE w A0 ss (eBin opMod t u) (m.map fun a => a % k) := fun δ A Q e hw =>
  h.run e hw (fun _ _ => id) fun a hw => hu δ A _ e ⟨by omega, by rw [Int.fmod_eq_emod_of_nonneg _ (by omega)]; exact hw⟩
theorem op_eqI : OpE (opEq false) (fun (i j : Int) => .ok (decide (i = j))) := fun A a b Q X hw => by
  refine ⟨dt_int, dt_int, ?_⟩
  show Q (.bl (xor false (deq (.int a) (.int b)))) A
  rw [deq_int, Bool.false_xor, Bool.beq_eq_decide_eq] <;> exact hw
theorem op_neI : OpE (opEq true) (fun (i j : Int) => .ok (!decide (i = j))) := fun A a b Q X hw => by
  refine ⟨dt_int, dt_int, ?_⟩
  show Q (.bl (xor true (deq (.int a) (.int b)))) A
  rw [deq_int, Bool.true_xor, Bool.beq_eq_decide_eq] <;> exact hw
theorem op_eqF : OpE (opEq false) (fun (i j : Rat) => .ok (decide (i = j))) := fun A a b Q X hw => by
  refine ⟨by rw [enc_rat, drf_fr]; exact dt_fr, by rw [enc_rat, drf_fr]; exact dt_fr, ?_⟩
  rw [enc_rat, enc_rat, drf_fr, drf_fr, deq_fr, Bool.false_xor]; exact hw
theorem se_isN1 [NN α] {t : DE} {m : R (Option α)} (h : SE w A0 ss t m) : SE w A0 ss (eBin (opIs true) t (eC .non)) (m.map fun o => !o.isNone) := fun δ A Q e hw => se_isN true h δ A Q e (by simpa using hw)
theorem se_inD0 [Enc κ] [KeyD κ] [DecidableEq κ] {t u : DE} {m : R κ} {n : R (Dic κ α)} (h : SE w A0 ss t m) (h2 : SV w A0 ss u n) : SE w A0 ss (eBin (opIn false) t u) (R.b2 m n fun k d => .ok (d.get? k).isSome) := fun δ A Q e hw => se_inD false h h2 δ A Q e (by simpa using hw)
theorem se_inD1 [Enc κ] [KeyD κ] [DecidableEq κ] {t u : DE} {m : R κ} {n : R (Dic κ α)} (h : SE w A0 ss t m) (h2 : SV w A0 ss u n) : SE w A0 ss (eBin (opIn true) t u) (R.b2 m n fun k d => .ok (!(d.get? k).isSome)) := fun δ A Q e hw => se_inD true h h2 δ A Q e (by simpa using hw)
theorem cb_lenT {n : Nat} (h : ∀ a : α, ∃ l, (enc a : D) = .tup l ∧ l.length = n) : CbE bLen (fun (_ : α) => .ok (n : Int)) := fun A a Q X hw => by
  obtain ⟨l, h1, h2⟩ := h a
  rw [h1, bLen_tup, h2]; exact hw
/-! calls that tell a list of the asker's own -/
theorem so_call3 {sp : DSp} {dvs : List D} {F : α → β → γ → R σ} {o : σ → OT} {t u v : DE} {m : R α} {n : R β} {m3 : R γ} (hs : ∀ A x y z a b c (Q : DK) E, vw A x a → vw A y b → vw A z c → (F a b c).wp (fun r => ∀ p A', New A (o r) p A' → Q (.ref p) A') (fun c fs => E c fs A) → sp ([x, y, z] ++ dvs) A Q E) (h : SV w A0 ss t m) (h2 : SV w A0 ss u n) (h3 : SV w A0 ss v m3) :
    SO w A0 ss (eCall w sp dvs (aCons t (aCons u (aCons v aNil)))) (m.bind fun a => n.bind fun b => m3.bind fun c => F a b c) o := fun δ A Q e hw =>
  h.run e hw (fun _ _ => id) fun a d hd hw => h2.run e hw (fun _ _ => id) fun b y hy hw => h3.run e hw (fun _ _ => id) fun c z hz hw => hs A d y z a b c Q _ hd hy hz hw
/-- return of a slot's own list -/
theorem ss_retOwn {i : Nat} {l : List α} {v : τ} (hi : ss[i]? = some (.own (oL l))) (hrt : ∀ A' p, Sub A0 A' → A' p = some (.lst (l.map enc)) → A0 p = none → V v → D0.rt (.ref p) A') : SS A0 X D0 V ss (sRet (eVar i)) (.ok v) := fun δ A e h => by
  obtain ⟨p, h1, h2, h3⟩ := e.get_own hi
  rw [sRet_eq, eVar_eq h1]
  exact hrt A p e.sub h2 h3 h
/-! methods of the text's objects -/
def MethOk (tb : List (String × DSp)) (m : String) (d : D) (A : AH) (ds : List D) (Q : DK) (E : DX) : Prop := match asObj A d with
  | some (c, fs) => lookS m fs = none ∧ (match lookS c tb with
    | some sp => sp (d :: ds) A Q E
    | none => False)
  | none => False
theorem so_meth0 {name : String} {tb : List (String × DSp)} {F : α → R σ} {oo : σ → OT} {o : DE} {m : R α} (hs : ∀ A x a (Q : DK) E, vw A x a → (F a).wp (fun r => ∀ p A', New A (oo r) p A' → Q (.ref p) A') (fun c fs => E c fs A) → MethOk tb name x A [] Q E) (h : SV w A0 ss o m) : SO w A0 ss (eMth w name tb o aNil) (m.bind F) oo := fun δ A Q e hw => by
  rw [eMth_eq]
  refine h.run e hw (fun _ _ => id) fun a d hd hw => ?_
  exact hs A d a Q (fun c fs A => w c fs δ A) hd hw
/-! objects of ties -/
structure TieO where
  t : TieV
instance : Enc TieO := { enc := fun o => tieO o.t }
end
instance : NN TieO := ⟨fun o => by show (tieO o.t).isNon = false; unfold tieO; rfl⟩
/-! ### what the program's first functions tell, typed -/
noncomputable section
open Classical
def F_divisor (a b : Int) : R Int := .ok (Int.gcd a b)
def F_fraction (a b : Int) : R Rat := if b = 0 then .exc "NoNumber" [] else if Wd a ∧ Wd b then .ok (Rat.divInt a b) else .bad
def F_plus (q r : Rat) : R Rat := if Sm q ∧ Sm r then .ok (q + r) else .bad
def F_minus (q r : Rat) : R Rat := if Sm q ∧ Sm r then .ok (q - r) else .bad
def F_times (q r : Rat) : R Rat := if Sm q ∧ Sm r then .ok (q * r) else .bad
def F_over (q r : Rat) : R Rat := if Sm q ∧ Sm r then (if r = 0 then .exc "NoNumber" [] else .ok (q / r)) else .bad
def F_under (q r : Rat) : R Bool := if Sm q ∧ Sm r then .ok (decide (q < r)) else .bad
def noHeap : AH := fun _ => none
def F_tie_of (d : D) : R TieO := if TieIn noHeap d then (match deTie d with
  | some t => .ok ⟨t⟩
  | none => .exc "NoTie" []) else .bad
def F_Tie_plain (o : TieO) : R TieV := .ok o.t
/-- a tie holds for a size -/
def tieHolds (t : TieV) (q : Rat) : Bool := (match t.low with | some l => decide (l ≤ q) | none => true) && (match t.high with | some h => decide (q ≤ h) | none => true)
/-- the steps of a tie -/
def tieSteps (t : TieV) : List (T4 Str Str Rat Bool) := (match t.high with | some h => [⟨t.start, t.fin, h, true⟩] | none => []) ++ (match t.low with | some l => [⟨t.fin, t.start, -l, false⟩] | none => [])
def F_Tie_steps (o : TieO) : R (List (T4 Str Str Rat Bool)) := if o.t.Sm then .ok (tieSteps o.t) else .bad
end
end TF


/-! TF6: the first functions' promises, typed. -/
namespace TF
open PySem PySem.Spec PyProof.Rows L2 DL FR
open Enc KeyT
section
variable {α β γ δ' ε ζ η σ ρ τ κ : Type} [Enc α] [Enc β] [Enc γ] [Enc δ'] [Enc ε] [Enc ζ] [Enc η] [KeyT κ]
variable {w : DW} {A0 A : AH} {X : String → List (String × D) → Prop} {D0 : DEnds} {V : τ → Prop} {ss : List Sl} {δ : DSt} {Q : DK}
theorem rtO {A1 A' : AH} {a : List α} {p : Addr} (s : Sub A A1) (hn : New A1 (oL a) p A') (h : ∀ p A', New A (oL a) p A' → Q (.ref p) A') : dropQ Q (.ref p) A' := by
  obtain ⟨C, ⟨h1, h2⟩, h3, h4⟩ := hn.ex
  subst h2
  have hp : A p = none := sub_none s (h3 p (List.mem_singleton.mpr rfl))
  refine ⟨A.put p (.lst (a.map enc)), fun b o e => ?_, h p _ (New.put hp)⟩
  by_cases hb : b = p
  · subst hb; rw [AH.put_same] at e; cases e; exact h1
  · rw [AH.put_ne A _ hb] at e
    rw [h4 b (by simpa using hb)]; exact s b o e
theorem rtW {A' : AH} {a : List α} {p : Addr} (s : Sub A A') (h1 : A' p = some (.lst (a.map enc))) (h2 : A p = none) (h : ∀ p A', New A (oL a) p A' → Q (.ref p) A') : dropQ Q (.ref p) A' := by
  refine ⟨A.put p (.lst (a.map enc)), fun b o e => ?_, h p _ (New.put h2)⟩
  by_cases hb : b = p
  · subst hb; rw [AH.put_same] at e; cases e; exact h1
  · rw [AH.put_ne A _ hb] at e; exact s b o e
/-! texts' signs -/
/-! == of three, of four -/
section
variable [DecidableEq α] [EqD α]
end
/-! a list of its own, walked -/
theorem set_same {i : Nat} {x : Option D} (h : δ[i]? = some x) : δ.set i x = δ := by
  apply List.ext_getElem?
  intro j
  rw [List.getElem?_set]
  split
  · rename_i hj; subst hj
    split
    · exact h.symm
    · rename_i hl; exact (List.getElem?_eq_none (by omega)).symm
  · rfl
/-! joined texts -/
/-! objects' classes -/
def isCls (c : String) (o : TieO) : R Bool := .ok (decide (o.t.cls = c))
end
instance : DecidableEq TieV := fun a b => by
  obtain ⟨a1, a2, a3, a4, a5⟩ := a
  obtain ⟨b1, b2, b3, b4, b5⟩ := b
  exact decidable_of_iff (a1 = b1 ∧ a2 = b2 ∧ a3 = b3 ∧ a4 = b4 ∧ a5 = b5) (by simp)
instance : EqD TieV where
  good t := EqD.good t.name ∧ EqD.good t.start ∧ EqD.good t.fin
  dep := 3
  dt_enc t n h hn := dt_t (by omega) (by
    simp only [dts_cons, dts_nil, Bool.and_true, Bool.and_eq_true]
    exact ⟨EqD.dt_enc t.name _ h.1 (by show 0 ≤ _; omega), EqD.dt_enc t.start _ h.2.1 (by show 0 ≤ _; omega), EqD.dt_enc t.fin _ h.2.2 (by show 0 ≤ _; omega), EqD.dt_enc t.low _ (fun _ _ => trivial) (by show 1 ≤ _; omega), EqD.dt_enc t.high _ (fun _ _ => trivial) (by show 1 ≤ _; omega)⟩)
  deq_enc a b h k := by
    show deq (.tup [enc a.name, enc a.start, enc a.fin, enc a.low, enc a.high]) (.tup [enc b.name, enc b.start, enc b.fin, enc b.low, enc b.high]) = _
    rw [deq_tup, deqs_cons, deqs_cons, deqs_cons, deqs_cons, deqs_cons, deqs_nil, EqD.deq_enc _ _ h.1 k.1, EqD.deq_enc _ _ h.2.1 k.2.1, EqD.deq_enc _ _ h.2.2 k.2.2, EqD.deq_enc a.low b.low (fun _ _ => trivial) (fun _ _ => trivial), EqD.deq_enc a.high b.high (fun _ _ => trivial) (fun _ _ => trivial), Bool.and_true]
    cases a; cases b; simp
  vw_dt A d a n h q := vw_dtNR A d a n h q
  vw_deq A x y a b h k := vw_deqNR A x y a b h k
end TF


/-! TF7: things asked for their kinds; texts within texts, parted, read as numbers. -/
namespace TF
open PySem PySem.Spec PyProof.Rows L2 DL FR
open Enc
section
variable {α β γ : Type} [Enc α] [Enc β] [Enc γ] {w : DW} {A0 : AH} {ss : List Sl}
def deStr : D → R Str
  | .str z => .ok z
  | _ => .bad
@[simp] theorem deStr_str {z : Str} : deStr (.str z) = .ok z := rfl
end
end TF


/-! TF8: an object of one's own: its fields read, set, its lists and dicts changed; dict.get; the first item taken out. -/
namespace TF
open PySem PySem.Spec PyProof.Rows L2 DL FR
open Enc
/-- a field told anew -/
def putF' (f : String) (x : D ⊕ AO) : List (String × (D ⊕ AO)) → List (String × (D ⊕ AO))
  | [] => [(f, x)]
  | (g, y) :: r => if g = f then (g, x) :: r else (g, y) :: putF' f x r
theorem OwnF.own {A : AH} {f : String} {o : AO} : ∀ {fs : List (String × (D ⊕ AO))} {r : List (String × D)} {B : List Addr}, OwnF A fs r B → lookS f fs = some (.inr o) → ∃ q, lookS f r = some (.ref q) ∧ A q = some o ∧ q ∈ B ∧ ∀ o', OwnF (A.put q o') (putF' f (.inr o') fs) r B
  | [], _, _, _, h => by simp at h
  | (g, .inl d) :: fs, r, B, ⟨r', e, h⟩, hf => by
    subst e
    rw [lookS_cons] at hf
    by_cases hg : g = f
    · rw [if_pos hg] at hf; cases hf
    · rw [if_neg hg] at hf
      obtain ⟨q, h1, h2, h3, h4⟩ := h.own hf
      refine ⟨q, by rw [lookS_cons, if_neg hg]; exact h1, h2, h3, fun o' => ?_⟩
      unfold putF'
      rw [if_neg hg]
      exact ⟨r', rfl, h4 o'⟩
  | (g, .inr o1) :: fs, r, B, ⟨r', x, B', e1, e2, e3, e4, h⟩, hf => by
    subst e1; subst e4
    rw [lookS_cons] at hf
    by_cases hg : g = f
    · rw [if_pos hg] at hf
      cases hf
      refine ⟨x, by rw [lookS_cons, if_pos hg], e2, List.mem_cons_self, fun o' => ?_⟩
      unfold putF'
      rw [if_pos hg]
      exact ⟨r', x, B', rfl, AH.put_same .., e3, rfl, h.frame fun a ha => AH.put_ne A o' fun e => e3 (e ▸ ha)⟩
    · rw [if_neg hg] at hf
      obtain ⟨q, h1, h2, h3, h4⟩ := h.own hf
      refine ⟨q, by rw [lookS_cons, if_neg hg]; exact h1, h2, List.mem_cons_of_mem _ h3, fun o' => ?_⟩
      unfold putF'
      rw [if_neg hg]
      have hne : x ≠ q := fun e => e3 (by rw [e]; exact h3)
      exact ⟨r', x, B', rfl, by rw [AH.put_ne A o' hne]; exact e2, e3, rfl, h4 o'⟩
theorem OwnF.val {A : AH} {f : String} {d : D} : ∀ {fs : List (String × (D ⊕ AO))} {r : List (String × D)} {B : List Addr}, OwnF A fs r B → lookS f fs = some (.inl d) → lookS f r = some d
  | [], _, _, _, h => by simp at h
  | (g, .inl e) :: fs, r, B, ⟨r', e', h⟩, hf => by
    subst e'
    rw [lookS_cons] at hf ⊢
    by_cases hg : g = f
    · rw [if_pos hg] at hf ⊢; cases hf; rfl
    · rw [if_neg hg] at hf ⊢; exact h.val hf
  | (g, .inr o1) :: fs, r, B, ⟨r', x, B', e1, e2, e3, e4, h⟩, hf => by
    subst e1
    rw [lookS_cons] at hf ⊢
    by_cases hg : g = f
    · rw [if_pos hg] at hf; cases hf
    · rw [if_neg hg] at hf ⊢; exact h.val hf
theorem OwnF.len {A : AH} : ∀ {fs : List (String × (D ⊕ AO))} {r : List (String × D)} {B : List Addr}, OwnF A fs r B → r.length = fs.length
  | [], _, _, ⟨e, _⟩ => by subst e; rfl
  | (_, .inl _) :: _, _, _, ⟨r', e, h⟩ => by subst e; simp [h.len]
  | (_, .inr _) :: _, _, _, ⟨r', x, B', e, _, _, _, h⟩ => by subst e; simp [h.len]
/-- a field set to a value -/
theorem OwnF.set {A : AH} {f : String} {d : D} : ∀ {fs : List (String × (D ⊕ AO))} {r : List (String × D)} {B : List Addr}, OwnF A fs r B → ∃ B', (∀ a ∈ B', a ∈ B) ∧ OwnF A (putF' f (.inl d) fs) (putD f d r) B'
  | [], _, _, ⟨e, e2⟩ => by subst e; subst e2; exact ⟨[], fun _ h => h, [], rfl, rfl, rfl⟩
  | (g, .inl y) :: fs, r, B, ⟨r', e, h⟩ => by
    subst e
    unfold putF'
    rw [putD_cons]
    by_cases hg : g = f
    · rw [if_pos hg, if_pos hg]; exact ⟨B, fun _ h => h, r', rfl, h⟩
    · rw [if_neg hg, if_neg hg]
      obtain ⟨B', h1, h2⟩ := h.set (f := f) (d := d)
      exact ⟨B', h1, _, rfl, h2⟩
  | (g, .inr o1) :: fs, r, B, ⟨r', x, B', e1, e2, e3, e4, h⟩ => by
    subst e1; subst e4
    unfold putF'
    rw [putD_cons]
    by_cases hg : g = f
    · rw [if_pos hg, if_pos hg]; exact ⟨B', fun _ h => List.mem_cons_of_mem _ h, r', rfl, h⟩
    · rw [if_neg hg, if_neg hg]
      obtain ⟨B2, h1, h2⟩ := h.set (f := f) (d := d)
      exact ⟨x :: B2, fun a ha => by rcases List.mem_cons.mp ha with rfl | ha; exact List.mem_cons_self; exact List.mem_cons_of_mem _ (h1 a ha), _, x, B2, rfl, e2, fun hh => e3 (h1 x hh), rfl, h2⟩
/-- a slot's own object changed within, new parts taken from what was free -/
theorem Env.change {A0 A : AH} {ss : List Sl} {δ : DSt} {i : Nat} {t : OT} (h : Env A0 ss δ A) (e : ss[i]? = some (.own t)) : ∃ p C, δ[i]? = some (some (.ref p)) ∧ Own A t p C ∧
    ∀ A' t' C', Own A' t' p C' → (∀ a ∈ C', a ∈ C ∨ A a = none) → (∀ a, a ∉ C → A a ≠ none → A' a = A a) → Env A0 (ss.set i (.own t')) δ A' := by
  obtain ⟨s, B, h⟩ := h
  have th := h.there
  obtain ⟨p, C, B', e1, e2, e3, e4, e5, e6, e7⟩ := h.split_own e
  refine ⟨p, C, e1, e2, fun A' t' C' o hC hA => ⟨fun a u q => ?_, ?_⟩⟩
  · have h1 := s a u q
    rw [hA a (fun hc => by rw [e3 a hc] at q; cases q) (by rw [h1]; intro z; cases z)]
    exact h1
  · have h' : EnvR A0 A' B' (ss.set i .emp) δ := e7.frame fun a ha => hA a (fun hc => e4 a hc ha) (th a (e6 a ha)).1
    obtain ⟨B2, _, q⟩ := h'.set_own i (t := t') (p := p) (C := C') o (fun a ha hb => (hC a ha).elim (fun hc => e4 a hc hb) fun hn => (th a (e6 a hb)).1 hn) fun a ha => (hC a ha).elim (fun hc => e3 a hc) fun hn => by
      cases h0 : A0 a with
      | none => rfl
      | some u => rw [s a u h0] at hn; cases hn
    rw [List.set_set, set_same e1] at q
    exact ⟨B2, q⟩
section
variable {α β κ τ : Type} [Enc α] [Enc β] {w : DW} {A0 : AH} {ss : List Sl} {X : String → List (String × D) → Prop} {D0 : DEnds} {V : τ → Prop} {i : Nat} {c f : String} {pin : Option Addr} {cs : List String} {fs fs' : List (String × (D ⊕ AO))}
end
end TF


/-! TF9: methods that change their own object; objects made. -/
namespace TF
open PySem PySem.Spec PyProof.Rows L2 DL FR
open Enc
abbrev Flds := List (String × (D ⊕ AO))
theorem OwnF.none {A : AH} {f : String} : ∀ {fs : Flds} {r : List (String × D)} {B : List Addr}, OwnF A fs r B → lookS f fs = none → lookS f r = none
  | [], _, _, ⟨e, _⟩, _ => by subst e; simp
  | (g, .inl d) :: fs, r, B, ⟨r', e, h⟩, hf => by
    subst e
    rw [lookS_cons] at hf ⊢
    by_cases hg : g = f
    · rw [if_pos hg] at hf; cases hf
    · rw [if_neg hg] at hf ⊢; exact h.none hf
  | (g, .inr o1) :: fs, r, B, ⟨r', x, B', e1, e2, e3, e4, h⟩, hf => by
    subst e1
    rw [lookS_cons] at hf ⊢
    by_cases hg : g = f
    · rw [if_pos hg] at hf; cases hf
    · rw [if_neg hg] at hf ⊢; exact h.none hf
theorem Own.pinned {A : AH} {c : String} {pin : Option Addr} {fs : Flds} {p : Addr} {C : List Addr} (h : Own A (.ob c pin fs) p C) : ∀ x, pin = some x → p = x := by
  obtain ⟨r, B, h1, h2, h3, h4, h5⟩ := h
  exact h5
theorem New.sub {A A' : AH} {t : OT} {p : Addr} (h : New A t p A') : Sub A A' := by
  obtain ⟨C, h1, h2, h3⟩ := h.ex
  intro a u e
  have : a ∉ C := fun hc => by rw [h2 a hc] at e; cases e
  rw [h3 a this]; exact e
open Classical in
/-- what stands without some -/
noncomputable def AH.less (A : AH) (C : List Addr) : AH := fun a => if a ∈ C then none else A a
section
variable {A0 A : AH} {ss : List Sl} {δ : DSt} {i : Nat} {c name : String} {pin : Option Addr} {fs fs' : Flds} {p : Addr}
/-- a def's first slot is its own object -/
theorem New.env {vs : List Sl} {δ' : DSt} {t : OT} (h : New A0 t p A) (hv : EnvR A0 A [] vs δ') : Env A0 (.own t :: vs) (some (.ref p) :: δ') A := by
  obtain ⟨C, h1, h2, h3⟩ := h.ex
  refine ⟨h.sub, C ++ [], .own hv h1 (fun a _ hb => (nomatch hb)) h2⟩
/-- what stands at its end -/
theorem Env.fin {t : OT} (h : Env A0 ss δ A) (e : ss[i]? = some (.own (.ob c (some p) fs))) : ∃ A2, Sub A2 A ∧ New A0 (.ob c (some p) fs) p A2 := by
  obtain ⟨s, B, h⟩ := h
  obtain ⟨q, C, B', e1, e2, e3, e4, e5, e6, e7⟩ := h.split_own e
  have hq : q = p := e2.pinned p rfl
  subst hq
  refine ⟨fun a => open Classical in if a ∈ C then A a else A0 a, fun a u hu => ?_, C, e2.frame fun a ha => if_pos ha, e3, fun a ha => if_neg ha⟩
  by_cases ha : a ∈ C
  · simpa [ha] using hu
  · exact s a u (by simpa [ha] using hu)
end
section
variable {α β γ σ τ : Type} [Enc α] [Enc β] [Enc γ] {w : DW} {A0 : AH} {ss : List Sl} {X : String → List (String × D) → Prop} {D0 : DEnds} {V : τ → Prop} {i : Nat} {c name : String} {pin : Option Addr} {flds : σ → Flds} {tb : List (String × DSp)} {sp : DSp} {x : σ}
/-! ### how such a def ends -/
end
end TF


/-! TFA: parts, gaps, things; dict.get; the first item taken out. -/
namespace TF
open PySem PySem.Spec PyProof.Rows L2 DL FR
open Enc
structure PartV where
  name : Str
  start : Str
  fin : Str
  size : Rat
  most : Rat
  weight : Int
  deriving DecidableEq
structure GapV where
  name : Str
  one : Str
  other : Str
  low : Rat
  high : Rat
  deriving DecidableEq
instance : Enc PartV := { enc := fun t => .tup [enc t.name, enc t.start, enc t.fin, enc t.size, enc t.most, enc t.weight] }
instance : Enc GapV := { enc := fun t => .tup [enc t.name, enc t.one, enc t.other, enc t.low, enc t.high] }
instance : NR PartV := ⟨fun _ _ h => D.noConfusion h, fun h => h⟩
instance : NR GapV := ⟨fun _ _ h => D.noConfusion h, fun h => h⟩
instance : EqD PartV where
  good t := EqD.good t.name ∧ EqD.good t.start ∧ EqD.good t.fin
  dep := 3
  dt_enc t n h hn := dt_t (by omega) (by
    simp only [dts_cons, dts_nil, Bool.and_true, Bool.and_eq_true]
    exact ⟨EqD.dt_enc t.name _ h.1 (by show 0 ≤ _; omega), EqD.dt_enc t.start _ h.2.1 (by show 0 ≤ _; omega), EqD.dt_enc t.fin _ h.2.2 (by show 0 ≤ _; omega), EqD.dt_enc t.size _ trivial (by show 1 ≤ _; omega), EqD.dt_enc t.most _ trivial (by show 1 ≤ _; omega), EqD.dt_enc t.weight _ trivial (by show 0 ≤ _; omega)⟩)
  deq_enc a b h k := by
    show deq (.tup [enc a.name, enc a.start, enc a.fin, enc a.size, enc a.most, enc a.weight]) (.tup [enc b.name, enc b.start, enc b.fin, enc b.size, enc b.most, enc b.weight]) = _
    rw [deq_tup, deqs_cons, deqs_cons, deqs_cons, deqs_cons, deqs_cons, deqs_cons, deqs_nil, EqD.deq_enc _ _ h.1 k.1, EqD.deq_enc _ _ h.2.1 k.2.1, EqD.deq_enc _ _ h.2.2 k.2.2, EqD.deq_enc a.size b.size trivial trivial, EqD.deq_enc a.most b.most trivial trivial, EqD.deq_enc a.weight b.weight trivial trivial, Bool.and_true]
    cases a; cases b; simp
  vw_dt A d a n h q := vw_dtNR A d a n h q
  vw_deq A x y a b h k := vw_deqNR A x y a b h k
instance : EqD GapV where
  good t := EqD.good t.name ∧ EqD.good t.one ∧ EqD.good t.other
  dep := 3
  dt_enc t n h hn := dt_t (by omega) (by
    simp only [dts_cons, dts_nil, Bool.and_true, Bool.and_eq_true]
    exact ⟨EqD.dt_enc t.name _ h.1 (by show 0 ≤ _; omega), EqD.dt_enc t.one _ h.2.1 (by show 0 ≤ _; omega), EqD.dt_enc t.other _ h.2.2 (by show 0 ≤ _; omega), EqD.dt_enc t.low _ trivial (by show 1 ≤ _; omega), EqD.dt_enc t.high _ trivial (by show 1 ≤ _; omega)⟩)
  deq_enc a b h k := by
    show deq (.tup [enc a.name, enc a.one, enc a.other, enc a.low, enc a.high]) (.tup [enc b.name, enc b.one, enc b.other, enc b.low, enc b.high]) = _
    rw [deq_tup, deqs_cons, deqs_cons, deqs_cons, deqs_cons, deqs_cons, deqs_nil, EqD.deq_enc _ _ h.1 k.1, EqD.deq_enc _ _ h.2.1 k.2.1, EqD.deq_enc _ _ h.2.2 k.2.2, EqD.deq_enc a.low b.low trivial trivial, EqD.deq_enc a.high b.high trivial trivial, Bool.and_true]
    cases a; cases b; simp
  vw_dt A d a n h q := vw_dtNR A d a n h q
  vw_deq A x y a b h k := vw_deqNR A x y a b h k
section
variable {α κ τ : Type} [Enc α] [Enc κ] [KeyT κ] [KeyD κ] [DecidableEq κ] {w : DW} {A0 : AH} {ss : List Sl} {X : String → List (String × D) → Prop} {D0 : DEnds} {V : τ → Prop} {i j : Nat}
theorem Env.junk {δ : DSt} {A : AH} {p : Addr} {o : AO} (h : Env A0 ss δ A) (hp : A p = none) : Env A0 ss δ (A.put p o) := by
  obtain ⟨s, B, r⟩ := h
  exact ⟨s.put (sub_none s hp), B, r.frame fun a ha => AH.put_ne A o fun z => (r.there a ha).1 (z ▸ hp)⟩
theorem so_dic0 : SO w A0 ss eDic0 (R.ok (⟨[]⟩ : Dic κ α)) oD := fun δ A Q e hw p hp => hw p _ (New.put hp)
theorem so_dic1 {t u : DE} {m : R κ} {n : R α} (h : SE w A0 ss t m) (h2 : SE w A0 ss u n) (hm : ∀ c gs, m ≠ .exc c gs) (hn : ∀ c gs, n ≠ .exc c gs) : SO w A0 ss (eDic1 t u) (R.b2 m n fun k a => .ok (⟨[(k, a)]⟩ : Dic κ α)) oD := fun δ A Q e hw p hp => by
  have e' := e.junk (o := .dic []) hp
  cases m with
  | bad => exact hw.elim
  | exc c gs => exact absurd rfl (hm c gs)
  | ok k => cases n with
    | bad => exact hw.elim
    | exc c gs => exact absurd rfl (hn c gs)
    | ok a =>
      refine h δ _ _ e' ?_
      refine h2 δ _ _ e' ?_
      refine ⟨AH.put_same .., ?_⟩
      rw [KeyD.ok]
      refine hw p _ ⟨[p], ⟨AH.put_same .., rfl⟩, fun a ha => by rw [List.mem_singleton.mp ha]; exact hp, fun a ha => ?_⟩
      have hne : a ≠ p := fun z => ha (List.mem_singleton.mpr z)
      rw [AH.put_ne _ _ hne, AH.put_ne _ _ hne]
end
/-! things asked for what they are -/
def F_is_fraction (d : D) : R Bool := if tyOk noHeap d = true then .ok (fracB d) else .bad
def F_is_whole (d : D) : R Bool := if (tyD noHeap d).isSome = true then .ok (isIntD d) else .bad
end TF


/-! TFB: objects of one's own frozen; things. -/
namespace TF
open PySem PySem.Spec PyProof.Rows L2 DL FR
open Enc
def frzF : String × (D ⊕ AO) → String × D
  | (f, .inl d) => (f, d)
  | (f, .inr o) => (f, (fzD o).getD .non)
section
variable {α σ : Type} [Enc α] [Enc σ] {w : DW} {A0 : AH} {ss : List Sl} {c f : String} {cs : List String} {flds : σ → Flds}
end
/-! ### things -/
structure ThingV where
  parts : List PartV
  gaps : List GapV
  sizes : Dic Str Rat
  ways : Dic Str (List (Str × Bool))
abbrev fThing (t : ThingV) : Flds := [("kept_parts", .inr (.lst (t.parts.map enc))), ("kept_gaps", .inr (.lst (t.gaps.map enc))), ("sizes", .inr (.dic (encKV t.sizes.l))), ("kept_ways", .inr (.dic (encKV t.ways.l)))]
instance : Enc ThingV := { enc := fun t => .obj "Thing" (((fThing t).map frzF).map (·.1)) (((fThing t).map frzF).map (·.2)) }
section
variable {w : DW} {A0 : AH} {ss : List Sl} {cs : List String} {t : DE} {m : R ThingV}
end
end TF


/-! TFC: ranges with a step, enumerate, zip, reversed; insert; sum, any, sorted; d.get(k, x). -/
namespace TF
open PySem PySem.Spec PyProof.Rows L2 DL FR
open Enc KeyT
section
variable {α β γ κ τ : Type} [Enc α] [Enc β] [Enc γ] [KeyT κ] {w : DW} {A0 A : AH} {ss : List Sl} {X : String → List (String × D) → Prop} {D0 : DEnds} {V : τ → Prop} {i j : Nat}
/-! what may be read as it stood at first -/
def SW (w : DW) (A0 : AH) (ss : List Sl) (t : DE) (m : R α) : Prop := ∀ (δ : DSt) (A : AH) (Q : DK), Env A0 ss δ A → m.wp (fun a => ∀ d, vw A0 d a → Q d A) (fun c fs => w c fs δ A) → t δ A Q
theorem SW.run {t : DE} {m : R α} {τ : Type} {k : α → R τ} {V : τ → Prop} {X} {δ : DSt} {A : AH} {Q : DK} (h : SW w A0 ss t m) (e : Env A0 ss δ A) (hw : (m.bind k).wp V X) (hx : ∀ c fs, X c fs → w c fs δ A) (hk : ∀ a d, vw A0 d a → (k a).wp V X → Q d A) : t δ A Q :=
  h δ A Q e (by rw [R.wp_bind] at hw; exact R.wp_imp hw (fun a ha d hd => hk a d hd ha) hx)
def enumL (l : List α) : List (Int × α) := l.zipIdx.map fun p => (((p.2 : Nat) : Int), p.1)
/-! in comprehensions: what may be read now -/
/-! ### l.insert(i, x) -/
/-! ### sum, any, sorted -/
theorem strsD_enc : ∀ l : List Str, strsD (l.map enc) = some l
  | [] => rfl
  | x :: l => by
    show (strsD (l.map enc)).map (x :: ·) = _
    rw [strsD_enc l]; rfl
def sumR (l : List Int) : R Int := .ok l.sum
def anyR (l : List Bool) : R Bool := .ok (l.any id)
/-- texts in order -/
def leS (a b : Str) : Bool := !decide (b.cps.toList < a.cps.toList)
def sortS (l : List Str) : List Str := l.mergeSort leS
theorem str_ext {a b : Str} (h : a.cps.toList = b.cps.toList) : a = b := by
  cases a; cases b; congr 1; exact Array.toList_inj.mp h
theorem leS_total (a b : Str) : leS a b || leS b a := by
  unfold leS
  by_cases h : b.cps.toList < a.cps.toList
  · have : ¬ a.cps.toList < b.cps.toList := List.lt_asymm h
    simp [this]
  · simp [h]
theorem leS_trans (a b c : Str) (h1 : leS a b = true) (h2 : leS b c = true) : leS a c = true := by
  unfold leS at *
  simp only [Bool.not_eq_true', decide_eq_false_iff_not] at *
  exact List.le_trans h1 h2
theorem leS_anti (a b : Str) (h1 : leS a b = true) (h2 : leS b a = true) : a = b := by
  unfold leS at *
  simp only [Bool.not_eq_true', decide_eq_false_iff_not] at *
  exact str_ext (List.le_antisymm h1 h2)
theorem rising_pw : ∀ (l : List Str) (p : Str), risingS p l = true → (p :: l).Pairwise (fun a b => leS a b = true)
  | [], p, _ => List.pairwise_singleton _ _
  | x :: l, p, h => by
    unfold risingS at h
    rw [Bool.and_eq_true] at h
    have ih := rising_pw l x h.2
    have hpx : leS p x = true := by
      unfold leS
      have := h.1
      rw [ltCps_eq] at this
      exact this
    refine List.pairwise_cons.mpr ⟨fun y hy => ?_, ih⟩
    rcases List.mem_cons.mp hy with rfl | hy
    · exact hpx
    · exact leS_trans _ _ _ hpx ((List.pairwise_cons.mp ih).1 y hy)
theorem sortedS_pw {l : List Str} (h : sortedS l = true) : l.Pairwise (fun a b => leS a b = true) := by
  cases l with
  | nil => exact .nil
  | cons x l => exact rising_pw l x h
theorem sortS_perm (l : List Str) : (sortS l).Perm l := List.mergeSort_perm ..
theorem sortS_pw (l : List Str) : (sortS l).Pairwise (fun a b => leS a b = true) := List.pairwise_mergeSort leS_trans leS_total l
theorem sorted_unique {l m : List Str} (hp : l.Perm m) (h1 : l.Pairwise (fun a b => leS a b = true)) (h2 : m.Pairwise (fun a b => leS a b = true)) : l = m :=
  List.Perm.eq_of_pairwise (fun a b _ _ => leS_anti a b) h1 h2 hp
theorem sortS_eq {xs ys : List Str} (hp : ys.Perm xs) (hs : sortedS ys = true) : ys = sortS xs := sorted_unique (hp.trans (sortS_perm xs).symm) (sortedS_pw hs) (sortS_pw xs)
def sortedDR {β : Type} (d : Dic Str β) : R (List Str) := if d.l.length < 64 then .ok (sortS (d.l.map (·.1))) else .bad
theorem keysD_enc {β : Type} [Enc β] (d : Dic Str β) : keysD ((encKV d.l).map (·.1)) = some (d.l.map (·.1)) := by
  unfold encKV
  rw [List.map_map]
  induction d.l with
  | nil => rfl
  | cons x l ih =>
    show (keysD (l.map _)).map (x.1 :: ·) = _
    rw [ih]; rfl
theorem dic_not_lst {A : AH} {d : D} {kvs : List (Key × D)} (h : asDic A d = some kvs) : asL A d = none := by
  cases d with
  | ref x =>
    have h' : (match A x with | some (.dic l) => some l | _ => none) = some kvs := h
    show (match A x with | some (.lst l) => some l | _ => none) = none
    split at h'
    · rename_i q; rw [q]
    · cases h'
  | dic _ _ => rfl
  | _ => cases h
theorem cb_sortedD : CbV (α := Dic Str β) (bSorted mkF) sortedDR := fun A d a Q X hd hw => by
  have h : asDic A d = some (encKV a.l) := hd
  have hb : (asL A d).bind strsD = none := by rw [dic_not_lst h]; rfl
  have hk : (asDic A d).bind (fun kvs => keysD (kvs.map (·.1))) = some (a.l.map (·.1)) := by rw [h]; exact keysD_enc a
  unfold bSorted
  simp only [hb, hk]
  unfold sortedDR at hw
  split at hw
  · rename_i hl
    exact ⟨by simpa using hl, fun ys hp hs => by rw [sortS_eq hp hs]; exact hw⟩
  · exact hw.elim
/-! ### d.get(k, x) -/
end
end TF
namespace TF
open PySem PySem.Spec PyProof.Rows L2 DL FR
open Enc KeyT
section
variable {α β : Type} [Enc α] [Enc β] {w : DW} {A0 : AH} {ss : List Sl}
def optR {α β : Type} (o : Option α) (k : α → R β) : R β := match o with
  | none => .bad
  | some a => k a
@[simp] theorem optR_some {α β : Type} {a : α} {k : α → R β} : optR (some a) k = k a := rfl
end
end TF
namespace TF
open PySem PySem.Spec PyProof.Rows L2 DL FR
open Enc KeyT
section
variable {α β γ σ : Type} [Enc α] [Enc β] [Enc γ] {w : DW} {A0 : AH} {ss : List Sl}
end
end TF
namespace TF
open PySem PySem.Spec PyProof.Rows L2 DL FR
open Enc KeyT
section
variable {α : Type} [Enc α] [DecidableEq α] [EqD α]
omit [DecidableEq α] [EqD α] in
instance : NR (Option (List α)) := ⟨fun a p h => by
  cases a with
  | none => exact D.noConfusion h
  | some a => exact D.noConfusion h, fun h => h⟩
instance : EqD (Option (List α)) where
  good o := ∀ a, o = some a → EqD.good a
  dep := EqD.dep (List α)
  dt_enc a n h hn := by
    cases a with
    | none => exact dt_non
    | some a => exact EqD.dt_enc a n (h a rfl) hn
  deq_enc a b h k := by
    cases a with
    | none => cases b with
      | none => simp [enc_none, deq]
      | some b => rw [enc_none, enc_somE, (deq_non (NN.nn b)).1]; simp
    | some a => cases b with
      | none => rw [enc_none, enc_somE, (deq_non (NN.nn a)).2]; simp
      | some b => rw [enc_somE, enc_somE, EqD.deq_enc a b (h a rfl) (k b rfl)]; simp
  vw_dt A d a n h q := vw_dtNR A d a n h q
  vw_deq A x y a b h k := vw_deqNR A x y a b h k
end
end TF


/-! TFD: defs that change dicts handed to them. -/
namespace TF
open PySem PySem.Spec PyProof.Rows L2 DL FR
open Enc KeyT
section
variable {A0 A : AH} {ss : List Sl} {δ : DSt} {i : Nat} {q : Addr} {o : AO}
theorem Env.get_pn (h : Env A0 ss δ A) (e : ss[i]? = some (.own (.pn q o))) : δ[i]? = some (some (.ref q)) ∧ A q = some o ∧ A0 q = none := by
  obtain ⟨s, B, h⟩ := h
  obtain ⟨p, C, B', e1, ⟨e2, e2', e2''⟩, e3, e4, e5, e6, e7⟩ := h.split_own e
  subst e2' e2''
  exact ⟨e1, e2, e3 p (List.mem_singleton.mpr rfl)⟩
theorem Env.upd_pn {o' : AO} (h : Env A0 ss δ A) (e : ss[i]? = some (.own (.pn q o))) : Env A0 (ss.set i (.own (.pn q o'))) δ (A.put q o') := by
  obtain ⟨s, B, h⟩ := h
  obtain ⟨p, C, B', e1, ⟨e2, e2', e2''⟩, e3, e4, e5, e6, e7⟩ := h.split_own e
  subst e2' e2''
  have hp : p ∈ [p] := List.mem_singleton.mpr rfl
  refine ⟨fun a u q => ?_, ?_⟩
  · have hn : a ≠ p := fun z => by rw [z, e3 p hp] at q; cases q
    rw [AH.put_ne A o' hn]; exact s a u q
  · have h' : EnvR A0 (A.put p o') B' (ss.set i .emp) δ := e7.frame fun a ha => AH.put_ne A o' fun z => e4 p hp (z ▸ ha)
    obtain ⟨B2, _, q⟩ := h'.set_own i (t := .pn p o') (p := p) (C := [p]) ⟨AH.put_same .., rfl, rfl⟩ e4 e3
    rw [List.set_set] at q
    have ed : δ.set i (some (.ref p)) = δ := by
      apply List.ext_getElem?
      intro j
      rw [List.getElem?_set]
      by_cases hj : i = j
      · subst hj
        obtain ⟨h1, h2⟩ := List.getElem?_eq_some_iff.mp e1
        rw [if_pos rfl, if_pos h1, e1]
      · rw [if_neg hj]
    rw [ed] at q
    exact ⟨_, q⟩
end
/-- what stands, and some objects beside it -/
structure NewL (A0 : AH) (os : List (Addr × AO)) (A : AH) : Prop where
  nd : (os.map (·.1)).Nodup
  non : ∀ x ∈ os, A0 x.1 = none
  at_ : ∀ x ∈ os, A x.1 = some x.2
  out : ∀ a, a ∉ os.map (·.1) → A a = A0 a
theorem NewL.sub {A0 A : AH} {os : List (Addr × AO)} (h : NewL A0 os A) : Sub A0 A := fun a u e => by
  have : a ∉ os.map (·.1) := fun hm => by
    obtain ⟨x, hx, e2⟩ := List.mem_map.mp hm
    rw [← e2, h.non x hx] at e; cases e
  rw [h.out a this]; exact e
section
variable {A0 A : AH} {p p2 : Addr} {o o2 o' o2' : AO}
theorem NewL.own (h : NewL A0 [(p, o)] A) : Own A (.pn p o) p [p] ∧ (∀ a ∈ [p], A0 a = none) :=
  ⟨⟨h.at_ _ List.mem_cons_self, rfl, rfl⟩, fun a ha => by rw [List.mem_singleton.mp ha]; exact h.non _ List.mem_cons_self⟩
theorem NewL.own2 (h : NewL A0 [(p, o), (p2, o2)] A) : (Own A (.pn p o) p [p] ∧ Own A (.pn p2 o2) p2 [p2]) ∧ (∀ a ∈ [p], A0 a = none) ∧ (∀ a ∈ [p2], A0 a = none) ∧ (∀ a ∈ [p], a ∉ [p2]) := by
  have h2 : (p2, o2) ∈ [(p, o), (p2, o2)] := List.mem_cons_of_mem _ List.mem_cons_self
  refine ⟨⟨⟨h.at_ _ List.mem_cons_self, rfl, rfl⟩, ⟨h.at_ _ h2, rfl, rfl⟩⟩, fun a ha => by rw [List.mem_singleton.mp ha]; exact h.non _ List.mem_cons_self, fun a ha => by rw [List.mem_singleton.mp ha]; exact h.non _ h2, fun a ha hb => ?_⟩
  rw [List.mem_singleton.mp ha] at hb
  have e := List.mem_singleton.mp hb
  have := h.nd
  rw [e] at this
  simp at this
open Classical in
/-- .. as it stands at a def's end -/
theorem Env.finL {J : List Sl} {δ : DSt} {os os' : List (Addr × AO)} (e : Env A0 J δ A) (nd : (os.map (·.1)).Nodup) (hos : os'.map (·.1) = os.map (·.1)) (h : ∀ x ∈ os', ∃ i : Nat, J[i]? = some (Sl.own (.pn x.1 x.2))) : ∃ A2, Sub A2 A ∧ NewL A0 os' A2 := by
  refine ⟨fun a => if a ∈ os'.map (·.1) then A a else A0 a, fun a u hu => ?_, ⟨hos ▸ nd, fun x hx => ?_, fun x hx => ?_, fun a ha => if_neg ha⟩⟩
  · by_cases ha : a ∈ os'.map (·.1)
    · have hu' : (if a ∈ os'.map (·.1) then A a else A0 a) = some u := hu
      rw [if_pos ha] at hu'; exact hu'
    · have hu' : (if a ∈ os'.map (·.1) then A a else A0 a) = some u := hu
      rw [if_neg ha] at hu'; exact e.sub _ _ hu'
  · obtain ⟨i, hi⟩ := h x hx
    exact (e.get_pn hi).2.2
  · obtain ⟨i, hi⟩ := h x hx
    show (if x.1 ∈ os'.map (·.1) then A x.1 else A0 x.1) = _
    rw [if_pos (List.mem_map_of_mem hx)]
    exact (e.get_pn hi).2.1
end
section
variable {α β γ δ' κ τ ρ σ : Type} [Enc α] [Enc β] [Enc γ] [Enc δ'] [KeyT κ] {w : DW} {A0 : AH} {ss : List Sl} {X : String → List (String × D) → Prop} {D0 : DEnds} {V : τ → Prop} {i j : Nat} {q : Addr}
abbrev oP (q : Addr) (d : Dic κ α) : OT := .pn q (.dic (encKV d.l))
theorem sv_ownDP {l : Dic κ α} (h : ss[i]? = some (.own (oP q l))) : SV w A0 ss (eVar i) (.ok l) := fun δ A Q e hw => by
  obtain ⟨h1, h2, _⟩ := e.get_pn h
  rw [eVar_eq h1]
  refine hw _ ?_
  show (match A q with | some (.dic l) => some l | _ => none) = _
  rw [h2]
theorem ss_setDP [Enc κ] [KeyD κ] [DecidableEq κ] {te ti : DE} {rest : DS} {m : R α} {n : R κ} {d : Dic κ α} {k : Dic κ α → R τ} (hw : WE A0 w X ss) (hi : ss[i]? = some (.own (oP q d))) (he : SE w A0 ss te m) (hk : SE w A0 ss ti n) (hr : ∀ d', SS A0 X D0 V (ss.set i (.own (oP q d'))) rest (k d')) :
    SS A0 X D0 V ss (sSeq (sAsg te (dgSub (eVar i) ti)) rest) (m.bind fun a => n.bind fun j => (fewD d).bind fun _ => (R.ok (d.put j a)).bind k) := fun δ A e h => by
  obtain ⟨h1, h2, _⟩ := e.get_pn hi
  rw [sSeq_eq, sAsg_eq]
  refine he.run e h (fun c fs => hw c fs δ A e) fun a ha => ?_
  rw [dgSub_eq, eVar_eq h1]
  refine hk.run e ha (fun c fs => hw c fs δ A e) fun j hj => ?_
  unfold fewD at hj
  split at hj
  · rename_i hl
    show setD (.ref q) (enc j) (enc a) A _
    unfold setD
    simp only [h2, KeyD.ok]
    refine ⟨by simpa [encKV] using hl, ?_⟩
    have q3 := e.upd_pn (o' := .dic (encKV (d.put j a).l)) hi
    rw [encKV_put]; exact hr _ _ _ q3 hj
  · exact hj.elim
/-! ### how such a def ends -/
theorem pn_ret [Enc ρ] {Q : DK} {nx : DSt → AH → Prop} {te : DE} {m : R ρ} {s' : σ} {os : List (Addr × AO)} {f : σ → List (Addr × AO)} (hw : WE A0 w X ss) (he : SE w A0 ss te m) (nd : (os.map (·.1)).Nodup) (hos : (f s').map (·.1) = os.map (·.1)) (h : ∀ x ∈ f s', ∃ i : Nat, ss[i]? = some (Sl.own (.pn x.1 x.2))) :
    SS A0 X { nx := nx, rt := dropQ Q } (fun r : ρ × σ => ∀ A', NewL A0 (f r.2) A' → Q (enc r.1) A') ss (sRet te) (m.bind fun a => R.ok (a, s')) := fun δ A e hq => by
  rw [sRet_eq]
  refine he.run (Q := dropQ Q) e hq (fun c fs => hw c fs δ A e) fun a ha => ?_
  obtain ⟨A2, s, n⟩ := e.finL nd hos h
  exact ⟨A2, s, ha A2 n⟩
/-! ### such a def called -/
end
end TF
namespace TF
open PySem PySem.Spec PyProof.Rows L2 DL FR
open Enc KeyT
section
variable {α τ : Type} [Enc α] {w : DW} {A0 : AH} {ss : List Sl} {X : String → List (String × D) → Prop} {D0 : DEnds} {V : τ → Prop}
end
end TF
namespace TF
open PySem PySem.Spec PyProof.Rows L2 DL FR
open Enc KeyT
/-- some texts as a tuple -/
structure StopV where
  l : List Str
  deriving DecidableEq
instance : Enc StopV := { enc := fun t => .tup (t.l.map D.str) }
instance : NN StopV := ⟨fun _ => rfl⟩
instance : NR StopV := ⟨fun _ _ h => D.noConfusion h, fun h => h⟩
theorem deqs_strs : ∀ a b : List Str, deqs (a.map D.str) (b.map D.str) = decide (a = b)
  | [], [] => by simp [deqs]
  | [], _ :: _ => by simp [deqs]
  | _ :: _, [] => by simp [deqs]
  | x :: a, y :: b => by
    rw [List.map_cons, List.map_cons, deqs_cons, deqs_strs a b, deq_str]
    by_cases h : x = y <;> simp [h]
theorem dts_strs {n : Nat} : ∀ a : List Str, (∀ s ∈ a, PyData.strOk s = true) → dts n (a.map D.str) = true
  | [], _ => by simp [dts]
  | x :: a, h => by
    rw [List.map_cons, dts_cons, dt_str, h x List.mem_cons_self, dts_strs a fun s hs => h s (List.mem_cons_of_mem _ hs)]; rfl
instance : EqD StopV where
  good t := ∀ s ∈ t.l, PyData.strOk s = true
  dep := 2
  dt_enc t n h hn := dt_t (by omega) (dts_strs _ h)
  deq_enc a b h k := by
    show deq (.tup (a.l.map D.str)) (.tup (b.l.map D.str)) = _
    rw [deq_tup, deqs_strs]
    cases a; cases b; simp
  vw_dt A d a n h q := vw_dtNR A d a n h q
  vw_deq A x y a b h k := vw_deqNR A x y a b h k
section
variable {α β τ : Type} [Enc α] [Enc β] {w : DW} {A0 : AH} {ss : List Sl} {X : String → List (String × D) → Prop} {D0 : DEnds} {V : τ → Prop} {i j : Nat}
end
end TF


/-! TFE: how often, and where first, a truth stands in a list. -/
namespace TF
open PySem PySem.Spec PyProof.Rows L2 DL FR
open Enc KeyT
section
variable {w : DW} {A0 : AH} {ss : List Sl}
end
end TF


/-! TFF: isinstance of a caught error, with fields or none. -/
namespace TF
open PySem PySem.Spec PyProof.Rows L2 DL FR
open Enc KeyT
section
variable {w : DW} {A0 : AH} {ss : List Sl}
/-! x in (a, b, ..) -/
class FlatT (α : Type) [Enc α] where
  flat : ∀ a : α, opIn.flatD (enc a) = true
instance : FlatT Int := ⟨fun _ => rfl⟩
instance : FlatT Bool := ⟨fun _ => rfl⟩
instance : FlatT Str := ⟨fun _ => rfl⟩
end
end TF


/-! TFG: list(reversed(range(n))). -/
namespace TF
open PySem PySem.Spec PyProof.Rows L2 DL FR
open Enc KeyT
section
variable {w : DW} {A0 : AH} {ss : List Sl}
end
end TF


/-! TFH: dict(d), d a dict: a copy of one's own. -/
namespace TF
open PySem PySem.Spec PyProof.Rows L2 DL FR
open Enc KeyT
section
variable {α κ : Type} [Enc α] [KeyT κ]
end
end TF


/-! TFI: a list handed in and changed there. -/
namespace TF
open PySem PySem.Spec PyProof.Rows L2 DL FR
open Enc KeyT
section
variable {α β γ δ' ε ζ η τ : Type} [Enc α] [Enc β] [Enc γ] [Enc δ'] [Enc ε] [Enc ζ] [Enc η] {w : DW} {A0 : AH} {ss : List Sl} {X : String → List (String × D) → Prop} {D0 : DEnds} {V : τ → Prop} {i j : Nat} {q : Addr}
end
end TF


/-! TFJ: sorted(set(texts)). -/
namespace TF
open PySem PySem.Spec PyProof.Rows L2 DL FR
open Enc KeyT
/-- each text once -/
def dedS : List Str → List Str
  | [] => []
  | x :: l => if x ∈ dedS l then dedS l else x :: dedS l
theorem dedS_mem : ∀ {l : List Str} {x : Str}, x ∈ dedS l ↔ x ∈ l
  | [], x => Iff.rfl
  | y :: l, x => by
    unfold dedS
    split
    · rename_i h
      rw [dedS_mem, List.mem_cons]
      refine ⟨.inr, fun h' => h'.elim (fun e => ?_) id⟩
      rw [e]; exact dedS_mem.mp h
    · rw [List.mem_cons, List.mem_cons, dedS_mem]
theorem dedS_nd (l : List Str) : (dedS l).Nodup := by
  induction l with
  | nil => exact List.nodup_nil
  | cons y l ih =>
    unfold dedS
    split
    · exact ih
    · rename_i h
      exact List.nodup_cons.mpr ⟨h, ih⟩
def sortSetR (l : List Str) : R (List Str) := if l.length < 4000 ∧ (dedS l).length < 64 then .ok (sortS (dedS l)) else .bad
theorem ded_perm {l ks : List Str} (h : ks.Nodup) (m : ∀ x, x ∈ ks ↔ x ∈ l) : ks.Perm (dedS l) := (List.perm_ext_iff_of_nodup h (dedS_nd l)).mpr fun x => (m x).trans dedS_mem.symm
section
variable {w : DW} {A0 : AH} {ss : List Sl}
theorem se_sortSet {t : DE} {m : R (List Str)} (h : SV w A0 ss t m) : SE w A0 ss (eSortSet mkF t) (m.bind sortSetR) := fun δ A Q e hw => by
  refine h.run e hw (fun _ _ => id) fun l d hd hw => ?_
  have h1 : asL A d = some (l.map enc) := hd
  have hb : (asL A d).bind strsD = some l := by rw [h1]; exact strsD_enc l
  simp only [hb]
  unfold sortSetR at hw
  split at hw
  · rename_i hl
    exact ⟨hl.1, fun ks nd m => by rw [(ded_perm nd m).length_eq]; exact hl.2, fun ys nd m hs => by rw [sortS_eq (ded_perm nd m) hs]; exact hw⟩
  · exact hw.elim
end
end TF


/-! TFK: dict(pairs); list.index of a text. -/
namespace TF
open PySem PySem.Spec PyProof.Rows L2 DL FR
open Enc KeyT
section
variable {α : Type} [Enc α]
end
section
variable {w : DW} {A0 : AH} {ss : List Sl}
end
end TF


/-! TFL: x = f(a, d, e), f changing two dicts of one's own. -/
namespace TF
open PySem PySem.Spec PyProof.Rows L2 DL FR
open Enc KeyT
section
variable {α ρ δ1 δ2 κ1 κ2 τ : Type} [Enc α] [Enc ρ] [Enc δ1] [Enc δ2] [KeyT κ1] [KeyT κ2] {w : DW} {A0 : AH} {ss : List Sl} {X : String → List (String × D) → Prop} {D0 : DEnds} {V : τ → Prop} {i i2 j : Nat}
open Classical in
theorem less_new2 {A : AH} {p q : Addr} {o u : AO} (hpq : p ≠ q) (h : A p = some o) (g : A q = some u) : NewL (AH.less A [p, q]) [(p, o), (q, u)] A := by
  refine ⟨by simp [hpq], fun x hx => ?_, fun x hx => ?_, fun a ha => (if_neg (by simpa using ha)).symm⟩
  · simp at hx
    rcases hx with rfl | rfl
    · exact if_pos (by simp)
    · exact if_pos (by simp)
  · simp at hx
    rcases hx with rfl | rfl
    · exact h
    · exact g
open Classical in
theorem new_put2 {A A' : AH} {p q : Addr} {o' u' : AO} (hpq : p ≠ q) (n : NewL (AH.less A [p, q]) [(p, o'), (q, u')] A') : A' = (A.put p o').put q u' := by
  funext a
  by_cases hq : a = q
  · subst hq; rw [AH.put_same]; exact n.at_ _ (List.mem_cons_of_mem _ List.mem_cons_self)
  · rw [AH.put_ne _ u' hq]
    by_cases ha : a = p
    · subst ha; rw [AH.put_same]; exact n.at_ _ List.mem_cons_self
    · rw [AH.put_ne A o' ha, n.out a (by simp [ha, hq])]
      exact if_neg (by simp [ha, hq])
theorem ss_io23of3 {t0 : DE} {m0 : R α} {sp : DSp} {d : Dic κ1 δ1} {e' : Dic κ2 δ2} {F : α → Dic κ1 δ1 → Dic κ2 δ2 → R (ρ × (Dic κ1 δ1 × Dic κ2 δ2))} {rest : DS} {k : ρ × (Dic κ1 δ1 × Dic κ2 δ2) → R τ} (hw : WE A0 w X ss) (hi : ss[i]? = some (.own (oD d))) (hi2 : ss[i2]? = some (.own (oD e')))
    (hs : ∀ A0 A p q a (Q : DK) (E : DX), NewL A0 [(p, .dic (encKV d.l)), (q, .dic (encKV e'.l))] A → (F a d e').wp (fun r => ∀ A', NewL A0 [(p, .dic (encKV r.2.1.l)), (q, .dic (encKV r.2.2.l))] A' → Q (enc r.1) A') (fun _ _ => False) → sp [enc a, .ref p, .ref q] A Q E)
    (h0 : SE w A0 ss t0 m0) (hr : ∀ r, SS A0 X D0 V (((ss.set i (.own (oD r.2.1))).set i2 (.own (oD r.2.2))).set j (.val (enc r.1))) rest (k r)) (hne : i ≠ i2 := by decide) :
    SS A0 X D0 V ss (sSeq (sAsg (eCall w sp [] (aCons t0 (aCons (eVar i) (aCons (eVar i2) aNil)))) (dgName j)) rest) (m0.bind fun a => ((F a d e').noexc).bind k) := fun δ A e h => by
  obtain ⟨p, e1, e2, e3⟩ := e.upd_own (o' := .lst []) hi
  obtain ⟨q, f1, f2, _⟩ := e.get_own hi2
  have hpq : p ≠ q := fun hpq => by
    subst hpq
    obtain ⟨q', g1, g2, _⟩ := e3.get_own (i := i2) (by rw [List.getElem?_set_ne hne]; exact hi2)
    rw [f1] at g1
    cases g1
    rw [AH.put_same] at g2
    cases g2
  rw [sSeq_eq]
  show eCall w sp [] _ δ A (fun d A1 => dgName j d δ A1 (rest D0))
  show aCons t0 _ δ A _
  rw [aCons_eq]
  refine h0.run e h (fun c fs => hw c fs δ A e) fun a ha => ?_
  rw [aCons_eq, eVar_eq e1, aCons_eq, eVar_eq f1, aNil_eq]
  rw [R.wp_bind] at ha
  refine hs (AH.less A [p, q]) A p q a _ _ (less_new2 hpq e2 f2) ?_
  refine R.wp_imp (R.wp_noexc (E' := fun _ _ => False) ha) (fun r hd' A' hn => ?_) fun _ _ h => h
  obtain ⟨p', q1, q2, q3⟩ := e.upd_own (o' := .dic (encKV r.2.1.l)) hi
  rw [e1] at q1; cases q1
  obtain ⟨p2, r1, r2, r3⟩ := q3.upd_own (i := i2) (o' := .dic (encKV r.2.2.l)) (by rw [List.getElem?_set_ne hne]; exact hi2)
  rw [f1] at r1; cases r1
  rw [new_put2 hpq hn]
  exact hr r _ _ (r3.set_val j _) hd'
end
end TF


/-! TFM: books; t[i], t a tie, i its third or fourth place. -/
namespace TF
open PySem PySem.Spec PyProof.Rows L2 DL FR
open Enc KeyT
structure BookV where
  kept : List TieV
abbrev fBook (t : BookV) : Flds := [("kept", .inr (.lst (t.kept.map enc)))]
/-- a book: frozen, or one that may change, as it stands in the heap -/
instance : Enc BookV where
  enc := fun t => .obj "Book" (((fBook t).map frzF).map (·.1)) (((fBook t).map frzF).map (·.2))
  vw := fun A d b => ∃ dk, asObj A d = some ("Book", [("kept", dk)]) ∧ asL A dk = some (b.kept.map enc)
  vw_enc := fun A b => ⟨.lst (b.kept.map enc), rfl, rfl⟩
  vw_mono := fun {A B d a} s ⟨dk, h1, h2⟩ => ⟨dk, by
    cases d with
    | ref x =>
      have h' : (match A x with | some (.obj c fs) => some (c, fs) | _ => none) = some ("Book", [("kept", dk)]) := h1
      show (match B x with | some (.obj c fs) => some (c, fs) | _ => none) = some ("Book", [("kept", dk)])
      split at h'
      · rename_i q; rw [s _ _ q]; exact h'
      · cases h'
    | _ => exact h1, asL_sub s h2⟩
section
variable {α σ γ : Type} [Enc α] {w : DW} {A0 : AH} {ss : List Sl} {cs : List String} {c : String} {flds : σ → Flds} {sp : DSp}
end
end TF


/-! TFN: methods of two and three arguments. -/
namespace TF
open PySem PySem.Spec PyProof.Rows L2 DL FR
open Enc KeyT
@[simp] theorem toRat_exc {p : Int × Int} {c : String} {gs : List (String × D)} : toRat p = .exc c gs ↔ False := by
  unfold toRat
  split <;> simp
section
variable {α β γ δ' ρ : Type} [Enc α] [Enc β] [Enc γ] [Enc δ'] [Enc ρ] {w : DW} {A0 : AH} {ss : List Sl}
end
end TF


/-! TFO: told lists cleared by the asker: a def's own rows over lists taken back. -/
namespace TF
open PySem PySem.Spec PyProof.Rows L2 DL FR
open Enc KeyT
open Classical in
noncomputable def guardR (p : Prop) : R Unit := if p then .ok () else .bad
theorem guardR_ok {p : Prop} (h : p) : guardR p = .ok () := if_pos h
theorem guardR_wp {p : Prop} {V : Unit → Prop} {X} (h : (guardR p).wp V X) : p ∧ V () := by
  unfold guardR at h
  split at h
  · rename_i hp; exact ⟨hp, h⟩
  · exact h.elim
class SimpE (α : Type) [Enc α] where
  sm : ∀ a : α, Simp (enc a)
instance : SimpE Int := ⟨fun _ => trivial⟩
instance : SimpE Bool := ⟨fun _ => trivial⟩
instance : SimpE Str := ⟨fun _ => trivial⟩
instance : SimpE Rat := ⟨fun q => by show Simp (frD q); rw [frD_def]; exact ⟨trivial, trivial, trivial⟩⟩
section
variable {α β γ δ' : Type} [Enc α] [Enc β] [Enc γ] [Enc δ'] [SimpE α] [SimpE β] [SimpE γ] [SimpE δ']
instance : SimpE (α × β) := ⟨fun t => ⟨SimpE.sm t.1, SimpE.sm t.2, trivial⟩⟩
instance : SimpE (T3 α β γ) := ⟨fun t => ⟨SimpE.sm t.a, SimpE.sm t.b, SimpE.sm t.c, trivial⟩⟩
instance : SimpE (T4 α β γ δ') := ⟨fun t => ⟨SimpE.sm t.a, SimpE.sm t.b, SimpE.sm t.c, SimpE.sm t.d, trivial⟩⟩
instance : SimpE (Option α) := ⟨fun o => by cases o with | none => exact trivial | some a => exact SimpE.sm a⟩
end
instance : SimpE TieV := ⟨fun t => ⟨SimpE.sm t.name, SimpE.sm t.start, SimpE.sm t.fin, SimpE.sm t.low, SimpE.sm t.high, trivial⟩⟩
/-- the values that stand beside hold none of the lists -/
def slotsD : List Sl → List D
  | [] => []
  | .val d :: ss => d :: slotsD ss
  | _ :: ss => slotsD ss
def allVal : List Sl → Bool
  | [] => true
  | .own _ :: _ => false
  | _ :: ss => allVal ss
/-- slots forgotten where nothing is told of them -/
def forgD : List Sl → DSt → DSt
  | .emp :: ss, _ :: δ => none :: forgD ss δ
  | _ :: ss, x :: δ => x :: forgD ss δ
  | _, δ => δ
section
variable {A0 A : AH} {B : List Addr} {ss : List Sl} {δ : DSt}
theorem fgt_forg : ∀ (ss : List Sl) (δ : DSt), Fgt δ (forgD ss δ)
  | [], δ => by
    unfold forgD
    induction δ with
    | nil => exact .nil
    | cons x δ ih => exact .cons (.inr rfl) ih
  | s :: ss, [] => by cases s <;> exact .nil
  | .emp :: ss, x :: δ => .cons (.inl rfl) (fgt_forg ss δ)
  | .val d :: ss, x :: δ => .cons (.inr rfl) (fgt_forg ss δ)
  | .own t :: ss, x :: δ => .cons (.inr rfl) (fgt_forg ss δ)
theorem EnvR.forg (h : EnvR A0 A B ss δ) : EnvR A0 A B ss (forgD ss δ) := by
  induction h with
  | nil => exact .nil
  | emp _ ih => exact .emp ih
  | val _ ih => exact .val ih
  | own _ o h1 h2 ih => exact .own ih o h1 h2
theorem EnvR.vals (h : EnvR A0 A B ss δ) (hv : allVal ss = true) {A' : AH} : EnvR A0 A' [] ss δ := by
  induction h with
  | nil => exact .nil
  | emp _ ih => exact .emp (ih hv)
  | val _ ih => exact .val (ih hv)
  | own _ _ _ _ _ => cases hv
theorem EnvR.inSlots (h : EnvR A0 A B ss δ) (hv : allVal ss = true) : ∀ x ∈ forgD ss δ, ∀ e, x = some e → e ∈ slotsD ss := by
  induction h with
  | nil => intro x hx; cases hx
  | emp _ ih =>
    intro x hx e he
    rcases List.mem_cons.mp hx with rfl | hx
    · cases he
    · exact ih hv x hx e he
  | val _ ih =>
    intro x hx e he
    rcases List.mem_cons.mp hx with rfl | hx
    · cases he; exact List.mem_cons_self
    · exact List.mem_cons_of_mem _ (ih hv x hx e he)
  | own _ _ _ _ _ => cases hv
theorem NoLs.mem {L : List (List D)} : ∀ {l : List D} {d : D}, NoLs L l → d ∈ l → NoL L d
  | x :: l, d, h, hd => by
    rcases List.mem_cons.mp hd with rfl | hd
    · exact h.1
    · exact NoLs.mem h.2 hd
theorem forg_emp : ∀ {ss : List Sl} {δ : DSt} {i : Nat}, ss[i]? = some .emp → i < δ.length → (forgD ss δ)[i]? = some none
  | s :: ss, x :: δ, 0, h, _ => by
    simp at h; subst h; rfl
  | s :: ss, x :: δ, i + 1, h, hl => by
    have := forg_emp (ss := ss) (δ := δ) (i := i) (by simpa using h) (by simpa using hl)
    cases s <;> simpa [forgD] using this
  | [], _, _, h, _ => by simp at h
  | _ :: _, [], _, _, hl => by simp at hl
theorem EnvR.len (h : EnvR A0 A B ss δ) : ss.length = δ.length := by
  induction h with
  | nil => rfl
  | emp _ ih => simp [ih]
  | val _ ih => simp [ih]
  | own _ _ _ _ ih => simp [ih]
end
theorem ix_at {δ : DSt} {A : AH} {Q : DK} {i : Nat} {l : List D} {n : Int} {d : D} (h : δ[i]? = some (some (.tup l))) (hd : atI l n = some d) (q : Q d A) : eBin opIx (eVar i) (eC (.int n)) δ A Q := by
  rw [eBin_eq, eVar_eq h]
  show opIx (.tup l) (.int n) A Q
  rw [opIx_tup, hd]; exact q
section
variable {α β γ τ : Type} [Enc α] [Enc β] [Enc γ] [SimpE α] [SimpE β] [SimpE γ] {A0 : AH} {X : String → List (String × D) → Prop} {D0 : DEnds} {V : τ → Prop} {ss : List Sl}
end
section
variable {K : PySem.W.Frag} {Z0 : Hp} {Xc : Cx} {rest : List Stmt} {t : DS}
theorem qp_fz {i : Nat} (h : QP Xc Z0 rest t) : QP Xc Z0 rest (sFz i t) := PSs.imp h fun D σ H ⟨Z, δ, A, DD, z, rs, ra, t, re⟩ => by
  unfold sFz at t
  split at t
  · rename_i p hp
    obtain ⟨v, h1, h2⟩ := rs.get hp
    have ev := rv_ref h2
    subst ev
    split at t
    · rename_i l q
      obtain ⟨Z2, s2, r2, q2⟩ := fz_ok ra q
      exact ⟨Z2, _, _, DD, z.trans s2, rs_left (rs.mono s2) h1 q2, r2, t, re⟩
    · rename_i l q
      obtain ⟨Z2, s2, r2, q2⟩ := fz_ok ra q
      exact ⟨Z2, _, _, DD, z.trans s2, rs_left (rs.mono s2) h1 q2, r2, t, re⟩
    · rename_i l q
      obtain ⟨Z2, s2, r2, q2⟩ := fz_ok ra q
      exact ⟨Z2, _, _, DD, z.trans s2, rs_left (rs.mono s2) h1 q2, r2, t, re⟩
    · exact t.elim
  · exact t.elim
end
theorem fn_okP {K : PySem.W.Frag} {P : Program} {w : World} {mg : Str → Option Value} {base : Heap} {x qual : Str} {params : Arguments} {body : List Stmt} {scope : Scope} {dvs : List V} {kws : List (Str × V)} {f : Addr} {fd : FuncData} {N ps : List Str} {k : Nat} {sp : DSp} {t : DW → DS}
    (F : FunD K x qual params body scope dvs kws f fd) (S : FnScope N ps scope) (len : ∀ ds A Q E, sp ds A Q E → ds.length = ps.length)
    (hder : ∀ (cdv : Value) (A : Around) (outer : List PySem.Env) (s : Shared) (H : Hp) (E : XK) (Z0 : Hp) (wd : DW), CleanZ Z0 → Room k (A.deeper (envOfC qual scope s.heap.objs.size f cdv)) → Takes (cxOf (CX P w) P w K mg base N qual scope f cdv A outer s H E) (liftW K Z0 wd) → QP (cxOf (CX P w) P w K mg base N qual scope f cdv A outer s H E) Z0 body (t wd))
    (hrd : ∀ ds A Q E, sp ds A Q E → t (fun c fs _ A => dropE E c fs A) { nx := fun _ A => dropQ Q .non A, rt := dropQ Q } (startD N.length ds) A) : FnOk P w K mg base (CX P w) (k + 1) f fd ps (liftSpC K sp) := by
  refine F.ok S (fun vs H Q E ⟨Z, ds, A, Kt, Ex, c, r, ra, h, _, _⟩ => by rw [r.len]; exact len ds A Kt Ex h) fun cdv A0 outer s H vs Q E hr ⟨Z, ds, A, Kt, Ex, c, r, ra, h, hq, he⟩ => ?_
  have tk : Takes (cxOf (CX P w) P w K mg base N qual scope f cdv A0 outer s H E) (liftW K Z fun c fs _ A => dropE Ex c fs A) :=
    Takes.imp (takes_of rfl rfl rfl rfl) fun cv dd σ H' ⟨Z', δ, A', c, fs, z, rs, ra', rx, A2, sb, q⟩ => he Z' c fs A2 cv dd H' z (ra'.same sb) rx q
  refine ⟨_, hder cdv A0 outer s H E Z (fun c fs _ A => dropE Ex c fs A) c hr tk, Z, startD N.length ds, A, _, Same.refl Z, ?_, ra, hrd ds A Kt Ex h, ?_⟩
  · unfold startD L2.start
    rw [r.len]
    exact start_rs _ r
  · exact ⟨fun Z' δ A' σ H' s rs ra' ⟨A2, sb, q⟩ => hq Z' .non A2 .non H' s (ra'.same sb) mk_non q, fun Z' d A' v H' s ra' rv ⟨A2, sb, q⟩ => hq Z' d A2 v H' s (ra'.same sb) rv q, fun _ _ _ _ _ _ _ _ q => q.elim, fun _ _ _ _ _ _ _ _ q => q.elim⟩
end TF


/-! TFP: sorted(d.items()); the pairs in an error's one field. -/
namespace TF
open PySem PySem.Spec PyProof.Rows L2 DL FR
open Enc KeyT
noncomputable def sortItR (d : Dic Str Rat) : R (List (Str × Rat)) := if d.l.length < 64 ∧ (d.l.map (·.1)).Nodup then .ok ((sortS (d.l.map (·.1))).map fun k => (k, (d.get? k).getD 0)) else .bad
section
variable {w : DW} {A0 : AH} {ss : List Sl}
end
end TF


/-! TFQ: two told lists of one content, cleared by the asker. -/
namespace TF
open PySem PySem.Spec PyProof.Rows L2 DL FR
open Enc KeyT
section
variable {α τ : Type} [Enc α] [SimpE α] {A0 : AH} {X : String → List (String × D) → Prop} {D0 : DEnds} {V : τ → Prop} {ss : List Sl}
end
end TF


/-! TFR: an object's own list: an item set, taken out; an own list's item dropped. -/
namespace TF
open PySem PySem.Spec PyProof.Rows L2 DL FR
open Enc
section
variable {α β κ τ : Type} [Enc α] [Enc β] {w : DW} {A0 : AH} {ss : List Sl} {X : String → List (String × D) → Prop} {D0 : DEnds} {V : τ → Prop} {i : Nat} {c f : String} {pin : Option Addr} {cs : List String} {fs fs' : List (String × (D ⊕ AO))}
end
end TF


/-! TFS: try with two clauses. -/
namespace TF
open PySem PySem.Spec PyProof.Rows L2 DL FR
open Enc
section
variable {σ τ : Type} {w : DW} {A0 : AH} {ss : List Sl} {X : String → List (String × D) → Prop} {D0 : DEnds} {V : τ → Prop}
end
end TF


/-! TFT: a def that changes an object and a list handed to it. -/
namespace TF
open PySem PySem.Spec PyProof.Rows L2 DL FR
open Enc
/-- what stands, and two own things beside it -/
def New2 (A0 : AH) (t : OT) (p : Addr) (u : OT) (q : Addr) (A : AH) : Prop := ∃ C E, Own A t p C ∧ Own A u q E ∧ (∀ a ∈ C, a ∉ E) ∧ (∀ a ∈ C, A0 a = none) ∧ (∀ a ∈ E, A0 a = none) ∧ ∀ a, a ∉ C → a ∉ E → A a = A0 a
section
variable {A0 A : AH} {ss : List Sl} {δ : DSt} {i j : Nat} {t u : OT} {p q : Addr}
theorem New2.sub (h : New2 A0 t p u q A) : Sub A0 A := by
  obtain ⟨C, E, _, _, _, h1, h2, h3⟩ := h
  intro a x e
  rw [h3 a (fun hc => by rw [h1 a hc] at e; cases e) fun hc => by rw [h2 a hc] at e; cases e]
  exact e
/-- a def's first two slots -/
theorem New2.env {vs : List Sl} {δ' : DSt} (h : New2 A0 t p u q A) (hv : EnvR A0 A [] vs δ') : Env A0 (.own t :: .own u :: vs) (some (.ref p) :: some (.ref q) :: δ') A := by
  have s := h.sub
  obtain ⟨C, E, o1, o2, dj, h1, h2, _⟩ := h
  refine ⟨s, C ++ (E ++ []), .own (.own hv o2 (fun a _ hb => (nomatch hb)) h2) o1 (fun a ha hb => ?_) h1⟩
  rw [List.append_nil] at hb
  exact dj a ha hb
end
section
variable {α β γ ρ τ : Type} [Enc α] [Enc β] [Enc γ] [Enc ρ] {w : DW} {A0 : AH} {ss : List Sl} {X : String → List (String × D) → Prop} {D0 : DEnds} {V : τ → Prop} {i j : Nat}
end
end TF


/-! TFU: data read as what it was; a list handed in, popped from and set. -/
namespace TF
open PySem PySem.Spec PyProof.Rows L2 DL FR
open Enc
class EncInj (α : Type) [Enc α] : Prop where
  inj : ∀ {a b : α}, enc a = enc b → a = b
instance : EncInj Str := ⟨fun h => by injection h⟩
instance : EncInj Bool := ⟨fun h => by injection h⟩
instance : EncInj Int := ⟨fun h => by injection h⟩
instance : EncInj Rat := ⟨fun {a b} h => by
  have h : frD a = frD b := h
  rw [frD_def, frD_def] at h
  injection h with h
  injection h with h1 h
  injection h with h2 _
  injection h1 with h1
  injection h2 with h2
  exact Rat.ext h1 (by exact_mod_cast h2)⟩
section
variable {α β γ : Type} [Enc α] [Enc β] [Enc γ] [EncInj α] [EncInj β] [EncInj γ]
theorem encL_inj : ∀ {l m : List α}, l.map enc = m.map enc → l = m
  | [], [], _ => rfl
  | [], _ :: _, h => by cases h
  | _ :: _, [], h => by cases h
  | x :: l, y :: m, h => by
    rw [List.map_cons, List.map_cons] at h
    injection h with h1 h2
    rw [EncInj.inj h1, encL_inj h2]
instance : EncInj (List α) := ⟨fun {a b} h => by
  have h : D.lst (a.map enc) = D.lst (b.map enc) := h
  injection h with h
  exact encL_inj h⟩
instance : EncInj (α × β) := ⟨fun {a b} h => by
  have h : D.tup [enc a.1, enc a.2] = D.tup [enc b.1, enc b.2] := h
  injection h with h
  injection h with h1 h
  injection h with h2 _
  exact Prod.ext (EncInj.inj h1) (EncInj.inj h2)⟩
instance : EncInj (T3 α β γ) := ⟨fun {a b} h => by
  have h : D.tup [enc a.a, enc a.b, enc a.c] = D.tup [enc b.a, enc b.b, enc b.c] := h
  injection h with h
  injection h with h1 h
  injection h with h2 h
  injection h with h3 _
  obtain ⟨_, _, _⟩ := a
  obtain ⟨_, _, _⟩ := b
  rw [T3.mk.injEq]
  exact ⟨EncInj.inj h1, EncInj.inj h2, EncInj.inj h3⟩⟩
end
theorem encO_inj {α : Type} [Enc α] [EncInj α] [NN α] {a b : Option α} (h : enc a = enc b) : a = b := by
  cases a with
  | none => cases b with
    | none => rfl
    | some y =>
      have h : D.non = enc y := h
      have := NN.nn y
      rw [← h] at this
      cases this
  | some x => cases b with
    | none =>
      have h : enc x = D.non := h
      have := NN.nn x
      rw [h] at this
      cases this
    | some y =>
      have h : enc x = enc y := h
      rw [EncInj.inj h]
instance {α : Type} [Enc α] [EncInj α] [NN α] : EncInj (Option α) := ⟨encO_inj⟩
instance : EncInj TieV := ⟨fun {a b} h => by
  have h : D.tup [enc a.name, enc a.start, enc a.fin, enc a.low, enc a.high] = D.tup [enc b.name, enc b.start, enc b.fin, enc b.low, enc b.high] := h
  injection h with h
  injection h with h1 h
  injection h with h2 h
  injection h with h3 h
  injection h with h4 h
  injection h with h5 _
  obtain ⟨_, _, _, _, _⟩ := a
  obtain ⟨_, _, _, _, _⟩ := b
  rw [TieV.mk.injEq]
  exact ⟨EncInj.inj h1, EncInj.inj h2, EncInj.inj h3, EncInj.inj h4, EncInj.inj h5⟩⟩
section
variable {α τ : Type} [Enc α] {w : DW} {A0 : AH} {ss : List Sl} {X : String → List (String × D) → Prop} {D0 : DEnds} {V : τ → Prop} {i : Nat} {q : Addr}
end
end TF


/-! TFV: a book or None; what must raise; a def that changes a book and a list, called in a test; a list that is let go. -/
namespace TF
open PySem PySem.Spec PyProof.Rows L2 DL FR
open Enc
instance : EncInj D := ⟨fun h => h⟩
structure BookO where
  o : Option BookV
instance : Enc BookO where
  enc := fun b => match b.o with
    | none => .non
    | some x => enc x
  vw := fun A d b => match b.o with
    | none => d = .non
    | some x => vw A d x
  vw_enc := fun A b => by
    obtain ⟨o⟩ := b
    cases o with
    | none => rfl
    | some x => exact vw_enc A x
  vw_mono := fun {A B d b} s h => by
    obtain ⟨o⟩ := b
    cases o with
    | none => exact h
    | some x => exact vw_mono (α := BookV) s h
section
variable {α β ρ σ τ : Type} [Enc α] [Enc β] [Enc ρ] {w : DW} {A0 : AH} {ss : List Sl} {X : String → List (String × D) → Prop} {D0 : DEnds} {V : τ → Prop} {i j : Nat} {name : String} {tb : List (String × DSp)} {sp : DSp}
end
end TF


/-! TFW: a desk: an object whose first field is a book of its own. -/
namespace TF
open PySem PySem.Spec PyProof.Rows L2 DL FR
open Enc
structure DeskV where
  book : BookV
  thing : ThingV
instance : Enc DeskV where
  enc := fun d => .obj "Desk" ["book", "kept_thing"] [enc d.book, enc d.thing]
  vw := fun A x d => ∃ bk, asObj A x = some ("Desk", [("book", bk), ("kept_thing", enc d.thing)]) ∧ vw A bk d.book
  vw_enc := fun A d => ⟨enc d.book, rfl, vw_enc A d.book⟩
  vw_mono := fun {A B x d} s ⟨bk, h1, h2⟩ => ⟨bk, by
    cases x with
    | ref a =>
      have h' : (match A a with | some (.obj c fs) => some (c, fs) | _ => none) = some ("Desk", [("book", bk), ("kept_thing", enc d.thing)]) := h1
      show (match B a with | some (.obj c fs) => some (c, fs) | _ => none) = some ("Desk", [("book", bk), ("kept_thing", enc d.thing)])
      split at h'
      · rename_i q; rw [s _ _ q]; exact h'
      · cases h'
    | _ => exact h1, vw_mono (α := BookV) s h2⟩
section
variable {α β ρ σ τ : Type} [Enc α] [Enc β] [Enc ρ] {w : DW} {A0 : AH} {ss : List Sl} {X : String → List (String × D) → Prop} {D0 : DEnds} {V : τ → Prop} {i j : Nat} {cs : List String} {pin : Option Addr} {d : DeskV}
end
end TF


/-! TFX: a desk's book changed, its thing set; a desk made; defs that change a thing of one's own and tell something. -/
namespace TF
open PySem PySem.Spec PyProof.Rows L2 DL FR
open Enc
section
variable {α β ρ σ τ : Type} [Enc α] [Enc β] [Enc ρ] {w : DW} {A0 : AH} {ss : List Sl} {X : String → List (String × D) → Prop} {D0 : DEnds} {V : τ → Prop} {i j : Nat} {cs : List String} {pin : Option Addr} {d : DeskV} {name : String} {tb : List (String × DSp)} {sp : DSp}
end
end TF


/-! TFY: text.split(sep). -/
namespace TF
open PySem PySem.Spec PyProof.Rows L2 DL FR
open Enc
section
variable {w : DW} {A0 : AH} {ss : List Sl}
end
end TF


/-! TFZ: a desk's methods that change it and tell something. -/
namespace TF
open PySem PySem.Spec PyProof.Rows L2 DL FR
open Enc
section
variable {α β ρ σ τ : Type} [Enc α] [Enc β] [Enc ρ] {w : DW} {A0 : AH} {ss : List Sl} {X : String → List (String × D) → Prop} {D0 : DEnds} {V : τ → Prop} {i j : Nat} {pin : Option Addr} {d : DeskV} {name : String} {tb : List (String × DSp)} {sp : DSp}
end
end TF


/-! UF0: own dicts whose keys are pairs of a text and a truth. -/
namespace TF
open PySem PySem.Spec PyProof.Rows L2 DL FR
open TF.Enc
structure DicT (α : Type) where l : List (KP × α)
section
variable {α β τ : Type} [Enc α] [Enc β] [HashT] {A0 : AH} {X : String → List (String × D) → Prop} {D0 : DEnds} {V : τ → Prop} {ss : List Sl} {w : DW}
def encT (l : List (KP × α)) : List (KP × D) := l.map fun p => (p.1, enc p.2)
abbrev oT (d : DicT α) : OT := .ao (.tk HashT.hf (encT d.l))
omit [Enc α] [HashT] in
def DicT.get? (d : DicT α) (k : KP) : Option α := (d.l.find? fun p => decide (p.1 = k)).map (·.2)
omit [Enc α] [HashT] in
def DicT.put (d : DicT α) (k : KP) (a : α) : DicT α := ⟨if (d.l.any fun p => decide (p.1 = k)) = true then d.l.map (fun p => if p.1 = k then (p.1, a) else p) else d.l ++ [(k, a)]⟩
omit [Enc α] [HashT] in
def getT (d : DicT α) (k : KP) : R α := match d.get? k with
  | some a => .ok a
  | none => .bad
end
end TF


/-! UF1: expressions that change things of one's own and tell something; a desk's own methods. -/
namespace TF
open PySem PySem.Spec PyProof.Rows L2 DL FR
open Enc
open Classical in
noncomputable def F_is_name (d : D) : R Bool := match d with
  | .str z => if Few z.length then .ok (nameB z) else .bad
  | _ => .bad
instance : EncInj PartV := ⟨fun {a b} h => by
  obtain ⟨a1, a2, a3, a4, a5, a6⟩ := a
  obtain ⟨b1, b2, b3, b4, b5, b6⟩ := b
  have h : D.tup [enc a1, enc a2, enc a3, enc a4, enc a5, enc a6] = D.tup [enc b1, enc b2, enc b3, enc b4, enc b5, enc b6] := h
  simp only [D.tup.injEq, List.cons.injEq, and_true] at h
  obtain ⟨h1, h2, h3, h4, h5, h6⟩ := h
  rw [EncInj.inj h1, EncInj.inj h2, EncInj.inj h3, EncInj.inj h4, EncInj.inj h5, EncInj.inj h6]⟩
instance : EncInj GapV := ⟨fun {a b} h => by
  obtain ⟨a1, a2, a3, a4, a5⟩ := a
  obtain ⟨b1, b2, b3, b4, b5⟩ := b
  have h : D.tup [enc a1, enc a2, enc a3, enc a4, enc a5] = D.tup [enc b1, enc b2, enc b3, enc b4, enc b5] := h
  simp only [D.tup.injEq, List.cons.injEq, and_true] at h
  obtain ⟨h1, h2, h3, h4, h5⟩ := h
  rw [EncInj.inj h1, EncInj.inj h2, EncInj.inj h3, EncInj.inj h4, EncInj.inj h5]⟩
section
variable {α β γ ρ ρ' σ τ : Type} [Enc α] [Enc β] [Enc γ] [Enc ρ] [Enc ρ'] {w : DW} {A0 : AH} {ss : List Sl} {X : String → List (String × D) → Prop} {D0 : DEnds} {V : τ → Prop} {i j : Nat} {pin : Option Addr} {d : DeskV} {name : String} {tb : List (String × DSp)} {sp : DSp} {up : σ → List Sl}
/-- an expression that tells ρ and changes own things to σ -/
def SEf (w : DW) (A0 : AH) (ss : List Sl) (t : DE) (m : R (ρ × σ)) (up : σ → List Sl) : Prop := ∀ (δ : DSt) (A : AH) (K : DK) (X : String → List (String × D) → Prop), WE A0 w X ss → Env A0 ss δ A →
  m.wp (fun r => ∀ A', Env A0 (up r.2) δ A' → K (enc r.1) A') X → t δ A K
/-- arguments, as a nested tuple -/
def SAs (w : DW) (A0 : AH) (ss : List Sl) (t : DA) (m : R σ) (f : σ → List D) : Prop := ∀ (δ : DSt) (A : AH) (Q : List D → AH → Prop), Env A0 ss δ A → m.wp (fun a => Q (f a) A) (fun c fs => w c fs δ A) → t δ A Q
theorem SAs.run {ts : DA} {m : R σ} {f : σ → List D} {k : σ → R τ} {δ : DSt} {A : AH} {Q : List D → AH → Prop} (h : SAs w A0 ss ts m f) (e : Env A0 ss δ A) (hw : (m.bind k).wp V X) (hx : ∀ c fs, X c fs → w c fs δ A) (hk : ∀ a, (k a).wp V X → Q (f a) A) : ts δ A Q :=
  h δ A Q e (by rw [R.wp_bind] at hw; exact R.wp_imp hw hk hx)
theorem SEf.go {t : DE} {m : R (ρ × σ)} {k : ρ × σ → R τ} {δ : DSt} {A : AH} {K : DK} (h : SEf w A0 ss t m up) (hw : WE A0 w X ss) (e : Env A0 ss δ A) (hm : (m.bind k).wp V X) (hK : ∀ r A', Env A0 (up r.2) δ A' → (k r).wp V X → K (enc r.1) A') : t δ A K :=
  h δ A K X hw e (by rw [R.wp_bind] at hm; exact R.wp_imp hm (fun r hr A' e' => hK r A' e' hr) fun _ _ h => h)
end
end TF


/-! UF2: loops in defs that change things handed to them; such defs called with other things of one's own beside. -/
namespace TF
open PySem PySem.Spec PyProof.Rows L2 DL FR
open Enc
section
variable {α β γ ρ ρ' σ τ υ : Type} [Enc α] [Enc β] [Enc γ] [Enc ρ] [Enc ρ'] {w : DW} {A0 A : AH} {ss : List Sl} {δ : DSt} {X : String → List (String × D) → Prop} {D0 : DEnds} {V : τ → Prop} {i j : Nat} {pin : Option Addr} {d : DeskV} {name : String} {tb : List (String × DSp)} {sp : DSp} {up : σ → List Sl} {t u : OT}
/-! ### a list of three texts -/
structure L3 where (a b c : Str)
instance : Enc L3 := { enc := fun t => .lst [.str t.a, .str t.b, .str t.c] }
def L3.l (t : L3) : List Str := [t.a, t.b, t.c]
end
end TF


/-! UF3: a list of rows with lists, told by a def, changed in a def that is called (k23). -/
namespace TF
open PySem PySem.Spec PyProof.Rows L2 DL FR
open Enc KeyT
abbrev PairV := Str × Bool
abbrev FndV := T3 Str Rat (List PairV)
def IncE (d e : D) : Prop := ∀ (K : PySem.W.Frag) Z v, Coh K Z → RV K Z d v → RV K Z e v → False
theorem ince_inc {d e : D} {l m : List D} (h : IncE d e) : Inc (d :: l) (e :: m) := fun K Z vs co r q => by
  obtain ⟨v, u, rfl, r1, _⟩ := r.inv
  obtain ⟨v', u', e', q1, _⟩ := q.inv
  cases e'
  exact h K Z v co r1 q1
theorem ince_tup {l m : List D} (h : l.length ≠ m.length) : IncE (.tup l) (.tup m) := fun K Z v co r q => by
  obtain ⟨p, vs, e1, h1, h2⟩ := rv_tup r
  obtain ⟨p', us, e2, h3, h4⟩ := rv_tup q
  rw [e1] at e2
  cases e2
  have := co _ _ _ h1 h3
  subst this
  exact h (by rw [← h2.len, ← h4.len])
theorem ince_str {l : List D} {x : Str} : IncE (.tup l) (.str x) := fun K Z v co r q => by
  obtain ⟨p, vs, e1, _⟩ := rv_tup r
  have e2 := rv_str q
  rw [e1] at e2
  cases e2
/-- lists that are neither chains nor what is told of them -/
def KPk (l : List D) : Prop := (∀ c : List PairV, c ≠ [] → Inc (c.map enc) l) ∧ ∀ r : List FndV, r ≠ [] → Inc (r.map enc) l
class KHd (α : Type) [Enc α] : Prop where
  hd : ∀ x : α, (∀ p : PairV, IncE (enc p) (enc x)) ∧ ∀ t : FndV, IncE (enc t) (enc x)
instance : KHd Str := ⟨fun x => ⟨fun p => ince_str, fun t => ince_str⟩⟩
instance : KHd TieV := ⟨fun x => ⟨fun p => ince_tup (by show (2 : Nat) ≠ 5; decide), fun t => ince_tup (by show (3 : Nat) ≠ 5; decide)⟩⟩
instance {α β γ δ : Type} [Enc α] [Enc β] [Enc γ] [Enc δ] : KHd (T4 α β γ δ) := ⟨fun x => ⟨fun p => ince_tup (by show (2 : Nat) ≠ 4; decide), fun t => ince_tup (by show (3 : Nat) ≠ 4; decide)⟩⟩
theorem kpk_map {α : Type} [Enc α] [KHd α] (l : List α) : KPk (l.map enc) := by
  cases l with
  | nil => exact ⟨fun c hc => inc_nil fun e => hc (List.map_eq_nil_iff.mp e), fun r hr => inc_nil fun e => hr (List.map_eq_nil_iff.mp e)⟩
  | cons x l =>
    refine ⟨fun c hc => ?_, fun r hr => ?_⟩
    · cases c with
      | nil => exact absurd rfl hc
      | cons p c => exact ince_inc ((KHd.hd x).1 p)
    · cases r with
      | nil => exact absurd rfl hr
      | cons t r => exact ince_inc ((KHd.hd x).2 t)
class KEnc (α : Type) [Enc α] : Prop where
  kd : ∀ a : α, KD KPk (enc a)
instance {α : Type} [Enc α] [SimpE α] : KEnc α := ⟨fun a => KD.simp (SimpE.sm a)⟩
theorem simps_enc {α : Type} [Enc α] [SimpE α] (l : List α) : Simps (l.map enc) := by
  induction l with
  | nil => trivial
  | cons x l ih => exact ⟨SimpE.sm x, ih⟩
instance {α : Type} [Enc α] [SimpE α] [KHd α] : KEnc (List α) := ⟨fun l => ⟨kpk_map l, KDs.simp (simps_enc l)⟩⟩
theorem kds_nil : KDs KPk [] := trivial
theorem kds_cons {d : D} {l : List D} (h : KD KPk d) (k : KDs KPk l) : KDs KPk (d :: l) := ⟨h, k⟩
theorem kds_mem {P : List D → Prop} : ∀ {l : List D} {d : D}, KDs P l → d ∈ l → KD P d
  | [], _, _, h => (nomatch h)
  | x :: l, d, k, h => by
    rcases List.mem_cons.mp h with rfl | h
    · exact k.1
    · exact kds_mem k.2 h
theorem kd_asL {α : Type} [Enc α] [SimpE α] [KHd α] {A : AH} {d : D} {l : List α} (h : asL A d = some (l.map enc)) : KD KPk d := by
  cases d with
  | lst m =>
    have : m = l.map enc := Option.some.inj h
    subst this
    exact ⟨kpk_map l, KDs.simp (simps_enc l)⟩
  | rol m =>
    have : m = l.map enc := Option.some.inj h
    subst this
    exact ⟨kpk_map l, KDs.simp (simps_enc l)⟩
  | ref a => trivial
  | _ => exact absurd h (by unfold asL; simp)
theorem kd_vw {α : Type} [Enc α] [SimpE α] [KHd α] {A : AH} {d : D} {l : List α} (h : vw A d l) : KD KPk d := kd_asL (A := A) h
/-- what a def finds that is not its own -/
def KAk (A : AH) : Prop := ∀ a o, A a = some o → KO KPk o
theorem kak_clean {A : AH} (h : CleanA A) : KAk A := fun a o e => by
  obtain ⟨l, rfl⟩ := h a o e
  exact KDs.simp (simps_enc l)
/-- pairs are read in one way -/
theorem pairs_uniq {K : PySem.W.Frag} {Z : Hp} (co : Coh K Z) : ∀ {c c' : List PairV} {vs : List V}, RVs K Z (c.map enc) vs → RVs K Z (c'.map enc) vs → c = c'
  | [], [], _, _, _ => rfl
  | [], _ :: _, vs, r, q => by
    have h1 := r.len
    have h2 := q.len
    rw [h1] at h2
    simp at h2
  | _ :: _, [], vs, r, q => by
    have h1 := r.len
    have h2 := q.len
    rw [h1] at h2
    simp at h2
  | (x, b) :: c, (x', b') :: c', vs, r, q => by
    obtain ⟨v, u, rfl, r1, r2⟩ := r.inv
    obtain ⟨v', u', e', q1, q2⟩ := q.inv
    cases e'
    have := pairs_uniq co r2 q2
    subst this
    obtain ⟨p, ws, e1, h1, h2⟩ := rv_tup (l := [.str x, .bl b]) r1
    obtain ⟨p', ws', e2, h3, h4⟩ := rv_tup (l := [.str x', .bl b']) q1
    rw [e1] at e2
    cases e2
    have := co _ _ _ h1 h3
    subst this
    obtain ⟨w1, w2, ew, a1, a2⟩ := h2.two
    obtain ⟨w1', w2', ew', a1', a2'⟩ := h4.two
    rw [ew] at ew'
    cases ew'
    have s1 := rv_str a1
    have s2 := rv_str a1'
    have t1 := rv_bl a2
    have t2 := rv_bl a2'
    rw [s1] at s2
    rw [t1] at t2
    cases s2
    cases t2
    rfl
def thNR (v : List FndV) : R (List FndV) := if v.length = 0 ∨ 1000 ≤ v.length then .bad else .ok v
theorem thNR_ok {v : List FndV} (h : v ≠ []) (hl : v.length < 1000) : thNR v = .ok v := by
  have := List.length_pos_iff.mpr h
  exact if_neg (by omega)
theorem thNR_wp {v : List FndV} {V' : List FndV → Prop} {X} (h : (thNR v).wp V' X) : v ≠ [] ∧ v.length < 1000 ∧ V' v := by
  unfold thNR at h
  by_cases q : v.length = 0 ∨ 1000 ≤ v.length
  · rw [if_pos q] at h; exact h.elim
  · rw [if_neg q] at h
    exact ⟨fun z => q (.inl (by rw [z]; rfl)), by omega, h⟩
abbrev rowOf (t : FndV) : DL.Row := (enc t.a, enc t.b, t.c.map enc)
theorem row_enc (v : List FndV) : (v.map rowOf).map rowD = v.map enc := by rw [List.map_map]; rfl
theorem comp_thw {gd : AH → Prop} {a b c : Nat} {δ : DSt} {pk p : Addr} {A1 A2 : AH} {fin : AH → Prop} (hpk : A2 pk = none) (hgd : ∀ acc, gd (A2.put pk (.lst acc))) (la : a < δ.length) (lb : b < δ.length) (lc : c < δ.length) (hab : a ≠ b) (hac : a ≠ c) (hbc : b ≠ c) :
    ∀ (R : List DL.Row) (S : List D) (acc : List D), Thw A1 A2 p R S → acc.length + R.length < 1000000 → fin (A2.put pk (.lst (acc ++ R.map rowD))) → compD pk gd (dgTup 3 (dgCons (dgName a) (dgCons (dgName b) (dgCons (dgName c) dgNil)))) bYes (eTup (aCons (eVar a) (aCons (eVar b) (aCons (eCB (bList mkF) (aCons (eVar c) aNil)) aNil)))) [a, b, c] fin δ S (A2.put pk (.lst acc))
  | [], [], acc, _, _, h => ⟨hgd acc, by simpa using h⟩
  | [], _ :: _, _, h, _, _ => h.elim
  | _ :: _, [], _, h, _, _ => h.elim
  | x :: R, y :: S, acc, ⟨⟨e, h1, h2⟩, h3⟩, hl, hf => by
    subst h1
    rw [List.length_cons] at hl
    refine ⟨hgd acc, ?_⟩
    rw [dgTup_tup]
    refine ⟨rfl, ?_⟩
    have hw : ∀ (l : List Nat), (wipeD δ l).length = δ.length := fun l => by
      induction l with
      | nil => rfl
      | cons v l ih => show ((wipeD δ l).set v none).length = _; rw [List.length_set, ih]
    have hwl : (wipeD δ [a, b, c]).length = δ.length := hw _
    have ga : ((((wipeD δ [a, b, c]).set a (some x.1)).set b (some x.2.1)).set c (some e))[a]? = some (some x.1) := by
      rw [List.getElem?_set_ne (Ne.symm hac), List.getElem?_set_ne (Ne.symm hab), List.getElem?_set_self (by omega)]
    have gb : ((((wipeD δ [a, b, c]).set a (some x.1)).set b (some x.2.1)).set c (some e))[b]? = some (some x.2.1) := by
      rw [List.getElem?_set_ne (Ne.symm hbc), List.getElem?_set_self (by rw [List.length_set]; omega)]
    have gc : ((((wipeD δ [a, b, c]).set a (some x.1)).set b (some x.2.1)).set c (some e))[c]? = some (some e) := List.getElem?_set_self (by rw [List.length_set, List.length_set]; omega)
    refine And.intro (fun _ => ?_) (fun h => (nomatch h))
    have hasl : asL (A2.put pk (.lst acc)) e = some x.2.2 := by
      rcases h2 with ⟨h4, rfl⟩ | ⟨_, q, rfl, _, _, h5⟩
      · rw [h4]; rfl
      · have hne : q ≠ pk := fun z => by rw [z, hpk] at h5; cases h5
        have h6 : (A2.put pk (.lst acc)) q = some (.lst x.2.2) := by rw [AH.put_ne _ _ hne]; exact h5
        unfold asL
        simp only [h6]
    show eTup (aCons (eVar a) (aCons (eVar b) (aCons (eCB (bList mkF) (aCons (eVar c) aNil)) aNil))) ((((wipeD δ [a, b, c]).set a (some x.1)).set b (some x.2.1)).set c (some e)) (A2.put pk (.lst acc)) _
    rw [eTup_eq]
    show eVar a _ _ _
    rw [eVar_eq ga]
    show eVar b _ _ _
    rw [eVar_eq gb]
    show eCB _ _ _ _ _
    rw [eCB_eq]
    show eVar c _ _ _
    rw [eVar_eq gc]
    show bList mkF [e] _ _
    refine bList_asL hasl ?_
    refine ⟨by show (3 : Nat) < _; decide, acc, AH.put_same .., by show acc.length < _; omega, ?_⟩
    rw [AH.put_put]
    refine comp_thw hpk hgd la lb lc hab hac hbc R S (acc ++ [rowD x]) h3 (by simp; omega) ?_
    rw [List.append_assoc]; exact hf
/-- the rows' lists cleared -/
theorem for_thw {t : Nat} {δ : DSt} {p : Addr} {A0 : AH} {S0 : List D} {DD : DEnds} (ht : t < δ.length) (hn : ∀ x A', A' p = some (.lst S0) → Sub A0 A' → DD.nx (δ.set t x) A') :
    ∀ (S : List D) (x0 : Option D) (A : AH), (∀ y ∈ S, ∃ d1 d2 e, y = .tup [d1, d2, e] ∧ (e = .lst [] ∨ ∃ q l, e = .ref q ∧ q ≠ p ∧ A0 q = none ∧ A q = some (.lst l))) → A p = some (.lst S0) → Sub A0 A →
      forD (fun A' => A' p = some (.lst S0)) (dgName t) (sDrop (eMt "list" mClr2 (eBin opIx (eVar t) (eC (.int 2))) aNil)) DD S (δ.set t x0) A
  | [], x0, A, _, hp, sb => ⟨hp, hn x0 A hp sb⟩
  | y :: S, x0, A, hS, hp, sb => by
    refine ⟨hp, ?_⟩
    obtain ⟨d1, d2, e, rfl, he⟩ := hS y List.mem_cons_self
    show sDrop _ _ ((δ.set t x0).set t (some (.tup [d1, d2, e]))) A
    rw [List.set_set, sDrop_eq, eMt_eq]
    have g : (δ.set t (some (.tup [d1, d2, e])))[t]? = some (some (.tup [d1, d2, e])) := List.getElem?_set_self ht
    refine ix_at g (d := e) rfl ?_
    rcases he with rfl | ⟨q, l, rfl, hq, h0, hA⟩
    · refine ⟨rfl, ?_⟩
      rw [aNil_eq]
      exact for_thw ht hn S _ A (fun z hz => hS z (List.mem_cons_of_mem _ hz)) hp sb
    · refine ⟨by rw [tyM_ref hA], ?_⟩
      rw [aNil_eq]
      show mClr2 (.ref q) [] A _
      unfold mClr2
      simp only [hA]
      refine for_thw ht hn S _ (A.put q (.lst [])) (fun z hz => ?_) (by rw [AH.put_ne _ _ (Ne.symm hq)]; exact hp) fun a o ha => ?_
      · obtain ⟨z1, z2, z3, rfl, hz3⟩ := hS z (List.mem_cons_of_mem _ hz)
        refine ⟨z1, z2, z3, rfl, hz3.imp id ?_⟩
        rintro ⟨q', l', e1, e2, e3, e4⟩
        by_cases hqq : q' = q
        · exact ⟨q', [], e1, e2, e3, by rw [hqq]; exact AH.put_same ..⟩
        · exact ⟨q', l', e1, e2, e3, by rw [AH.put_ne _ _ hqq]; exact e4⟩
      · have : a ≠ q := fun z => by rw [z, h0] at ha; cases ha
        rw [AH.put_ne _ _ this]; exact sb a o ha
theorem thw_rows {A1 A2 : AH} {p : Addr} : ∀ {R : List DL.Row} {S : List D}, Thw A1 A2 p R S → ∀ y ∈ S, ∃ d1 d2 e, y = .tup [d1, d2, e] ∧ (e = .lst [] ∨ ∃ q l, e = .ref q ∧ q ≠ p ∧ A1 q = none ∧ A2 q = some (.lst l))
  | [], [], _, _, h => (nomatch h)
  | [], _ :: _, h, _, _ => h.elim
  | _ :: _, [], h, _, _ => h.elim
  | x :: R, y :: S, ⟨⟨e, h1, h2⟩, h3⟩, z, hz => by
    rcases List.mem_cons.mp hz with rfl | hz
    · exact ⟨x.1, x.2.1, e, h1, h2.elim (fun h => .inl h.2) fun ⟨_, q, a, b, c, d⟩ => .inr ⟨q, _, a, b, c, d⟩⟩
    · exact thw_rows h3 z hz
section
variable {τ : Type} {A0 : AH} {X : String → List (String × D) → Prop} {D0 : DEnds} {V : τ → Prop} {ss : List Sl}
theorem ss_thN {i k t a b c : Nat} {v : List FndV} {rest : DS} {m : List FndV → R τ} {J : List Sl} (hA : KAk A0) (hi : ss[i]? = some (.val (enc v))) (bs : List Bool) (hj : mask bs ss = J) (hJi : J[i]? = some .emp) (hJk : J[k]? = some .emp) (hJt : J[t]? = some .emp) (hJv : allVal J = true)
    (hd1 : i ≠ k ∧ i ≠ t ∧ k ≠ t) (hd2 : a < J.length ∧ b < J.length ∧ c < J.length) (hd3 : a ≠ b ∧ a ≠ c ∧ b ≠ c) (hes : KDs KPk (slotsD J))
    (hr : ∀ r, SS A0 X D0 V (J.set k (.val (enc r))) rest (m r)) :
    SS A0 X D0 V ss (sThN KPk i (sSeq (sAsg (eLc finF (iSeq (eVar i)) (dgTup 3 (dgCons (dgName a) (dgCons (dgName b) (dgCons (dgName c) dgNil)))) bYes (eTup (aCons (eVar a) (aCons (eVar b) (aCons (eCB (bList mkF) (aCons (eVar c) aNil)) aNil)))) [a, b, c]) (dgName k))
      (sSeq (sFor (iSeq (eVar i)) (dgName t) (sDrop (eMt "list" mClr2 (eBin opIx (eVar t) (eC (.int 2))) aNil))) (sSeq (sDrop (eMt "list" mClr (eVar i) aNil)) rest)))) ((thNR v).bind m) := fun δ A e h => by
  rw [R.wp_bind] at h
  obtain ⟨hne, hlen0, hm⟩ := thNR_wp h
  obtain ⟨hik, hit, hkt⟩ := hd1
  have hd := e.get_val hi
  obtain ⟨s0, B, eR⟩ := hj ▸ e.mask bs
  have eF := (eR.forg.vals hJv (A' := A0))
  have hlen := eR.len
  have hil : i < δ.length := (List.getElem?_eq_some_iff.mp hd).1
  have hkl : k < δ.length := by rw [← hlen]; exact (List.getElem?_eq_some_iff.mp hJk).1
  have htl : t < δ.length := by rw [← hlen]; exact (List.getElem?_eq_some_iff.mp hJt).1
  have hin := eR.inSlots hJv
  have lenF : (forgD J δ).length = δ.length := by rw [← eR.forg.len, hlen]
  have neR : v.map rowOf ≠ [] := fun z => hne (List.map_eq_nil_iff.mp z)
  have mc : ∀ x ∈ v.map rowOf, ∃ y : FndV, y ∈ v ∧ x = rowOf y := fun x hx => by
    obtain ⟨y, hy, rfl⟩ := List.mem_map.mp hx
    exact ⟨y, hy, rfl⟩
  have cne : ∀ {y : FndV}, y.c.map (enc (α := PairV)) ≠ [] → y.c ≠ [] := fun h z => h (by rw [z]; rfl)
  refine ⟨v.map rowOf, forgD J δ, A0, by rw [row_enc]; exact hd, fgt_forg J δ, forg_emp hJi hil, s0, neR, fun x hx => ?_, fun l hl => ?_, fun x hx hc => ?_, fun x hx y hy K Z vs co r q => ?_, fun x hx d he => kds_mem hes (hin x hx d he), hA, fun p S A2 th hp0 hpA sb => ?_⟩
  · obtain ⟨y, _, rfl⟩ := mc x hx
    exact ⟨SimpE.sm y.a, SimpE.sm y.b, simps_enc y.c⟩
  · rw [row_enc]; exact hl.2 v hne
  · obtain ⟨y, _, rfl⟩ := mc x hx
    refine ⟨fun l hl => hl.1 y.c (cne hc), ?_⟩
    rw [row_enc]
    obtain ⟨t0, v', rfl⟩ := List.exists_cons_of_ne_nil hne
    have hc' := cne hc
    show Inc _ (y.c.map enc)
    obtain ⟨p0, c', ec⟩ := List.exists_cons_of_ne_nil hc'
    rw [ec]
    exact ince_inc (ince_tup (by show (3 : Nat) ≠ 2; decide))
  · obtain ⟨x', _, rfl⟩ := mc x hx
    obtain ⟨y', _, rfl⟩ := mc y hy
    show x'.c.map enc = y'.c.map enc
    rw [pairs_uniq co r q]
  · have h2i : ((forgD J δ).set i (some (.ref p)))[i]? = some (some (.ref p)) := List.getElem?_set_self (by omega)
    have hlJ : J.length = δ.length := hlen
    rw [sSeq_eq, sAsg_eq, eLc_eq, iSeq_eq, eVar_eq h2i]
    simp only [hpA]
    intro pk hpk
    have hpne : p ≠ pk := fun z => by rw [z, hpk] at hpA; cases hpA
    refine comp_thw (A1 := A0) (p := p) hpk (fun acc => by show (A2.put pk _) p = _; rw [AH.put_ne _ _ hpne]; exact hpA) (by rw [List.length_set]; omega) (by rw [List.length_set]; omega) (by rw [List.length_set]; omega) hd3.1 hd3.2.1 hd3.2.2 (v.map rowOf) S [] th (by rw [List.length_map]; simp; omega) ?_
    rw [List.nil_append, row_enc]
    show finF pk _ (A2.put pk (.lst (v.map enc)))
    unfold finF
    rw [AH.put_same]
    dsimp only
    rw [AH.del_put hpk]
    show sSeq _ _ D0 (((forgD J δ).set i (some (.ref p))).set k (some (.lst (v.map enc)))) A2
    generalize hδ3 : ((forgD J δ).set i (some (.ref p))).set k (some (.lst (v.map enc))) = δ3
    have h3i : δ3[i]? = some (some (.ref p)) := by rw [← hδ3, List.getElem?_set_ne (Ne.symm hik)]; exact h2i
    have h3t : δ3[t]? = some none := by rw [← hδ3, List.getElem?_set_ne hkt, List.getElem?_set_ne hit]; exact forg_emp hJt htl
    have h3l : δ3.length = δ.length := by rw [← hδ3, List.length_set, List.length_set, lenF]
    rw [sSeq_eq, sFor_eq, iSeq_eq, eVar_eq h3i]
    simp only [hpA]
    have e3 : δ3 = δ3.set t none := List.ext_getElem? fun j => by
      rw [List.getElem?_set]
      split
      · rename_i q; subst q; rw [h3t]; split
        · rfl
        · omega
      · rfl
    rw [e3]
    refine for_thw (A0 := A0) (by omega) (fun x A' hp' sb' => ?_) S none A2 (thw_rows th) hpA sb
    clear e3
    have h4i : (δ3.set t x)[i]? = some (some (.ref p)) := by rw [List.getElem?_set_ne (Ne.symm hit)]; exact h3i
    show sSeq (sDrop (eMt "list" mClr (eVar i) aNil)) rest D0 (δ3.set t x) A'
    rw [sSeq_eq, sDrop_eq, eMt_eq, eVar_eq h4i]
    refine ⟨by rw [tyM_ref hp'], ?_⟩
    rw [aNil_eq, mClr_eq]
    simp only [hp']
    have sb2 : Sub A0 (A'.put p (.lst [])) := fun a o ha => by
      have : a ≠ p := fun z => by rw [z, hp0] at ha; cases ha
      rw [AH.put_ne _ _ this]; exact sb' a o ha
    have e1 : Env A0 J (forgD J δ) (A'.put p (.lst [])) := ⟨sb2, [], eF.vals hJv⟩
    have e2 := ((e1.set_any i (some (.ref p))).set_val k (.lst (v.map enc))).set_any t x
    rw [hδ3] at e2
    have ej : ((J.set i .emp).set k (.val (.lst (v.map enc)))).set t .emp = J.set k (.val (enc v)) := by
      have g1 : J.set i .emp = J := List.ext_getElem? fun j => by
        rw [List.getElem?_set]
        split
        · rename_i hj; subst hj; rw [hJi]; split <;> simp_all
        · rfl
      rw [g1]
      exact List.ext_getElem? fun j => by
        rw [List.getElem?_set]
        split
        · rename_i hj; subst hj
          rw [List.getElem?_set_ne hkt, hJt]
          split
          · rfl
          · rename_i hh; rw [List.length_set] at hh; omega
        · rfl
    rw [ej] at e2
    exact hr v _ _ e2 hm
theorem envNone {A0 : AH} : ∀ n : Nat, Env A0 (List.replicate n .emp) (List.replicate n none) A0 := fun n => by
  refine ⟨Sub.refl A0, [], ?_⟩
  induction n with
  | zero => exact .nil
  | succ n ih => exact .emp ih
theorem ss_forP {α β : Type} [Enc α] [Enc β] [KEnc α] [KEnc β] {w : DW} {i1 i2 j : Nat} {te : DE} {mi : R (List Str)} {sp : DSp} {u1 : α} {u2 : β} {F : α → β → Str → R Bool} {m : R τ} {rest : DS} (hw : WE A0 w X ss) (hA : CleanA A0)
    (hp : ∀ (A : AH) (u1 : α) (u2 : β) (x : Str), KAk A → F u1 u2 x = .ok true → sp [enc u1, enc u2, enc x] A (fun r A' => r = .bl true ∧ A' = A) (fun _ _ _ => False))
    (hi : SE w A0 ss te mi) (h1 : ss[i1]? = some (.val (enc u1))) (h2 : ss[i2]? = some (.val (enc u2))) (hj1 : i1 ≠ j) (hj2 : i2 ≠ j) (hj : j < ss.length) (hr : SS A0 X D0 V (List.replicate ss.length .emp) rest m) :
    SS A0 X D0 V ss (sForP KPk te sp i1 i2 j rest) (mi.bind fun l => (guardR (∀ x ∈ l, F u1 u2 x = .ok true)).bind fun _ => m) := fun δ A e h => by
  have g1 := e.get_val h1
  have g2 := e.get_val h2
  obtain ⟨sb, B, eR⟩ := e
  have hl := eR.len
  refine hi.run (Q := fun d A1 => ∃ (l : List D) (d1 d2 : D) (A2 : AH), d = .lst l ∧ KPk l ∧ δ[i1]? = some (some d1) ∧ δ[i2]? = some (some d2) ∧ j < δ.length ∧ i1 ≠ j ∧ i2 ≠ j ∧ KD KPk d1 ∧ KD KPk d2 ∧ (∀ a o, A2 a = some o → A1 a = some o) ∧ (∀ a o, A2 a = some o → KO KPk o) ∧
    (∀ d ∈ l, KD KPk d ∧ sp [d1, d2, d] A2 (fun r A' => r = .bl true ∧ A' = A2) (fun _ _ _ => False)) ∧ rest D0 (List.replicate δ.length none) A2) ⟨sb, B, eR⟩ h (fun c fs => hw c fs δ A ⟨sb, B, eR⟩) fun l hl' => ?_
  rw [R.wp_bind] at hl'
  obtain ⟨hg, hm⟩ := guardR_wp hl'
  refine ⟨l.map enc, _, _, A0, rfl, kpk_map l, g1, g2, by omega, hj1, hj2, KEnc.kd u1, KEnc.kd u2, sb, kak_clean hA, fun d hd => ?_, ?_⟩
  · obtain ⟨x, hx, rfl⟩ := List.mem_map.mp hd
    exact ⟨trivial, hp A0 u1 u2 x (kak_clean hA) (hg x hx)⟩
  · rw [← hl]
    exact hr _ _ (envNone ss.length) hm
end
theorem fn_okQ {K : PySem.W.Frag} {P : Program} {w : World} {mg : Str → Option Value} {base : Heap} {x qual : Str} {params : Arguments} {body : List Stmt} {scope : Scope} {dvs : List V} {kws : List (Str × V)} {f : Addr} {fd : FuncData} {N ps : List Str} {k : Nat} {sp : DSp} {t : DW → DS} {PL : List D → Prop}
    (F : FunD K x qual params body scope dvs kws f fd) (S : FnScope N ps scope) (len : ∀ ds A Q E, sp ds A Q E → ds.length = ps.length)
    (hder : ∀ (cdv : Value) (A : Around) (outer : List PySem.Env) (s : Shared) (H : Hp) (E : XK) (Z0 : Hp) (wd : DW), CleanP K PL Z0 → Room k (A.deeper (envOfC qual scope s.heap.objs.size f cdv)) → Takes (cxOf (CX P w) P w K mg base N qual scope f cdv A outer s H E) (liftW K Z0 wd) → QP (cxOf (CX P w) P w K mg base N qual scope f cdv A outer s H E) Z0 body (t wd))
    (hrd : ∀ ds A Q E, sp ds A Q E → t (fun c fs _ A => dropE E c fs A) { nx := fun _ A => dropQ Q .non A, rt := dropQ Q } (startD N.length ds) A) : FnOk P w K mg base (CX P w) (k + 1) f fd ps (liftSpP K PL sp) := by
  refine F.ok S (fun vs H Q E ⟨Z, ds, A, Kt, Ex, c, r, ra, h, _, _⟩ => by rw [r.len]; exact len ds A Kt Ex h) fun cdv A0 outer s H vs Q E hr ⟨Z, ds, A, Kt, Ex, c, r, ra, h, hq, he⟩ => ?_
  have tk : Takes (cxOf (CX P w) P w K mg base N qual scope f cdv A0 outer s H E) (liftW K Z fun c fs _ A => dropE Ex c fs A) :=
    Takes.imp (takes_of rfl rfl rfl rfl) fun cv dd σ H' ⟨Z', δ, A', c, fs, z, rs, ra', rx, A2, sb, q⟩ => he Z' c fs A2 cv dd H' z (ra'.same sb) rx q
  refine ⟨_, hder cdv A0 outer s H E Z (fun c fs _ A => dropE Ex c fs A) c hr tk, Z, startD N.length ds, A, _, Same.refl Z, ?_, ra, hrd ds A Kt Ex h, ?_⟩
  · unfold startD L2.start
    rw [r.len]
    exact start_rs _ r
  · exact ⟨fun Z' δ A' σ H' s rs ra' ⟨A2, sb, q⟩ => hq Z' .non A2 .non H' s (ra'.same sb) mk_non q, fun Z' d A' v H' s ra' rv ⟨A2, sb, q⟩ => hq Z' d A2 v H' s (ra'.same sb) rv q, fun _ _ _ _ _ _ _ _ q => q.elim, fun _ _ _ _ _ _ _ _ q => q.elim⟩
theorem dfnP {P : Program} {w : World} {K : PySem.W.Frag} {mg : Str → Option Value} {base : Heap} {k : Nat} {x : Str} {PL : List D → Prop} {sp : DSp} {f : Addr} {fd : FuncData} {ps : List Str} (F : FnOk P w K mg base (CX P w) k f fd ps (liftSpP K PL sp)) (hm : mg x = some (.ref f)) (kp : PySem.W.keepIn K (.ref f) = true) (b : Binds K fd ps []) : DFnP P w K mg base k x PL sp := ⟨f, fd, ps, F, hm, kp, b⟩
end TF


namespace TF
open PySem PySem.Spec PyProof.Rows L2 DL FR
open TF.Enc
noncomputable def F_Thing_parts (v_self : ThingV) : R (List PartV) :=
  (((((R.ok v_self)).map ThingV.parts)).bind fun l => .ok l)
noncomputable def F_Thing_gaps (v_self : ThingV) : R (List GapV) :=
  (((((R.ok v_self)).map ThingV.gaps)).bind fun l => .ok l)
noncomputable def F_Thing_way (v_self : ThingV) (v_name : Str) : R (List (Str × Bool)) :=
  R.cond (R.b2 (R.ok v_name) (((R.ok v_self)).map ThingV.ways) fun k d => .ok (!(d.get? k).isSome))
  (.exc "NoName" [])
  ((((R.b2 (((R.ok v_self)).map ThingV.ways) (R.ok v_name) getR)).bind fun l => .ok l))
noncomputable def F_Thing_middle (v_self : ThingV) (v_name : Str) : R Rat :=
  ((((((R.ok (0 : Int))).bind fun t_1 => ((R.ok (1 : Int))).bind fun t_2 => R.ok (t_1, t_2))).bind toRat)).bind fun (total_3 : Rat) =>
  ((((R.ok v_self)).bind fun c_4 => ((R.ok v_name)).bind fun c_5 => F_Thing_way c_4 c_5)).bind fun l_35 => (foldR l_35 (total_3 : Rat) (fun (x_6 : (Str × Bool)) (st_7 : Rat) =>
  R.cond (R.ok x_6.2)
  (((((R.ok st_7)).bind fun c_29 => ((R.b2 (((R.ok v_self)).map ThingV.sizes) (R.ok x_6.1) getR)).bind fun c_30 => F_plus c_29 c_30)).bind fun (total_31 : Rat) =>
  .ok total_31)
  (((((R.ok st_7)).bind fun c_32 => ((R.b2 (((R.ok v_self)).map ThingV.sizes) (R.ok x_6.1) getR)).bind fun c_33 => F_minus c_32 c_33)).bind fun (total_34 : Rat) =>
  .ok total_34))).bind fun (st_7 : Rat) =>
  (R.ok st_7)
noncomputable def F_Thing_room (v_self : ThingV) (v_name : Str) : R Rat :=
  ((R.ok v_self).bind fun a => (R.ok v_name).bind fun b => F_Thing_middle a b).bind fun (middle : Rat) =>
  (R.ok v_self.gaps).bind fun l => (foldR l (none : Option (Rat × Rat)) (fun (x : GapV) (st : Option (Rat × Rat)) =>
  R.cond (R.b2 ((R.ok x).map (fun t : GapV => t.name)) (R.ok v_name) (eqR false))
  (((R.ok middle).bind fun a => ((R.ok x).map (fun t : GapV => t.low)).bind fun b => F_minus a b).bind fun below => (((R.ok x).map (fun t : GapV => t.high)).bind fun a => (R.ok middle).bind fun b => F_minus a b).bind fun above => .ok (some (below, above)))
  (.ok st))).bind fun (st : Option (Rat × Rat)) => optR st fun p => R.cond ((R.ok p.2).bind fun a => (R.ok p.1).bind fun b => F_under a b) (.ok p.2) (.ok p.1)
noncomputable def F_gap_rows (v_thing : ThingV) : R (List (T3 Str Rat (List Str))) :=
  (((R.ok ([] : List (T3 Str Rat (List Str)))).bind few)).bind fun (rows_1 : (List (T3 Str Rat (List Str)))) =>
  ((((R.ok v_thing)).bind fun c_2 => F_Thing_gaps c_2)).bind fun l_30 => (foldR l_30 (rows_1 : (List (T3 Str Rat (List Str)))) (fun (x_3 : GapV) (st_4 : (List (T3 Str Rat (List Str)))) =>
  ((((((R.ok x_3)).map (fun t : GapV => t.name))).bind fun t_26 => ((((R.ok v_thing)).bind fun c_20 => ((((R.ok x_3)).map (fun t : GapV => t.name))).bind fun c_21 => F_Thing_room c_20 c_21)).bind fun t_27 => ((((((R.ok v_thing)).bind fun c_22 => ((((R.ok x_3)).map (fun t : GapV => t.name))).bind fun c_23 => F_Thing_way c_22 c_23)).bind fun l_25 => (compR (fun (x_24 : (Str × Bool)) => (R.ok true)) (fun (x_24 : (Str × Bool)) => (R.ok x_24.1)) l_25 []).noexc)).bind fun t_28 => R.ok (T3.mk t_26 t_27 t_28))).bind fun a_29 => (few st_4).bind fun _ => (R.ok (st_4 ++ [a_29])).bind fun (rows_19 : (List (T3 Str Rat (List Str)))) =>
  .ok rows_19)).bind fun (st_4 : (List (T3 Str Rat (List Str)))) =>
  (R.ok st_4)
noncomputable def F_sum_of (v_slacks : (Dic Str Rat)) (v_names : (List Str)) : R Rat :=
  ((((((R.ok (0 : Int))).bind fun t_1 => ((R.ok (1 : Int))).bind fun t_2 => R.ok (t_1, t_2))).bind toRat)).bind fun (total_3 : Rat) =>
  ((R.ok v_names)).bind fun l_19 => (foldR l_19 (total_3 : Rat) (fun (x_4 : Str) (st_5 : Rat) =>
  ((((R.ok st_5)).bind fun c_16 => ((((R.ok v_slacks)).bind fun d => ((R.ok x_4)).bind fun k => ((((((R.ok (0 : Int))).bind fun t_14 => ((R.ok (1 : Int))).bind fun t_15 => R.ok (t_14, t_15))).bind toRat)).bind fun x => .ok ((d.get? k).getD x))).bind fun c_17 => F_plus c_16 c_17)).bind fun (total_18 : Rat) =>
  .ok total_18)).bind fun (st_5 : Rat) =>
  (R.ok st_5)
noncomputable def F_least_of (v_numbers : (List Rat)) : R Rat :=
  ((R.b2 (R.ok v_numbers) (R.ok (0 : Int)) ixL)).bind fun (least_1 : Rat) =>
  ((((R.ok v_numbers)).bind fun l_2 => ((((R.ok (1 : Int))).map some)).bind fun lo_3 => ((R.ok none)).bind fun hi_4 => .ok (cut l_2 lo_3 hi_4))).bind fun l_18 => (foldR l_18 (least_1 : Rat) (fun (x_5 : Rat) (st_6 : Rat) =>
  R.cond (((R.ok x_5)).bind fun c_14 => ((R.ok st_6)).bind fun c_15 => F_under c_14 c_15)
  (((R.ok x_5)).bind fun (least_17 : Rat) =>
  .ok least_17)
  (.ok st_6))).bind fun (st_6 : Rat) =>
  (R.ok st_6)
noncomputable def F_gap_level (v_row : (T3 Str Rat (List Str))) (v_slacks : (Dic Str Rat)) (v_weights : (Dic Str Int)) : R (Option Rat) :=
  ((((((((R.ok v_row)).map (fun t : (T3 Str Rat (List Str)) => t.c))).bind fun l_2 => (compR (fun (x_1 : Str) => (R.b2 (R.ok x_1) (R.ok v_slacks) fun k d => .ok (!(d.get? k).isSome))) (fun (x_1 : Str) => (R.b2 (R.ok v_weights) (R.ok x_1) getR)) l_2 []).noexc)).bind sumR)).bind fun (many_3 : Int) =>
  R.cond (R.b2 (R.ok many_3) (R.ok (0 : Int)) fun i j => .ok (decide (i = j)))
  ((R.ok (none : Option Rat)))
  ((((((((((R.ok v_row)).map (fun t : (T3 Str Rat (List Str)) => t.b))).bind fun c_6 => ((((R.ok v_slacks)).bind fun c_4 => ((((R.ok v_row)).map (fun t : (T3 Str Rat (List Str)) => t.c))).bind fun c_5 => F_sum_of c_4 c_5)).bind fun c_7 => F_minus c_6 c_7)).bind fun c_10 => ((((((R.ok many_3)).bind fun t_8 => ((R.ok (1 : Int))).bind fun t_9 => R.ok (t_8, t_9))).bind toRat)).bind fun c_11 => F_over c_10 c_11)).map some))
noncomputable def F_part_level (v_part : PartV) : R Rat :=
  (((((R.ok v_part)).map (fun t : PartV => t.most))).bind fun c_3 => ((((((((R.ok v_part)).map (fun t : PartV => t.weight))).bind fun t_1 => ((R.ok (1 : Int))).bind fun t_2 => R.ok (t_1, t_2))).bind toRat)).bind fun c_4 => F_over c_3 c_4)
noncomputable def F_stop_some (v_parts : (List PartV)) (v_rows : (List (T3 Str Rat (List Str)))) (v_slacks : (Dic Str Rat)) (v_weights : (Dic Str Int)) : R ((Dic Str Rat)) :=
  ((((R.ok v_parts)).bind fun l_2 => (compR (fun (x_1 : PartV) => (R.b2 (((R.ok x_1)).map (fun t : PartV => t.name)) (R.ok v_slacks) fun k d => .ok (!(d.get? k).isSome))) (fun (x_1 : PartV) => (R.ok x_1)) l_2 []).noexc)).bind fun (rising_3 : (List PartV)) =>
  ((((R.ok v_rows)).bind fun l_10 => (compR (fun (x_4 : (T3 Str Rat (List Str))) => (R.ok true)) (fun (x_4 : (T3 Str Rat (List Str))) => (((((R.ok x_4)).bind fun c_5 => ((R.ok v_slacks)).bind fun c_6 => ((R.ok v_weights)).bind fun c_7 => F_gap_level c_5 c_6 c_7)).bind fun t_8 => ((((R.ok x_4)).map (fun t : (T3 Str Rat (List Str)) => t.c))).bind fun t_9 => R.ok (t_8, t_9))) l_10 []).noexc)).bind fun (levels_11 : (List ((Option Rat) × (List Str)))) =>
  ((((R.ok levels_11)).bind fun l_13 => (compR (fun (x_12 : ((Option Rat) × (List Str))) => (((((R.ok x_12)).map (fun t : ((Option Rat) × (List Str)) => t.1))).map fun o => !o.isNone)) (fun (x_12 : ((Option Rat) × (List Str))) => (R.ok x_12)) l_13 []).noexc)).bind fun (levels_14 : (List ((Option Rat) × (List Str)))) =>
  ((((R.b2 (((R.ok rising_3)).bind fun l_17 => (compR (fun (x_15 : PartV) => (R.ok true)) (fun (x_15 : PartV) => (((R.ok x_15)).bind fun c_16 => F_part_level c_16)) l_17 []).noexc) (((R.ok levels_14)).bind fun l_23 => (compR (fun (x_22 : ((Option Rat) × (List Str))) => (R.ok true)) (fun (x_22 : ((Option Rat) × (List Str))) => (((R.ok x_22.1)).bind unw)) l_23 []).noexc) fun a b => few (a ++ b))).bind fun c_24 => F_least_of c_24)).bind fun (level_25 : Rat) =>
  (((R.ok ([] : List PartV)).bind few)).bind fun (stopping_26 : (List PartV)) =>
  ((R.ok rising_3)).bind fun l_46 => (foldR l_46 (stopping_26 : (List PartV)) (fun (x_27 : PartV) (st_28 : (List PartV)) =>
  R.cond (orB (R.b2 (((R.ok x_27)).bind fun c_41 => F_part_level c_41) (R.ok level_25) fun i j => .ok (decide (i = j))) (((((R.ok levels_14)).bind fun l_40 => (compR (fun (x_39 : ((Option Rat) × (List Str))) => (R.ok true)) (fun (x_39 : ((Option Rat) × (List Str))) => (andB (R.b2 (R.ok x_39.1) (((R.ok level_25)).map some) (eqR false)) (R.b2 (((R.ok x_27)).map (fun t : PartV => t.name)) (R.ok x_39.2) (inR false)))) l_40 []).noexc)).bind anyR))
  (((R.ok x_27)).bind fun a_45 => (few st_28).bind fun _ => (R.ok (st_28 ++ [a_45])).bind fun (stopping_44 : (List PartV)) =>
  .ok stopping_44)
  (.ok st_28))).bind fun (st_28 : (List PartV)) =>
  ((R.ok st_28)).bind fun l_66 => (foldR l_66 (v_slacks : (Dic Str Rat)) (fun (x_47 : PartV) (st_48 : (Dic Str Rat)) =>
  ((((((((((R.ok x_47)).map (fun t : PartV => t.weight))).bind fun t_60 => ((R.ok (1 : Int))).bind fun t_61 => R.ok (t_60, t_61))).bind toRat)).bind fun c_62 => ((R.ok level_25)).bind fun c_63 => F_times c_62 c_63)).bind fun a_64 => ((((R.ok x_47)).map (fun t : PartV => t.name))).bind fun k_65 => (fewD st_48).bind fun _ => (R.ok (st_48.put k_65 a_64)).bind fun (slacks_59 : (Dic Str Rat)) =>
  .ok slacks_59)).bind fun (st_48 : (Dic Str Rat)) =>
  .ok st_48
noncomputable def F_slacks_of (v_thing : ThingV) : R (Dic Str Rat) :=
  ((((R.ok v_thing)).bind fun c_1 => F_gap_rows c_1)).bind fun (rows_2 : (List (T3 Str Rat (List Str)))) =>
  ((R.ok rows_2)).bind fun l_20 => (foldR l_20 (() : Unit) (fun (x_3 : (T3 Str Rat (List Str))) (st_4 : Unit) =>
  R.cond (((R.ok x_3.b)).bind fun c_16 => ((((((R.ok (0 : Int))).bind fun t_14 => ((R.ok (1 : Int))).bind fun t_15 => R.ok (t_14, t_15))).bind toRat)).bind fun c_17 => F_under c_16 c_17)
  (((R.ok x_3.a)).bind fun v_19 => .exc "Tight" [("tight_gap", enc v_19)])
  (.ok ()))).bind fun (st_4 : Unit) =>
  ((((R.ok v_thing)).bind fun c_21 => F_Thing_parts c_21)).bind fun (parts_22 : (List PartV)) =>
  ((R.ok (⟨[]⟩ : (Dic Str Int)))).bind fun (weights_23 : (Dic Str Int)) =>
  ((R.ok parts_22)).bind fun l_35 => (foldR l_35 (weights_23 : (Dic Str Int)) (fun (x_24 : PartV) (st_25 : (Dic Str Int)) =>
  ((((R.ok x_24)).map (fun t : PartV => t.weight))).bind fun a_33 => ((((R.ok x_24)).map (fun t : PartV => t.name))).bind fun k_34 => (fewD st_25).bind fun _ => (R.ok (st_25.put k_34 a_33)).bind fun (weights_32 : (Dic Str Int)) =>
  .ok weights_32)).bind fun (st_25 : (Dic Str Int)) =>
  ((R.ok (⟨[]⟩ : (Dic Str Rat)))).bind fun (slacks_36 : (Dic Str Rat)) =>
  R.flow (whileR (fun (st_37 : (Dic Str Rat)) => (R.b2 (((R.ok st_37)).bind fun l => .ok (l.l.length : Int)) (((R.ok parts_22)).bind fun l => .ok (l.length : Int)) fun i j => .ok (decide (i < j)))) (fun (st_37 : (Dic Str Rat)) =>
  (((R.ok parts_22)).bind fun c_45 => ((R.ok rows_2)).bind fun c_46 => ((R.ok st_25)).bind fun c_47 => ((F_stop_some c_45 c_46 st_37 c_47).noexc).bind fun (slacks_48 : (Dic Str Rat)) =>
  .ok (.nx slacks_48) : R (Fl ((Dic Str Rat)) (Dic Str Rat)))) (slacks_36 : (Dic Str Rat))) (fun (st_37 : (Dic Str Rat)) =>
  (R.ok st_37)) (fun r_49 => .ok r_49)
noncomputable def F_none_has_more (v_part : PartV) (v_names : (List Str)) (v_slacks : (Dic Str Rat)) (v_weights : (Dic Str Int)) : R Bool :=
  ((((R.b2 (R.ok v_slacks) (((R.ok v_part)).map (fun t : PartV => t.name)) getR)).bind fun c_3 => ((((((((R.ok v_part)).map (fun t : PartV => t.weight))).bind fun t_1 => ((R.ok (1 : Int))).bind fun t_2 => R.ok (t_1, t_2))).bind toRat)).bind fun c_4 => F_over c_3 c_4)).bind fun (mine_5 : Rat) =>
  ((R.ok v_names)).bind fun l_27 => R.flow (forR l_27 (() : Unit) (fun (x_6 : Str) (st_7 : Unit) =>
  R.cond (((R.ok mine_5)).bind fun c_23 => ((((R.b2 (R.ok v_slacks) (R.ok x_6) getR)).bind fun c_21 => ((((((R.b2 (R.ok v_weights) (R.ok x_6) getR)).bind fun t_19 => ((R.ok (1 : Int))).bind fun t_20 => R.ok (t_19, t_20))).bind toRat)).bind fun c_22 => F_over c_21 c_22)).bind fun c_24 => F_under c_23 c_24)
  (((R.ok false)).bind fun r_26 => .ok (.rt r_26))
  (.ok (.nx ()))) : R (Fl (Unit) Bool)) (fun (st_7 : Unit) =>
  (R.ok true)) (fun r_28 => .ok r_28)
noncomputable def F_stop_of (v_part : PartV) (v_rows : (List (T3 Str Rat (List Str)))) (v_slacks : (Dic Str Rat)) (v_weights : (Dic Str Int)) : R (Option StopV) :=
  R.cond (R.b2 (R.b2 (R.ok v_slacks) (((R.ok v_part)).map (fun t : PartV => t.name)) getR) (((R.ok v_part)).map (fun t : PartV => t.most)) fun i j => .ok (decide (i = j)))
  ((((((((R.ok ("most" : Str))).map T1.mk)).map (fun t : T1 Str => (⟨[t.a]⟩ : StopV)))).map some))
  (((R.ok v_rows)).bind fun l_32 => R.flow (forR l_32 (() : Unit) (fun (x_3 : (T3 Str Rat (List Str))) (st_4 : Unit) =>
  R.cond (andB (R.b2 (((R.ok v_part)).map (fun t : PartV => t.name)) (R.ok x_3.c) (inR false)) (andB (R.b2 (((R.ok v_slacks)).bind fun c_24 => ((R.ok x_3.c)).bind fun c_25 => F_sum_of c_24 c_25) (R.ok x_3.b) fun i j => .ok (decide (i = j))) (((R.ok v_part)).bind fun c_20 => ((R.ok x_3.c)).bind fun c_21 => ((R.ok v_slacks)).bind fun c_22 => ((R.ok v_weights)).bind fun c_23 => F_none_has_more c_20 c_21 c_22 c_23)))
  (((((((((R.ok ("gap" : Str))).bind fun t_29 => ((R.ok x_3.a)).bind fun t_30 => R.ok (t_29, t_30))).map (fun t : Str × Str => (⟨[t.1, t.2]⟩ : StopV)))).map some)).bind fun r_31 => .ok (.rt r_31))
  (.ok (.nx ()))) : R (Fl (Unit) (Option StopV))) (fun (st_4 : Unit) =>
  (R.ok (none : Option StopV))) (fun r_33 => .ok r_33))
noncomputable def F_share (v_thing : ThingV) : R (List (T3 Str Rat (Option StopV))) :=
  ((((R.ok v_thing)).bind fun c_1 => F_slacks_of c_1)).bind fun (slacks_2 : (Dic Str Rat)) =>
  ((((R.ok v_thing)).bind fun c_3 => F_gap_rows c_3)).bind fun (rows_4 : (List (T3 Str Rat (List Str)))) =>
  ((R.ok (⟨[]⟩ : (Dic Str Int)))).bind fun (weights_5 : (Dic Str Int)) =>
  ((((R.ok v_thing)).bind fun c_6 => F_Thing_parts c_6)).bind fun l_18 => (foldR l_18 (weights_5 : (Dic Str Int)) (fun (x_7 : PartV) (st_8 : (Dic Str Int)) =>
  ((((R.ok x_7)).map (fun t : PartV => t.weight))).bind fun a_16 => ((((R.ok x_7)).map (fun t : PartV => t.name))).bind fun k_17 => (fewD st_8).bind fun _ => (R.ok (st_8.put k_17 a_16)).bind fun (weights_15 : (Dic Str Int)) =>
  .ok weights_15)).bind fun (st_8 : (Dic Str Int)) =>
  (((((R.ok v_thing)).bind fun c_19 => F_Thing_parts c_19)).bind fun l_28 => (compR (fun (x_20 : PartV) => (R.ok true)) (fun (x_20 : PartV) => (((((R.ok x_20)).map (fun t : PartV => t.name))).bind fun t_25 => ((R.b2 (R.ok slacks_2) (((R.ok x_20)).map (fun t : PartV => t.name)) getR)).bind fun t_26 => ((((R.ok x_20)).bind fun c_21 => ((R.ok rows_4)).bind fun c_22 => ((R.ok slacks_2)).bind fun c_23 => ((R.ok st_8)).bind fun c_24 => F_stop_of c_21 c_22 c_23 c_24)).bind fun t_27 => R.ok (T3.mk t_25 t_26 t_27))) l_28 []).noexc)
noncomputable def F_faces_of (v_ties : (List TieV)) : R (List Str) :=
  (((R.b2 (((R.ok v_ties)).bind fun l_2 => (compR (fun (x_1 : TieV) => (R.ok true)) (fun (x_1 : TieV) => (((R.ok x_1)).map (fun t : TieV => t.start))) l_2 []).noexc) (((R.ok v_ties)).bind fun l_4 => (compR (fun (x_3 : TieV) => (R.ok true)) (fun (x_3 : TieV) => (((R.ok x_3)).map (fun t : TieV => t.fin))) l_4 []).noexc) fun a b => few (a ++ b))).bind sortSetR)
noncomputable def F_all_steps (v_ties : (List TieV)) : R (List (T4 Str Str Rat (Str × Bool))) :=
  (((R.ok ([] : List (T4 Str Str Rat (Str × Bool)))).bind few)).bind fun (steps_1 : (List (T4 Str Str Rat (Str × Bool)))) =>
  ((R.ok v_ties)).bind fun l_55 => (foldR l_55 (steps_1 : (List (T4 Str Str Rat (Str × Bool)))) (fun (x_2 : TieV) (st_3 : (List (T4 Str Str Rat (Str × Bool)))) =>
  ((((((((R.ok x_2)).map enc)).bind fun c_31 => F_tie_of c_31)).bind fun c_32 => F_Tie_steps c_32)).bind fun l_54 => (foldR l_54 (st_3 : (List (T4 Str Str Rat (Str × Bool)))) (fun (x_33 : (T4 Str Str Rat Bool)) (st_34 : (List (T4 Str Str Rat (Str × Bool)))) =>
  ((((R.ok x_33.a)).bind fun t_49 => ((R.ok x_33.b)).bind fun t_50 => ((R.ok x_33.c)).bind fun t_51 => ((((((R.ok x_2)).map (fun t : TieV => t.name))).bind fun t_47 => ((R.ok x_33.d)).bind fun t_48 => R.ok (t_47, t_48))).bind fun t_52 => R.ok (T4.mk t_49 t_50 t_51 t_52))).bind fun a_53 => (few st_34).bind fun _ => (R.ok (st_34 ++ [a_53])).bind fun (steps_46 : (List (T4 Str Str Rat (Str × Bool)))) =>
  .ok steps_46)).bind fun (st_34 : (List (T4 Str Str Rat (Str × Bool)))) =>
  .ok st_34)).bind fun (st_3 : (List (T4 Str Str Rat (Str × Bool)))) =>
  (R.ok st_3)
noncomputable def F_one_round (v_steps : (List (T4 Str Str Rat (Str × Bool)))) (v_sums : (Dic Str Rat)) (v_ways : (Dic Str (Str × (Str × Bool)))) : R (((Option Str) × (Dic Str Rat) × (Dic Str (Str × (Str × Bool))))) :=
  ((R.ok ())).bind fun (last_1 : Unit) =>
  ((R.ok v_steps)).bind fun l_145 => (foldR l_145 ((v_sums, v_ways, (none : Option Str)) : (Dic Str Rat) × (Dic Str (Str × (Str × Bool))) × (Option Str)) (fun (x_2 : (T4 Str Str Rat (Str × Bool))) (st_3 : (Dic Str Rat) × (Dic Str (Str × (Str × Bool))) × (Option Str)) =>
  R.cond (R.b2 (R.ok x_2.a) (R.ok st_3.1) fun k d => .ok ((d.get? k).isSome))
  (((((R.b2 (R.ok st_3.1) (R.ok x_2.a) getR)).bind fun c_122 => ((R.ok x_2.c)).bind fun c_123 => F_plus c_122 c_123)).bind fun (total_124 : Rat) =>
  R.cond (orB (R.b2 (R.ok x_2.b) (R.ok st_3.1) fun k d => .ok (!(d.get? k).isSome)) (((R.ok total_124)).bind fun c_125 => ((R.b2 (R.ok st_3.1) (R.ok x_2.b) getR)).bind fun c_126 => F_under c_125 c_126))
  (((R.ok total_124)).bind fun a_137 => ((R.ok x_2.b)).bind fun k_138 => (fewD st_3.1).bind fun _ => (R.ok (st_3.1.put k_138 a_137)).bind fun (sums_136 : (Dic Str Rat)) =>
  ((((R.ok x_2.a)).bind fun t_140 => ((R.ok x_2.d)).bind fun t_141 => R.ok (t_140, t_141))).bind fun a_142 => ((R.ok x_2.b)).bind fun k_143 => (fewD st_3.2.1).bind fun _ => (R.ok (st_3.2.1.put k_143 a_142)).bind fun (ways_139 : (Dic Str (Str × (Str × Bool)))) =>
  ((R.ok x_2.b)).bind fun (last_144 : Str) =>
  .ok (sums_136, ways_139, (some last_144)))
  (.ok (st_3.1, st_3.2.1, st_3.2.2)))
  (.ok (st_3.1, st_3.2.1, st_3.2.2)))).bind fun (st_3 : (Dic Str Rat) × (Dic Str (Str × (Str × Bool))) × (Option Str)) =>
  ((R.ok st_3.2.2)).bind fun r_146 => .ok (r_146, (st_3.1, st_3.2.1))
noncomputable def F_way_back (v_ways : (Dic Str (Str × (Str × Bool)))) (v_face : Str) (v_stop : Str) : R (List (Str × Bool)) :=
  (((R.ok ([] : List (Str × Bool))).bind few)).bind fun (chain_1 : (List (Str × Bool))) =>
  R.flow (whileR (fun (st_2 : Str × (List (Str × Bool))) => (R.b2 (R.ok st_2.1) (R.ok v_stop) (eqR true))) (fun (st_2 : Str × (List (Str × Bool))) =>
  (((R.b2 (R.ok v_ways) (R.ok st_2.1) getR)).bind fun (p_9 : (Str × (Str × Bool))) =>
  ((R.ok p_9.2)).bind fun a_11 => (few st_2.2).bind fun _ => (R.ok (st_2.2 ++ [a_11])).bind fun (chain_10 : (List (Str × Bool))) =>
  .ok (.nx (p_9.1, chain_10)) : R (Fl (Str × (List (Str × Bool))) (List (Str × Bool))))) ((v_face, chain_1) : Str × (List (Str × Bool)))) (fun (st_2 : Str × (List (Str × Bool))) =>
  .ok (st_2.2.reverse)) (fun r_13 => .bad)
noncomputable def F_reached (v_ties : (List TieV)) (v_face : Str) : R (List (T3 Str Rat (List (Str × Bool)))) :=
  ((((R.ok v_ties)).bind fun c_1 => F_all_steps c_1)).bind fun (steps_2 : (List (T4 Str Str Rat (Str × Bool)))) =>
  ((R.b2 (R.ok v_face) (((((R.ok (0 : Int))).bind fun t_3 => ((R.ok (1 : Int))).bind fun t_4 => R.ok (t_3, t_4))).bind toRat) fun k a => .ok (⟨[(k, a)]⟩ : (Dic Str Rat)))).bind fun (sums_5 : (Dic Str Rat)) =>
  ((R.ok (⟨[]⟩ : (Dic Str (Str × (Str × Bool)))))).bind fun (ways_6 : (Dic Str (Str × (Str × Bool)))) =>
  ((R.ok v_face)).bind fun (last_7 : Str) =>
  R.flow (whileR (fun (st_8 : (Dic Str Rat) × (Dic Str (Str × (Str × Bool))) × (Option Str)) => (((R.ok st_8.2.2)).map fun o => !o.isNone)) (fun (st_8 : (Dic Str Rat) × (Dic Str (Str × (Str × Bool))) × (Option Str)) =>
  (((R.ok steps_2)).bind fun c_22 => ((F_one_round c_22 st_8.1 st_8.2.1).noexc).bind fun (pr_26 : (Option Str) × (Dic Str Rat) × (Dic Str (Str × (Str × Bool)))) =>
  .ok (.nx (pr_26.2.1, pr_26.2.2, pr_26.1)) : R (Fl ((Dic Str Rat) × (Dic Str (Str × (Str × Bool))) × (Option Str)) (List (T3 Str Rat (List (Str × Bool))))))) ((sums_5, ways_6, (some last_7)) : (Dic Str Rat) × (Dic Str (Str × (Str × Bool))) × (Option Str))) (fun (st_8 : (Dic Str Rat) × (Dic Str (Str × (Str × Bool))) × (Option Str)) =>
  (((((R.ok st_8.1)).bind sortedDR)).bind fun l_34 => (compR (fun (x_27 : Str) => (R.ok true)) (fun (x_27 : Str) => (((R.ok x_27)).bind fun t_31 => ((R.b2 (R.ok st_8.1) (R.ok x_27) getR)).bind fun t_32 => ((((R.ok st_8.2.1)).bind fun c_28 => ((R.ok x_27)).bind fun c_29 => ((R.ok v_face)).bind fun c_30 => F_way_back c_28 c_29 c_30)).bind fun t_33 => R.ok (T3.mk t_31 t_32 t_33))) l_34 []).noexc)) (fun r_35 => .ok r_35)
noncomputable def F_ring_from (v_ways : (Dic Str (Str × (Str × Bool)))) (v_face : Str) : R (List (Str × Bool)) :=
  (((R.ok ([] : List Str)).bind few)).bind fun (seen_1 : (List Str)) =>
  R.flow (whileR (fun (st_2 : Str × (List Str)) => (R.b2 (R.ok st_2.1) (R.ok st_2.2) (inR true))) (fun (st_2 : Str × (List Str)) =>
  (((R.ok st_2.1)).bind fun a_10 => (few st_2.2).bind fun _ => (R.ok (st_2.2 ++ [a_10])).bind fun (seen_9 : (List Str)) =>
  ((((R.b2 (R.ok v_ways) (R.ok st_2.1) getR)).map (fun t : (Str × (Str × Bool)) => t.1))).bind fun (face_11 : Str) =>
  .ok (.nx (face_11, seen_9)) : R (Fl (Str × (List Str)) (List (Str × Bool))))) ((v_face, seen_1) : Str × (List Str))) (fun (st_2 : Str × (List Str)) =>
  (((((((R.b2 (R.ok v_ways) (R.ok st_2.1) getR)).map (fun t : (Str × (Str × Bool)) => t.2))).bind fun t_12 => (R.ok ([] : List (Str × Bool))).bind fun t_13 => R.ok (t_12 :: t_13)).bind few)).bind fun (chain_14 : (List (Str × Bool))) =>
  ((((R.b2 (R.ok v_ways) (R.ok st_2.1) getR)).map (fun t : (Str × (Str × Bool)) => t.1))).bind fun (here_15 : Str) =>
  R.flow (whileR (fun (st_16 : (List (Str × Bool)) × Str) => (R.b2 (R.ok st_16.2) (R.ok st_2.1) (eqR true))) (fun (st_16 : (List (Str × Bool)) × Str) =>
  (((((R.b2 (R.ok v_ways) (R.ok st_16.2) getR)).map (fun t : (Str × (Str × Bool)) => t.2))).bind fun a_24 => (few st_16.1).bind fun _ => (R.ok (st_16.1 ++ [a_24])).bind fun (chain_23 : (List (Str × Bool))) =>
  ((((R.b2 (R.ok v_ways) (R.ok st_16.2) getR)).map (fun t : (Str × (Str × Bool)) => t.1))).bind fun (here_25 : Str) =>
  .ok (.nx (chain_23, here_25)) : R (Fl ((List (Str × Bool)) × Str) (List (Str × Bool))))) ((chain_14, here_15) : (List (Str × Bool)) × Str)) (fun (st_16 : (List (Str × Bool)) × Str) =>
  .ok (st_16.1.reverse)) (fun r_27 => .bad)) (fun r_28 => .bad)
noncomputable def F_least_places (v_ties : (List TieV)) : R ((Option (Dic Str Rat)) × (Option (List (Str × Bool)))) :=
  ((((R.ok v_ties)).bind fun c_1 => F_all_steps c_1)).bind fun (steps_2 : (List (T4 Str Str Rat (Str × Bool)))) =>
  ((((R.ok v_ties)).bind fun c_3 => F_faces_of c_3)).bind fun (faces_4 : (List Str)) =>
  ((R.ok (⟨[]⟩ : (Dic Str Rat)))).bind fun (sums_5 : (Dic Str Rat)) =>
  ((R.ok faces_4)).bind fun l_21 => (foldR l_21 (sums_5 : (Dic Str Rat)) (fun (x_6 : Str) (st_7 : (Dic Str Rat)) =>
  ((((((R.ok (0 : Int))).bind fun t_17 => ((R.ok (1 : Int))).bind fun t_18 => R.ok (t_17, t_18))).bind toRat)).bind fun a_19 => ((R.ok x_6)).bind fun k_20 => (fewD st_7).bind fun _ => (R.ok (st_7.put k_20 a_19)).bind fun (sums_16 : (Dic Str Rat)) =>
  .ok sums_16)).bind fun (st_7 : (Dic Str Rat)) =>
  ((R.ok (⟨[]⟩ : (Dic Str (Str × (Str × Bool)))))).bind fun (ways_22 : (Dic Str (Str × (Str × Bool)))) =>
  ((R.ok ())).bind fun (last_23 : Unit) =>
  ((((R.b2 (((R.ok faces_4)).bind fun l => .ok (l.length : Int)) (R.ok (1 : Int)) addI)).bind rng1)).bind fun l_64 => R.flow (forR l_64 ((st_7, ways_22, (none : Option Str)) : (Dic Str Rat) × (Dic Str (Str × (Str × Bool))) × (Option Str)) (fun (x_26 : Int) (st_27 : (Dic Str Rat) × (Dic Str (Str × (Str × Bool))) × (Option Str)) =>
  ((R.ok steps_2)).bind fun c_53 => ((F_one_round c_53 st_27.1 st_27.2.1).noexc).bind fun (pr_57 : (Option Str) × (Dic Str Rat) × (Dic Str (Str × (Str × Bool)))) =>
  R.cond (((R.ok pr_57.1)).map fun o => o.isNone)
  (((((((R.ok pr_57.2.1)).map some)).bind fun t_61 => ((R.ok (none : Option (List (Str × Bool))))).bind fun t_62 => R.ok (t_61, t_62))).bind fun r_63 => .ok (.rt r_63))
  (.ok (.nx (pr_57.2.1, pr_57.2.2, pr_57.1)))) : R (Fl ((Dic Str Rat) × (Dic Str (Str × (Str × Bool))) × (Option Str)) ((Option (Dic Str Rat)) × (Option (List (Str × Bool)))))) (fun (st_27 : (Dic Str Rat) × (Dic Str (Str × (Str × Bool))) × (Option Str)) =>
  (((R.ok (none : Option (Dic Str Rat)))).bind fun t_67 => ((((((R.ok st_27.2.1)).bind fun c_65 => ((((R.ok st_27.2.2)).bind unw)).bind fun c_66 => F_ring_from c_65 c_66)).map some)).bind fun t_68 => R.ok (t_67, t_68))) (fun r_69 => .ok r_69)
noncomputable def F_Book_places (v_self : BookV) : R (Dic Str Rat) :=
  ((((((R.ok v_self)).map BookV.kept)).bind fun c_1 => F_least_places c_1)).bind fun (p_2 : ((Option (Dic Str Rat)) × (Option (List (Str × Bool))))) =>
  R.cond (((R.ok p_2.2)).map fun o => !o.isNone)
  (((((R.ok p_2.2)).bind unw)).bind fun v_4 => .exc "Impossible" [("around", enc v_4)])
  ((((R.ok p_2.1)).bind unw))
noncomputable def F_Book_place_of (v_self : BookV) (v_name : Str) : R (Option Int) :=
  ((((((R.ok v_self)).map BookV.kept)).bind fun l => .ok (enumL l))).bind fun l_10 => R.flow (forR l_10 (() : Unit) (fun (x_1 : (Int × TieV)) (st_2 : Unit) =>
  R.cond (R.b2 (((R.ok x_1.2)).map (fun t : TieV => t.name)) (R.ok v_name) (eqR false))
  (((((R.ok x_1.1)).map some)).bind fun r_9 => .ok (.rt r_9))
  (.ok (.nx ()))) : R (Fl (Unit) (Option Int))) (fun (st_2 : Unit) =>
  (R.ok (none : Option Int))) (fun r_11 => .ok r_11)
noncomputable def F_Book_put (t : BookV) (x : D) : R BookV :=
  ((((R.ok x)).bind fun c => F_tie_of c).bind fun c => F_Tie_plain c).bind fun (pl : TieV) =>
  ((R.ok t).bind fun a => ((R.ok pl).map (fun t : TieV => t.name)).bind fun b => F_Book_place_of a b).bind fun (at_ : Option Int) =>
  R.cond ((R.ok at_).map fun o => o.isNone)
  ((R.ok pl).bind fun a => (few t.kept).bind fun _ => (R.ok (t.kept ++ [a])).bind fun (ks : List TieV) => R.ok (⟨ks⟩ : BookV))
  ((R.ok pl).bind fun a => ((R.ok at_).bind unw).bind fun j => (setL t.kept j a).bind fun (ks : List TieV) => R.ok (⟨ks⟩ : BookV))
end TF


/-! PL: reasoning on typed texts. -/
namespace TF
open PySem PySem.Spec PyProof.Rows L2 DL FR
open Enc KeyT
/-- it tells a value of which P is true -/
def R.sat {α : Type} (m : R α) (P : α → Prop) : Prop := ∃ a, m = .ok a ∧ P a
section
variable {α β γ σ ρ : Type}
theorem sat_ok {a : α} {P : α → Prop} (h : P a) : (R.ok a).sat P := ⟨a, rfl, h⟩
theorem sat_bind {m : R α} {f : α → R β} {P : α → Prop} {Q : β → Prop} (h : m.sat P) (k : ∀ a, P a → (f a).sat Q) : (m.bind f).sat Q := by
  obtain ⟨a, rfl, ha⟩ := h; exact k a ha
theorem sat_true {m : R Bool} (h : m.sat (· = true)) : m = .ok true := by obtain ⟨a, e, rfl⟩ := h; exact e
/-! loops -/
/-- by what is walked already -/
theorem foldR_ind {l : List α} {f : α → σ → R σ} (I : List α → σ → Prop) (h : ∀ p x q s, l = p ++ x :: q → I p s → (f x s).sat (I (p ++ [x]))) {s : σ} (hs : I [] s) : (foldR l s f).sat (I l) := by
  have key : ∀ (q p : List α) (s : σ), l = p ++ q → I p s → (foldR q s f).sat (I l) := by
    intro q
    induction q with
    | nil => intro p s e hp; rw [List.append_nil] at e; subst e; exact sat_ok hp
    | cons x q ih =>
      intro p s e hp
      exact sat_bind (h p x q s e hp) fun s' hs' => ih (p ++ [x]) s' (by rw [e, List.append_assoc]; rfl) hs'
  exact key l [] s rfl hs
theorem forR_all {l : List α} {f : α → σ → R (Fl σ ρ)} (I : σ → Prop) (h : ∀ x ∈ l, ∀ s, I s → (f x s).sat fun r => ∃ s', r = .nx s' ∧ I s') : ∀ s, I s → (forR l s f).sat fun r => ∃ s', r = .nx s' ∧ I s' := by
  induction l with
  | nil => intro s hs; exact sat_ok ⟨s, rfl, hs⟩
  | cons x l ih =>
    intro s hs
    exact sat_bind (h x List.mem_cons_self s hs) fun r ⟨s', e, hs'⟩ => by subst e; exact ih (fun y hy => h y (List.mem_cons_of_mem _ hy)) s' hs'
theorem forR_unit {l : List α} {f : α → Unit → R (Fl Unit ρ)} (h : ∀ x ∈ l, f x () = .ok (.nx ())) : forR l () f = .ok (.nx ()) := by
  obtain ⟨r, e, s', e2, _⟩ := forR_all (fun _ => True) (fun x hx _ _ => ⟨_, h x hx, (), rfl, trivial⟩) () trivial
  rw [e, e2]
theorem rngL_len (lo : Int) (n : Nat) : (rngL lo n).length = n := by unfold rngL; simp
@[simp] theorem rngL_zero (lo : Int) : rngL lo 0 = [] := rfl
theorem ixL_ok {l : List α} {i : Int} (h0 : 0 ≤ i) (h1 : i < l.length) : ixL l i = .ok (l[i.toNat]'(by omega)) := by
  unfold ixL
  have : atI l i = some (l[i.toNat]'(by omega)) := by
    have := atI_nat l i.toNat
    rw [show ((i.toNat : Nat) : Int) = i by omega] at this
    rw [this, List.getElem?_eq_getElem (by omega)]
  rw [this]
/-! divisors -/
theorem gcd_loop : ∀ (n : Nat) (x y : Nat), y < n → whileR (ρ := ρ) (fun (st : Int × Int) => .ok (decide (0 < st.2))) (fun (st : Int × Int) =>
    (modI st.1 st.2).bind fun b => .ok (.nx (st.2, b))) (((x : Int), (y : Int)) : Int × Int) = .ok (.nx (((Nat.gcd x y : Nat) : Int), 0)) := by
  intro n
  induction n with
  | zero => intro x y h; omega
  | succ n ih =>
    intro x y hy
    rw [whileR_eq]
    simp only [R.ok_bind, R.b2]
    by_cases h0 : y = 0
    · subst h0; simp
    · have hp : (0 : Int) < (y : Int) := by omega
      rw [if_pos (decide_eq_true hp), modI_pos hp]
      simp only [R.ok_bind]
      have e : (x : Int) % (y : Int) = ((x % y : Nat) : Int) := by omega
      rw [e, ih y (x % y) (by have := Nat.mod_lt x (show 0 < y by omega); omega)]
      rw [Nat.gcd_comm x y, Nat.gcd_rec y x, Nat.gcd_comm]
theorem low_parts {t b : Int} (hb : 0 < b) (hw : b.natAbs < 2 ^ 9000) : divI t ((Int.gcd t b : Nat) : Int) = .ok (Rat.divInt t b).num ∧ divI b ((Int.gcd t b : Nat) : Int) = .ok ((Rat.divInt t b).den : Int) := by
  have hg : 0 < Int.gcd t b := Int.gcd_pos_of_ne_zero_right _ (by omega)
  have hle : Int.gcd t b ≤ b.natAbs := Nat.le_of_dvd (by omega) (Int.natAbs_dvd_natAbs.mpr (Int.gcd_dvd_right ..) |> fun h => by simpa using h)
  have hd : DL.DivOk ((Int.gcd t b : Nat) : Int) := ⟨by omega, by simpa using Nat.lt_of_le_of_lt hle hw⟩
  rw [divI_ok hd, divI_ok hd]
  have e1 := low_num (a := t) (b := b) (by omega)
  have e2 := low_den (a := t) (b := b) (by omega)
  rw [if_neg (by omega)] at e1 e2
  exact ⟨by rw [e1], by rw [e2]⟩
theorem low_frac {t b : Int} (hb : 0 < b) (hw : b.natAbs < 2 ^ 9000) : ((divI t ((Int.gcd t b : Nat) : Int)).bind fun x => (divI b ((Int.gcd t b : Nat) : Int)).bind fun y => toRat (x, y)) = .ok (Rat.divInt t b) := by
  obtain ⟨h1, h2⟩ := low_parts (t := t) hb hw
  rw [h1, h2]; exact toRat_num _
theorem lt_9000 {b : Int} (h : b.natAbs < 2 ^ 256) : b.natAbs < 2 ^ 9000 := Nat.lt_of_lt_of_le h (Nat.pow_le_pow_right (by decide) (by decide))
/-- a fraction's size: its top below 2^B, its bottom at most d -/
def Fb (B d : Nat) (q : Rat) : Prop := q.num.natAbs < 2 ^ B ∧ q.den ≤ d
theorem Fb.sm {B d : Nat} {q : Rat} (h : Fb B d q) (hB : B ≤ 3000) (hd : d < 2 ^ 64) : Sm q := ⟨Nat.lt_of_lt_of_le h.1 (Nat.pow_le_pow_right (by decide) hB), Nat.lt_of_le_of_lt h.2 (Nat.lt_of_lt_of_le hd (Nat.pow_le_pow_right (by decide) (by decide)))⟩
theorem den_dvd {t b : Int} (hb : 0 < b) : ((Rat.divInt t b).den : Int) ∣ b := by
  rw [Rat.den_divInt]
  split
  · omega
  · have h := Int.gcd_dvd_left b t
    have : ((b.natAbs / b.gcd t : Nat) : Int) ∣ b := by
      have h2 : b.gcd t ∣ b.natAbs := Int.ofNat_dvd_left.mp h
      have h3 : (b.natAbs / b.gcd t) ∣ b.natAbs := Nat.div_dvd_of_dvd h2
      exact Int.ofNat_dvd_left.mpr h3
    exact this
theorem fb_divInt {t b : Int} {B d : Nat} (hb : 0 < b) (ht : t.natAbs < 2 ^ B) (hd : b ≤ d) : Fb B d (Rat.divInt t b) := by
  have h1 : (Rat.divInt t b).num.natAbs ≤ t.natAbs := by
    have e1 := low_num (a := t) (b := b) (by omega)
    rw [if_neg (by omega)] at e1
    rw [e1]
    have hg : (0 : Int) < (Int.gcd t b : Int) := by have := Int.gcd_pos_of_ne_zero_right t (show b ≠ 0 by omega); omega
    rw [Int.fdiv_eq_ediv_of_nonneg _ (by omega)]
    exact Int.natAbs_ediv_le_natAbs ..
  refine ⟨Nat.lt_of_le_of_lt h1 ht, ?_⟩
  have := Int.le_of_dvd hb (den_dvd (t := t) hb)
  omega
/-! fractions by their two numbers -/
theorem toRat_neg (q : Rat) : toRat (-q.num, (q.den : Int)) = .ok (-q) := by
  have := toRat_num (-q)
  rwa [Rat.neg_num, Rat.neg_den] at this
theorem den_pos' (q : Rat) : (0 : Int) < q.den := by have := q.den_pos; omega
theorem Fb.up {B d : Nat} {q : Rat} (h : Fb B d q) : Fb (B + 1) d q := ⟨by have := h.1; rw [Nat.pow_succ]; omega, h.2⟩
theorem Fb.of {B d : Nat} {q : Rat} {a b : Int} (e : Rat.divInt a b = q) (hb : 0 < b) (ht : a.natAbs < 2 ^ B) (hd : b ≤ d) : Fb B d q := e ▸ fb_divInt hb ht hd
end
end TF


/-! PL2: texts by their letters. -/
namespace TF
open PySem PySem.Spec PyProof.Rows L2 DL FR
open Enc KeyT
/-- the text of these letters -/
def sl (cs : List Nat) : Str := ⟨cs.toArray⟩
theorem sl_inj {a b : List Nat} (h : sl a = sl b) : a = b := by
  have := congrArg (fun z : Str => z.cps.toList) h
  simpa [sl] using this
theorem sl_cps (a : List Nat) : (sl a).cps.toList = a := by simp [sl]
theorem sl_len (a : List Nat) : (sl a).length = a.length := by simp [sl, Str.length]
theorem ixS_ok {cs : List Nat} {i : Int} (h : cs.length < 1000000) (h0 : 0 ≤ i) (h1 : i < cs.length) : ixS (sl cs) i = .ok (sl [cs[i.toNat]'(by omega)]) := by
  unfold ixS
  have e := atI_nat cs i.toNat
  rw [show ((i.toNat : Nat) : Int) = i by omega] at e
  rw [if_pos (by rw [sl_len]; exact h), sl_cps, e, List.getElem?_eq_getElem (by omega)]; rfl
/-- a run of letters from c on -/
theorem ixS_run {s : String} {c n : Nat} (hs : (Str.ofString s) = sl ((List.range n).map (c + ·))) (hn : n < 1000000) {i : Int} (h0 : 0 ≤ i) (h1 : i < n) : ixS (Str.ofString s) i = .ok (sl [c + i.toNat]) := by
  rw [hs, ixS_ok (by simpa using hn) h0 (by simpa using h1)]
  simp
theorem cut_from {α : Type} {l : List α} {i : Int} (h : 0 ≤ i) : cut l (some i) none = l.drop i.toNat := by
  unfold cut
  have e : HT.sIx l.length 0 (some i) = min i.toNat l.length := by
    show (if i < 0 then _ else _) = _
    rw [if_neg (by omega)]
  rw [e, HT.sIx_none]
  apply List.ext_getElem?
  intro j
  rw [List.getElem?_take]
  rcases Nat.le_total i.toNat l.length with q | q
  · rw [Nat.min_eq_left q]
    split
    · rfl
    · rw [List.getElem?_drop, List.getElem?_eq_none (by omega)]
  · rw [Nat.min_eq_right q, Nat.sub_self, if_neg (by omega), List.getElem?_drop, List.getElem?_eq_none (by omega)]
theorem nameB_sl {cs : List Nat} : nameB (sl cs) = true ↔ (1 ≤ cs.length ∧ cs.length ≤ 8) ∧ ∀ c ∈ cs, 97 ≤ c ∧ c ≤ 122 := by
  unfold nameB
  rw [sl_len, sl_cps, Bool.and_eq_true, decide_eq_true_eq, List.all_eq_true]
  simp only [decide_eq_true_eq]
theorem nameB_ok {z : Str} (h : nameB z = true) : PyData.strOk z = true ∧ z.length ≤ 8 := by
  refine ⟨(nameB_few h).2, ?_⟩
  unfold nameB at h
  simp only [Bool.and_eq_true, decide_eq_true_eq] at h
  exact h.1.2
end TF


/-! PT0: dicts, whiles by an invariant. -/
namespace TF
open PySem PySem.Spec PyProof.Rows L2 DL FR
open Enc KeyT
section
variable {α κ : Type} [DecidableEq κ]
abbrev Dic.keys (d : Dic κ α) : List κ := d.l.map (·.1)
theorem Dic.isSome_iff {d : Dic κ α} {k : κ} : (d.get? k).isSome = true ↔ k ∈ d.keys := by
  unfold Dic.get?
  rw [Option.isSome_map, List.find?_isSome]
  constructor
  · rintro ⟨p, h1, h2⟩
    exact List.mem_map.mpr ⟨p, h1, by simpa using h2⟩
  · intro h
    obtain ⟨p, h1, h2⟩ := List.mem_map.mp h
    exact ⟨p, h1, by simpa using h2⟩
theorem Dic.none_iff {d : Dic κ α} {k : κ} : d.get? k = none ↔ k ∉ d.keys := by
  rw [← Dic.isSome_iff]
  cases d.get? k <;> simp
theorem Dic.put_new {d : Dic κ α} {k : κ} {a : α} (h : k ∉ d.keys) : (d.put k a).l = d.l ++ [(k, a)] := by
  unfold Dic.put
  have : (d.l.any fun p => decide (p.1 = k)) = false := by
    rw [List.any_eq_false]
    intro p hp e
    exact h (List.mem_map.mpr ⟨p, hp, by simpa using e⟩)
  simp only [this]; rfl
theorem Dic.put_old {d : Dic κ α} {k : κ} {a : α} (h : k ∈ d.keys) : (d.put k a).l = d.l.map (fun p => if p.1 = k then (p.1, a) else p) := by
  unfold Dic.put
  have : (d.l.any fun p => decide (p.1 = k)) = true := by
    rw [List.any_eq_true]
    obtain ⟨p, h1, h2⟩ := List.mem_map.mp h
    exact ⟨p, h1, by simpa using h2⟩
  simp only [this, if_true]
theorem Dic.keys_put_old {d : Dic κ α} {k : κ} {a : α} (h : k ∈ d.keys) : (d.put k a).keys = d.keys := by
  unfold Dic.keys
  rw [Dic.put_old h, List.map_map]
  apply List.map_congr_left
  intro p _
  show (if p.1 = k then (p.1, a) else p).1 = p.1
  split <;> rfl
theorem Dic.keys_put_new {d : Dic κ α} {k : κ} {a : α} (h : k ∉ d.keys) : (d.put k a).keys = d.keys ++ [k] := by
  unfold Dic.keys
  rw [Dic.put_new h, List.map_append]; rfl
theorem Dic.mem_put {d : Dic κ α} {k k' : κ} {a : α} : k' ∈ (d.put k a).keys ↔ k' = k ∨ k' ∈ d.keys := by
  by_cases h : k ∈ d.keys
  · rw [Dic.keys_put_old h]
    constructor
    · exact .inr
    · rintro (rfl | h')
      · exact h
      · exact h'
  · rw [Dic.keys_put_new h, List.mem_append, List.mem_singleton, or_comm]
theorem Dic.nodup_put {d : Dic κ α} {k : κ} {a : α} (hn : d.keys.Nodup) : (d.put k a).keys.Nodup := by
  by_cases h : k ∈ d.keys
  · rw [Dic.keys_put_old h]; exact hn
  · rw [Dic.keys_put_new h, List.nodup_append]
    refine ⟨hn, by simp, fun x hx y hy e => ?_⟩
    rw [List.mem_singleton] at hy
    subst hy; subst e; exact h hx
theorem Dic.get_put (d : Dic κ α) (k k' : κ) (a : α) : (d.put k a).get? k' = if k' = k then some a else d.get? k' := by
  by_cases h : k ∈ d.keys
  · unfold Dic.get?
    rw [Dic.put_old h, List.find?_map]
    have e : ((fun p : κ × α => decide (p.1 = k')) ∘ fun p => if p.1 = k then (p.1, a) else p) = fun p => decide (p.1 = k') := by
      funext p
      show decide ((if p.1 = k then (p.1, a) else p).1 = k') = _
      split <;> rfl
    rw [e]
    split
    · rename_i hk
      subst hk
      obtain ⟨p, h1, h2⟩ := List.mem_map.mp h
      have : (d.l.find? fun p => decide (p.1 = k')).isSome := by
        rw [List.find?_isSome]; exact ⟨p, h1, by simpa using h2⟩
      obtain ⟨q, hq⟩ := Option.isSome_iff_exists.mp this
      have hq1 : q.1 = k' := by simpa using List.find?_some hq
      rw [hq]
      simp [hq1]
    · rename_i hk
      cases hq : (d.l.find? fun p => decide (p.1 = k')) with
      | none => rfl
      | some q =>
        have hq1 : q.1 = k' := by simpa using List.find?_some hq
        have : ¬ q.1 = k := fun e => hk (hq1.symm.trans e)
        simp [this]
  · unfold Dic.get?
    rw [Dic.put_new h, List.find?_append]
    split
    · rename_i hk
      subst hk
      have : (d.l.find? fun p => decide (p.1 = k')) = none := by
        rw [List.find?_eq_none]
        intro p hp e
        exact h (List.mem_map.mpr ⟨p, hp, by simpa using e⟩)
      rw [this]; simp
    · rename_i hk
      have hk' : ¬ k = k' := fun e => hk e.symm
      simp [hk']
theorem getR_ok {d : Dic κ α} {k : κ} {a : α} (h : d.get? k = some a) : getR d k = .ok a := by
  unfold getR; rw [h]
end
section
variable {σ ρ α : Type}
theorem fewD_ok [KeyT σ] [Enc α] {d : Dic σ α} (h : d.l.length < 1000000) : fewD d = .ok () := if_pos h
end
end TF


/-! PT1: ways between faces. -/
namespace TF
open PySem PySem.Spec PyProof.Rows L2 DL FR
open Enc KeyT
/-- a part gone from a face to a face -/
def StepP (ps : List PartV) (f : Str) (s : Str × Bool) (g : Str) : Prop := ∃ p ∈ ps, p.name = s.1 ∧ ((s.2 = true ∧ p.start = f ∧ p.fin = g) ∨ (s.2 = false ∧ p.fin = f ∧ p.start = g))
inductive WalkP (ps : List PartV) : Str → List (Str × Bool) → Str → Prop
  | nil (f) : WalkP ps f [] f
  | snoc {f w g s h} : WalkP ps f w g → StepP ps g s h → WalkP ps f (w ++ [s]) h
/-- faces joined -/
inductive JoinP (ps : List PartV) : Str → Str → Prop
  | refl (f) : JoinP ps f f
  | fwd {f p} : JoinP ps f p.start → p ∈ ps → JoinP ps f p.fin
  | bwd {f p} : JoinP ps f p.fin → p ∈ ps → JoinP ps f p.start
theorem WalkP.join {ps : List PartV} {f w g} (h : WalkP ps f w g) : JoinP ps f g := by
  induction h with
  | nil => exact .refl _
  | snoc _ hs ih =>
    obtain ⟨p, hp, _, ⟨_, rfl, rfl⟩ | ⟨_, rfl, rfl⟩⟩ := hs
    · exact .fwd ih hp
    · exact .bwd ih hp
/-- names that texts may be compared by -/
def GdS (z : Str) : Prop := PyData.strOk z = true
structure GdP (ps : List PartV) : Prop where
  few : ps.length < 1000
  st : ∀ p ∈ ps, GdS p.start
  fi : ∀ p ∈ ps, GdS p.fin
abbrev WSt := Dic Str (List (Str × Bool)) × List Str
def facesP (ps : List PartV) : List Str := ps.map (·.start) ++ ps.map (·.fin)
def unseen (ps : List PartV) (one : Str) (ks : List Str) : Nat := ((one :: facesP ps).filter fun f => decide (f ∉ ks)).length
theorem unseen_lt {ps : List PartV} {one k : Str} {ks : List Str} (hk : k ∈ one :: facesP ps) (hn : k ∉ ks) : unseen ps one (ks ++ [k]) < unseen ps one ks := by
  unfold unseen
  generalize one :: facesP ps = L at hk
  induction L with
  | nil => cases hk
  | cons x L ih =>
    have hle : ∀ M : List Str, (M.filter fun f => decide (f ∉ ks ++ [k])).length ≤ (M.filter fun f => decide (f ∉ ks)).length := by
      intro M
      induction M with
      | nil => exact Nat.le_refl _
      | cons y M ih2 =>
        rw [List.filter_cons, List.filter_cons]
        by_cases h1 : y ∈ ks
        · have h2 : y ∈ ks ++ [k] := List.mem_append_left _ h1
          simp only [h1, h2, not_true, decide_false, if_false, Bool.false_eq_true]; exact ih2
        · by_cases h2 : y ∈ ks ++ [k]
          · simp only [h1, h2, not_true, not_false_eq_true, decide_false, decide_true, if_false, if_true, Bool.false_eq_true, List.length_cons]; omega
          · simp only [h1, h2, not_false_eq_true, decide_true, if_true, List.length_cons]; omega
    rw [List.filter_cons, List.filter_cons]
    by_cases hx : x = k
    · subst hx
      have h2 : x ∈ ks ++ [x] := List.mem_append_right _ List.mem_cons_self
      simp only [hn, h2, not_true, not_false_eq_true, decide_false, decide_true, if_false, if_true, Bool.false_eq_true, List.length_cons]
      have := hle L
      omega
    · have hk' : k ∈ L := (List.mem_cons.mp hk).resolve_left fun e => hx e.symm
      have := ih hk'
      by_cases h1 : x ∈ ks
      · have h2 : x ∈ ks ++ [k] := List.mem_append_left _ h1
        simp only [h1, h2, not_true, decide_false, if_false, Bool.false_eq_true]; exact this
      · have h2 : x ∉ ks ++ [k] := fun h => (List.mem_append.mp h).elim h1 fun h => hx (List.mem_singleton.mp h)
        simp only [h1, h2, not_false_eq_true, decide_true, if_true, List.length_cons]; omega
/-- what stands while faces are found -/
structure InvW (ps : List PartV) (one : Str) (st : WSt) : Prop where
  nd : st.1.keys.Nodup
  one_ : one ∈ st.1.keys
  good : ∀ f ∈ st.1.keys, GdS f
  walk : ∀ f w, (f, w) ∈ st.1.l → WalkP ps one w f
  names : ∀ f w, (f, w) ∈ st.1.l → (w.map (·.1)).Nodup ∧ ∀ n ∈ w.map (·.1), ∃ p ∈ ps, p.name = n ∧ p.start ∈ st.1.keys ∧ p.fin ∈ st.1.keys
  len : ∀ f w, (f, w) ∈ st.1.l → w.length < st.1.l.length
  q : ∀ f ∈ st.2, f ∈ st.1.keys
  card : st.1.l.length + unseen ps one st.1.keys ≤ 2 * ps.length + 1
theorem InvW.add {ps : List PartV} {one here g : Str} {st : WSt} {s : Str × Bool} {w : List (Str × Bool)} (nn : (ps.map (·.name)).Nodup) (hp : GdP ps) (I : InvW ps one st) (hw : (here, w) ∈ st.1.l) (hs : StepP ps here s g) (hg : g ∉ st.1.keys) (gg : GdS g) :
    InvW ps one (st.1.put g (w ++ [s]), st.2 ++ [g]) ∧ unseen ps one (st.1.put g (w ++ [s])).keys < unseen ps one st.1.keys := by
  have hgm : g ∈ one :: facesP ps := by
    obtain ⟨p, hp, _, ⟨_, _, rfl⟩ | ⟨_, _, rfl⟩⟩ := hs
    · exact List.mem_cons_of_mem _ (List.mem_append_right _ (List.mem_map_of_mem hp))
    · exact List.mem_cons_of_mem _ (List.mem_append_left _ (List.mem_map_of_mem hp))
  have hun : unseen ps one (st.1.put g (w ++ [s])).keys < unseen ps one st.1.keys := by
    rw [Dic.keys_put_new hg]; exact unseen_lt hgm hg
  have hl : (st.1.put g (w ++ [s])).l = st.1.l ++ [(g, w ++ [s])] := Dic.put_new hg
  refine ⟨⟨Dic.nodup_put I.nd, Dic.mem_put.mpr (.inr I.one_), fun f hf => ?_, fun f v hv => ?_, fun f v hv => ?_, fun f v hv => ?_, fun f hf => ?_, ?_⟩, hun⟩
  · rcases Dic.mem_put.mp hf with rfl | hf
    · exact gg
    · exact I.good f hf
  · rw [hl] at hv
    rcases List.mem_append.mp hv with hv | hv
    · exact I.walk f v hv
    · cases List.mem_singleton.mp hv
      exact .snoc (I.walk here w hw) hs
  · rw [hl] at hv
    rcases List.mem_append.mp hv with hv | hv
    · obtain ⟨h1, h2⟩ := I.names f v hv
      refine ⟨h1, fun n hn => ?_⟩
      obtain ⟨p, a, b, c, d⟩ := h2 n hn
      exact ⟨p, a, b, Dic.mem_put.mpr (.inr c), Dic.mem_put.mpr (.inr d)⟩
    · cases List.mem_singleton.mp hv
      obtain ⟨h1, h2⟩ := I.names here w hw
      have hk : here ∈ st.1.keys := List.mem_map.mpr ⟨_, hw, rfl⟩
      obtain ⟨p, hp, en, hd⟩ := hs
      constructor
      · rw [List.map_append, List.nodup_append]
        refine ⟨h1, by simp, fun x hx y hy e => ?_⟩
        have hy' : y = s.1 := by simpa using hy
        subst hy'; subst e
        obtain ⟨p', a, b, c, d⟩ := h2 _ hx
        have : p' = p := by
          obtain ⟨i, hi, ei⟩ := List.getElem_of_mem a
          obtain ⟨j, hj, ej⟩ := List.getElem_of_mem hp
          have hij : i = j := by
            have := List.pairwise_iff_getElem.mp nn
            rcases Nat.lt_trichotomy i j with h | h | h
            · exact absurd (show (ps.map (·.name))[i]'(by simpa using hi) = (ps.map (·.name))[j]'(by simpa using hj) by rw [List.getElem_map, List.getElem_map, ei, ej, b, en]) (this i j (by simpa using hi) (by simpa using hj) h)
            · exact h
            · exact absurd (show (ps.map (·.name))[j]'(by simpa using hj) = (ps.map (·.name))[i]'(by simpa using hi) by rw [List.getElem_map, List.getElem_map, ei, ej, b, en]) (this j i (by simpa using hj) (by simpa using hi) h)
          subst hij; exact ei.symm.trans ej
        subst this
        rcases hd with ⟨_, _, rfl⟩ | ⟨_, _, rfl⟩
        · exact hg d
        · exact hg c
      · intro n hn
        rw [List.map_append, List.mem_append] at hn
        rcases hn with hn | hn
        · obtain ⟨p, a, b, c, d⟩ := h2 n hn
          exact ⟨p, a, b, Dic.mem_put.mpr (.inr c), Dic.mem_put.mpr (.inr d)⟩
        · have hn' : n = s.1 := by simpa using hn
          subst hn'
          refine ⟨p, hp, en, ?_⟩
          rcases hd with ⟨_, rfl, rfl⟩ | ⟨_, rfl, rfl⟩
          · exact ⟨Dic.mem_put.mpr (.inr hk), Dic.mem_put.mpr (.inl rfl)⟩
          · exact ⟨Dic.mem_put.mpr (.inl rfl), Dic.mem_put.mpr (.inr hk)⟩
  · rw [hl] at hv ⊢
    rw [List.length_append]
    rcases List.mem_append.mp hv with hv | hv
    · have := I.len f v hv; omega
    · cases List.mem_singleton.mp hv
      have := I.len here w hw
      simp; omega
  · rcases List.mem_append.mp hf with hf | hf
    · exact Dic.mem_put.mpr (.inr (I.q f hf))
    · exact Dic.mem_put.mpr (.inl (List.mem_singleton.mp hf))
  · show (st.1.put g (w ++ [s])).l.length + unseen ps one (st.1.put g (w ++ [s])).keys ≤ _
    rw [hl, List.length_append]
    have := I.card
    simp; omega


/-- a face's neighbours are found -/
def ClosedP (ks : List Str) (f : Str) (p : PartV) : Prop := (p.start = f → p.fin ∈ ks) ∧ (p.fin = f → p.start ∈ ks)
theorem ClosedP.mono {ks ks' : List Str} {f : Str} {p : PartV} (h : ClosedP ks f p) (hs : ∀ k ∈ ks, k ∈ ks') : ClosedP ks' f p := ⟨fun e => hs _ (h.1 e), fun e => hs _ (h.2 e)⟩
structure InvF (ps : List PartV) (one here : Str) (M : Nat) (pre : List PartV) (st : WSt) : Prop where
  I : InvW ps one st
  here_ : here ∈ st.1.keys
  closed : ∀ f ∈ st.1.keys, f ∉ st.2 → f ≠ here → ∀ p ∈ ps, ClosedP st.1.keys f p
  now : ∀ p ∈ pre, ClosedP st.1.keys here p
  m : unseen ps one st.1.keys + st.2.length ≤ M
theorem InvF.add {ps : List PartV} {one here g : Str} {M : Nat} {pre : List PartV} {x : PartV} {st : WSt} {s : Str × Bool} {w : List (Str × Bool)} (nn : (ps.map (·.name)).Nodup) (hp : GdP ps) (F : InvF ps one here M pre st) (hw : (here, w) ∈ st.1.l) (hs : StepP ps here s g) (hg : g ∉ st.1.keys) (gg : GdS g)
    (hx : ∀ ks : List Str, g ∈ ks → ClosedP ks here x ∨ True) (hc : ClosedP (st.1.put g (w ++ [s])).keys here x) : InvF ps one here M (pre ++ [x]) (st.1.put g (w ++ [s]), st.2 ++ [g]) := by
  obtain ⟨h1, h2⟩ := F.I.add nn hp hw hs hg gg
  have mono : ∀ k ∈ st.1.keys, k ∈ (st.1.put g (w ++ [s])).keys := fun k hk => Dic.mem_put.mpr (.inr hk)
  refine ⟨h1, mono _ F.here_, fun f hf hq hne p hp => ?_, fun p hp => ?_, ?_⟩
  · have hfq : f ∉ st.2 := fun h => hq (List.mem_append_left _ h)
    have hfg : f ≠ g := fun e => hq (List.mem_append_right _ (List.mem_singleton.mpr e))
    exact (F.closed f ((Dic.mem_put.mp hf).resolve_left hfg) hfq hne p hp).mono mono
  · rcases List.mem_append.mp hp with hp | hp
    · exact (F.now p hp).mono mono
    · cases List.mem_singleton.mp hp
      exact hc
  · show unseen ps one (st.1.put g (w ++ [s])).keys + (st.2 ++ [g]).length ≤ M
    have := F.m
    rw [List.length_append, List.length_singleton]; omega
end TF


/-! PT2: things made; middles, rooms. -/
namespace TF
open PySem PySem.Spec PyProof.Rows L2 DL FR
open Enc KeyT
structure OkP (p : PartV) : Prop where
  n : nameB p.name = true
  s : nameB p.start = true
  f : nameB p.fin = true
  ne : p.start ≠ p.fin
  most : 0 ≤ p.most
  w : 0 < p.weight
structure OkG (g : GapV) : Prop where
  n : nameB g.name = true
  s : nameB g.one = true
  f : nameB g.other = true
  ne : g.one ≠ g.other
  lo : Sm g.low
  hi : Sm g.high
  le : g.low ≤ g.high
/-- a thing of these parts and gaps -/
structure ThOk (ps : List PartV) (gs : List GapV) (t : ThingV) : Prop where
  parts : t.parts = ps
  gaps : t.gaps = gs
  sizes : t.sizes.l = ps.map fun p => (p.name, p.size)
  ways : t.ways.keys = gs.map (·.name)
  way : ∀ g ∈ gs, ∃ w, t.ways.get? g.name = some w ∧ WalkP ps g.one w g.other ∧ (w.map (·.1)).Nodup ∧ w.length ≤ 2 * ps.length + 1
/-- parts and gaps that make a thing -/
structure Fit (ps : List PartV) (gs : List GapV) : Prop where
  lp : ps.length < 1000
  lg : gs.length < 1000
  okP : ∀ p ∈ ps, OkP p
  okG : ∀ g ∈ gs, OkG g
  nP : (ps.map (·.name)).Nodup
  nG : (gs.map (·.name)).Nodup
  tree : ∀ pre x post, ps = pre ++ x :: post → ¬ JoinP pre x.start x.fin
  join : ∀ g ∈ gs, JoinP ps g.one g.other
theorem nodup_pre {α : Type} {l m : List α} {x : α} (h : (l ++ x :: m).Nodup) : l.Nodup ∧ x ∉ l := by
  rw [List.nodup_append] at h
  refine ⟨h.1, fun hx => h.2.2 x hx x List.mem_cons_self rfl⟩
/-! ### sums along a way -/
/-- places that the sizes of parts keep -/
def PosP (ps : List PartV) (φ : Str → Rat) : Prop := ∀ p ∈ ps, φ p.fin = φ p.start + p.size
theorem JoinP.mono {ps qs : List PartV} (h : ∀ p ∈ ps, p ∈ qs) {f g : Str} (j : JoinP ps f g) : JoinP qs f g := by
  induction j with
  | refl => exact .refl _
  | fwd _ hp ih => exact .fwd ih (h _ hp)
  | bwd _ hp ih => exact .bwd ih (h _ hp)
theorem JoinP.trans {ps : List PartV} {f g h : Str} (a : JoinP ps f g) (b : JoinP ps g h) : JoinP ps f h := by
  induction b with
  | refl => exact a
  | fwd _ hp ih => exact .fwd ih hp
  | bwd _ hp ih => exact .bwd ih hp
theorem JoinP.symm {ps : List PartV} {f g : Str} (a : JoinP ps f g) : JoinP ps g f := by
  induction a with
  | refl => exact .refl _
  | fwd _ hp ih => exact JoinP.trans (.bwd (.refl _) hp) ih
  | bwd _ hp ih => exact JoinP.trans (.fwd (.refl _) hp) ih
theorem JoinP.const {α : Type} {ps : List PartV} {f g : Str} (φ : Str → α) (h : ∀ p ∈ ps, φ p.start = φ p.fin) (a : JoinP ps f g) : φ f = φ g := by
  induction a with
  | refl => rfl
  | fwd _ hp ih => rw [ih, h _ hp]
  | bwd _ hp ih => rw [ih, h _ hp]
/-- parts form no ring where each has a mark that it alone changes -/
theorem tree_of {α : Type} {ps : List PartV} (nn : (ps.map (·.name)).Nodup) (φ : Str → Str → α) (h1 : ∀ p ∈ ps, φ p.name p.start ≠ φ p.name p.fin) (h2 : ∀ p ∈ ps, ∀ q ∈ ps, p.name ≠ q.name → φ p.name q.start = φ p.name q.fin) :
    ∀ pre x post, ps = pre ++ x :: post → ¬ JoinP pre x.start x.fin := by
  intro pre x post e j
  have hx : x ∈ ps := by rw [e]; exact List.mem_append_right _ List.mem_cons_self
  rw [e, List.map_append, List.map_cons] at nn
  obtain ⟨n1, n2⟩ := nodup_pre nn
  refine h1 x hx (j.const (φ x.name) fun p hp => h2 x hx p (by rw [e]; exact List.mem_append_left _ hp) fun e2 => n2 (e2 ▸ List.mem_map_of_mem hp))
/-- the parts on a way are those whose marks its ends have unlike -/
theorem walk_names {ps : List PartV} {f g : Str} {w : List (Str × Bool)} {n : Str} (φ : Str → Bool) (h1 : ∀ p ∈ ps, p.name = n → φ p.start ≠ φ p.fin) (h2 : ∀ p ∈ ps, p.name ≠ n → φ p.start = φ p.fin) (h : WalkP ps f w g) (nd : (w.map (·.1)).Nodup) :
    n ∈ w.map (·.1) ↔ φ f ≠ φ g := by
  induction h with
  | nil => simp
  | @snoc w g s h hw hs ih =>
    rw [List.map_append, List.nodup_append] at nd
    have ih := ih nd.1
    obtain ⟨p, hp, en, hd⟩ := hs
    have hne : p.name = n → φ g ≠ φ h := fun e => by
      rcases hd with ⟨_, rfl, rfl⟩ | ⟨_, rfl, rfl⟩
      · exact h1 p hp e
      · exact fun e2 => h1 p hp e e2.symm
    have heq : p.name ≠ n → φ g = φ h := fun e => by
      rcases hd with ⟨_, rfl, rfl⟩ | ⟨_, rfl, rfl⟩
      · exact h2 p hp e
      · exact (h2 p hp e).symm
    rw [List.map_append, List.mem_append]
    by_cases e : p.name = n
    · have hs : s.1 = n := en.symm.trans e
      have hnw : n ∉ w.map (·.1) := fun hm => nd.2.2 n hm n (by simp [hs]) rfl
      have e1 : φ f = φ g := Classical.byContradiction fun hh => hnw (ih.mpr hh)
      constructor
      · intro _; rw [e1]; exact hne e
      · intro _; exact .inr (by simp [hs])
    · have hs : ¬ s.1 = n := fun h => e (en.trans h)
      rw [← heq e]
      constructor
      · rintro (h | h)
        · exact ih.mp h
        · simp at h; exact absurd h.symm hs
      · intro h; exact .inl (ih.mpr h)
theorem same_name {α : Type} {f : α → Str} {l : List α} (nn : (l.map f).Nodup) {a b : α} (ha : a ∈ l) (hb : b ∈ l) (h : f a = f b) : a = b := by
  induction l with
  | nil => cases ha
  | cons x l ih =>
    rw [List.map_cons, List.nodup_cons] at nn
    rcases List.mem_cons.mp ha with e1 | e1 <;> rcases List.mem_cons.mp hb with e2 | e2
    · exact e1.trans e2.symm
    · exact (nn.1 (List.mem_map.mpr ⟨b, e2, by rw [← e1]; exact h.symm⟩)).elim
    · exact (nn.1 (List.mem_map.mpr ⟨a, e1, by rw [← e2]; exact h⟩)).elim
    · exact ih nn.2 e1 e2
/-- the room that a gap leaves a middle -/
def roomV (g : GapV) (m : Rat) : Rat := if g.high - m < m - g.low then g.high - m else m - g.low
end TF


/-! PT3: fractions over a common bottom; what the laws on things draw. -/
namespace TF
open PySem PySem.Spec PyProof.Rows L2 DL FR
open Enc KeyT
/-- a fraction over a common bottom, not too great -/
def Gd (N M : Nat) (q : Rat) : Prop := (∃ k : Int, q * (N : Rat) = (k : Rat)) ∧ -(M : Rat) ≤ q ∧ q ≤ (M : Rat)
section
variable {N M M' : Nat} {q r : Rat}
theorem Gd.mono (h : Gd N M q) (hm : M ≤ M') : Gd N M' q := by
  have : (M : Rat) ≤ (M' : Rat) := Rat.natCast_le_natCast.mpr hm
  obtain ⟨h1, h2, h3⟩ := h
  exact ⟨h1, by grind, by grind⟩
theorem Gd.add (h : Gd N M q) (g : Gd N M' r) : Gd N (M + M') (q + r) := by
  obtain ⟨⟨k, hk⟩, h2, h3⟩ := h
  obtain ⟨⟨l, hl⟩, g2, g3⟩ := g
  refine ⟨⟨k + l, ?_⟩, ?_, ?_⟩
  · rw [Rat.intCast_add]; grind
  · rw [Rat.natCast_add]; grind
  · rw [Rat.natCast_add]; grind
theorem Gd.neg (h : Gd N M q) : Gd N M (-q) := by
  obtain ⟨⟨k, hk⟩, h2, h3⟩ := h
  refine ⟨⟨-k, ?_⟩, by grind, by grind⟩
  rw [Rat.intCast_neg]; grind
theorem Gd.sub (h : Gd N M q) (g : Gd N M' r) : Gd N (M + M') (q - r) := by
  rw [Rat.sub_eq_add_neg]; exact h.add g.neg
theorem Gd.zero : Gd N 0 0 := ⟨⟨0, by simp⟩, by simp, by simp⟩
theorem Gd.eq (hN : 0 < N) (h : Gd N M q) : ∃ k : Int, q = Rat.divInt k N ∧ k.natAbs ≤ M * N := by
  obtain ⟨⟨k, hk⟩, h2, h3⟩ := h
  have hN0 : (0 : Rat) < (N : Rat) := Rat.natCast_pos.mpr hN
  have hne : (N : Rat) ≠ 0 := by grind
  refine ⟨k, ?_, ?_⟩
  · rw [Rat.divInt_eq_div, Rat.intCast_natCast]
    grind
  · have a1 : (k : Rat) ≤ (M : Rat) * (N : Rat) := by rw [← hk]; exact Rat.mul_le_mul_of_nonneg_right h3 (Rat.le_of_lt hN0)
    have a2 : -((M : Rat) * (N : Rat)) ≤ (k : Rat) := by
      have := Rat.mul_le_mul_of_nonneg_right h2 (Rat.le_of_lt hN0)
      grind
    have b1 : k ≤ ((M * N : Nat) : Int) := by
      rw [← Rat.intCast_le_intCast, Rat.intCast_natCast, Rat.natCast_mul]; exact a1
    have b2 : -((M * N : Nat) : Int) ≤ k := by
      rw [← Rat.intCast_le_intCast, Rat.intCast_neg, Rat.intCast_natCast, Rat.natCast_mul]; exact a2
    omega
theorem Gd.sm (h : Gd N M q) (hN : 0 < N) (hM : M * N < 2 ^ 3000) (hN2 : N < 2 ^ 3000) : Sm q := by
  obtain ⟨k, e, hk⟩ := h.eq hN
  rw [e]
  exact sm_low (k := 3000) (by omega) (by omega) (by simpa using hN2) (Nat.le_refl _)
theorem gd_div {t b : Int} (hb : 0 < b) (hd : b ∣ (N : Int)) (ht : t.natAbs ≤ M) : Gd N M (Rat.divInt t b) := by
  obtain ⟨c, hc⟩ := hd
  have hb0 : (0 : Rat) < (b : Rat) := by
    have := Rat.intCast_lt_intCast.mpr hb; simpa using this
  have hne : (b : Rat) ≠ 0 := by grind
  rw [Rat.divInt_eq_div]
  have hN : (N : Rat) = (b : Rat) * (c : Rat) := by rw [← Rat.intCast_natCast, hc, Rat.intCast_mul]
  have hb1 : (1 : Rat) ≤ (b : Rat) := by
    have := Rat.intCast_le_intCast.mpr (show (1 : Int) ≤ b by omega); simpa using this
  refine ⟨⟨t * c, ?_⟩, ?_, ?_⟩
  · rw [hN, Rat.intCast_mul]; grind
  · refine Rat.not_lt.mp fun hlt => ?_
    have hx : (t : Rat) / (b : Rat) * (b : Rat) = (t : Rat) := Rat.div_mul_cancel hne
    have hlt := Rat.mul_lt_mul_of_pos_right hlt hb0
    have a1 : (-(M : Int) : Int) ≤ t := by omega
    have a2 : -(M : Rat) ≤ (t : Rat) := by
      have := Rat.intCast_le_intCast.mpr a1
      rw [Rat.intCast_neg, Rat.intCast_natCast] at this; exact this
    have a3 : (0 : Rat) ≤ (M : Rat) := Rat.natCast_nonneg
    have a4 : (M : Rat) * 1 ≤ (M : Rat) * (b : Rat) := Rat.mul_le_mul_of_nonneg_left hb1 a3
    grind
  · refine Rat.not_lt.mp fun hlt => ?_
    have hx : (t : Rat) / (b : Rat) * (b : Rat) = (t : Rat) := Rat.div_mul_cancel hne
    have hlt := Rat.mul_lt_mul_of_pos_right hlt hb0
    have a1 : t ≤ (M : Int) := by omega
    have a2 : (t : Rat) ≤ (M : Rat) := by
      have := Rat.intCast_le_intCast.mpr a1
      rw [Rat.intCast_natCast] at this; exact this
    have a3 : (0 : Rat) ≤ (M : Rat) := Rat.natCast_nonneg
    have a4 : (M : Rat) * 1 ≤ (M : Rat) * (b : Rat) := Rat.mul_le_mul_of_nonneg_left hb1 a3
    grind
end
/-! ### the laws' own functions -/
theorem den_lt {q : Rat} (h : Sm q) : ((q.den : Int)).natAbs < 2 ^ 3000 := by have := h.2; simpa using this
/-- a name: a letter among others -/
def nmT (c : Nat) (k style : Nat) : Str := sl (List.replicate style c ++ [97 + k] ++ List.replicate (3 - style) c)
theorem nmT_ok {c k style : Nat} (hc : 97 ≤ c ∧ c ≤ 122) (hk : k < 26) (hs : style ≤ 3) : nameB (nmT c k style) = true := by
  unfold nmT
  rw [nameB_sl]
  constructor
  · simp only [List.length_append, List.length_replicate, List.length_cons, List.length_nil]; omega
  · intro x hx
    rcases List.mem_append.mp hx with hx | hx
    · rcases List.mem_append.mp hx with hx | hx
      · rw [List.eq_of_mem_replicate hx]; exact hc
      · rw [List.mem_singleton.mp hx]; omega
    · rw [List.eq_of_mem_replicate hx]; exact hc
theorem nmT_inj {c k k' style : Nat} (h : nmT c k style = nmT c k' style) : k = k' := by
  unfold nmT at h
  have := sl_inj h
  simp only [List.append_assoc, List.append_cancel_left_eq, List.cons_append, List.nil_append, List.cons.injEq] at this
  omega
theorem sg : (Str.ofString "g") = sl [103] := by decide +kernel
end TF


/-! PT4: parts drawn as trees. -/
namespace TF
open PySem PySem.Spec PyProof.Rows L2 DL FR
open Enc KeyT
/-- parts that grew as trees over faces: each face's root, its place, the parts from its root -/
structure TreeI (ps : List PartV) (ks : List Str) (root : Str → Str) (pos : Str → Rat) (ch : Str → List Str) : Prop where
  ok : ∀ p ∈ ps, OkP p
  nP : (ps.map (·.name)).Nodup
  st : ∀ p ∈ ps, p.start ∈ ks
  fi : ∀ p ∈ ps, p.fin ∈ ks
  pos : PosP ps pos
  rt : ∀ f ∈ ks, JoinP ps (root f) f
  rc : ∀ p ∈ ps, root p.start = root p.fin
  ch1 : ∀ f ∈ ks, ∀ n ∈ ch f, n ∈ ps.map (·.name)
  ch2 : ∀ p ∈ ps, (ch p.fin = ch p.start ++ [p.name] ∧ p.name ∉ ch p.start) ∨ (ch p.start = ch p.fin ++ [p.name] ∧ p.name ∉ ch p.fin)
  two : ∀ f ∈ ks, ∃ g ∈ ks, g ≠ f ∧ root g = root f
theorem TreeI.empty {root pos ch} : TreeI [] [] root pos ch := ⟨fun _ h => (nomatch h), by simp, fun _ h => (nomatch h), fun _ h => (nomatch h), fun _ h => (nomatch h), fun _ h => (nomatch h), fun _ h => (nomatch h), fun _ h => (nomatch h), fun _ h => (nomatch h), fun _ h => (nomatch h)⟩
theorem JoinP.more {ps qs : List PartV} {f g : Str} (j : JoinP ps f g) : JoinP (ps ++ qs) f g := j.mono fun p hp => List.mem_append_left _ hp
theorem TreeI.add {ps ks ks' root pos ch root' pos' ch'} (T : TreeI ps ks root pos ch) {p : PartV} {here there : Str} (ok : OkP p) (hn : p.name ∉ ps.map (·.name)) (ht : there ∉ ks) (hne : here ≠ there) (hk : ∀ f, f ∈ ks' ↔ f = there ∨ f = here ∨ f ∈ ks)
    (hr : ∀ f ∈ ks, root' f = root f) (hp : ∀ f ∈ ks, pos' f = pos f) (hc : ∀ f ∈ ks, ch' f = ch f) (hnew : here ∉ ks → root' here = here ∧ ch' here = [])
    (hr' : root' there = root' here) (hc' : ch' there = ch' here ++ [p.name]) (he : (p.start = here ∧ p.fin = there ∧ pos' there = pos' here + p.size) ∨ (p.start = there ∧ p.fin = here ∧ pos' there = pos' here - p.size)) : TreeI (ps ++ [p]) ks' root' pos' ch' := by
  have hst : ∀ q ∈ ps, q.start ∈ ks := T.st
  have hfi : ∀ q ∈ ps, q.fin ∈ ks := T.fi
  have ks_ : ∀ f ∈ ks, f ∈ ks' := fun f h => (hk f).mpr (.inr (.inr h))
  have hereK : here ∈ ks' := (hk here).mpr (.inr (.inl rfl))
  have thereK : there ∈ ks' := (hk there).mpr (.inl rfl)
  have split : ∀ {P : PartV → Prop}, (∀ q ∈ ps, P q) → P p → ∀ q ∈ ps ++ [p], P q := fun h1 h2 q hq => by
    rcases List.mem_append.mp hq with hq | hq
    · exact h1 q hq
    · cases List.mem_singleton.mp hq; exact h2
  have hch1 : ∀ f ∈ ks, ∀ n ∈ ch' f, n ∈ ps.map (·.name) := fun f hf n h => T.ch1 f hf n (by rw [← hc f hf]; exact h)
  have hhere : ∀ n ∈ ch' here, n ∈ ps.map (·.name) := fun n h => by
    by_cases hh : here ∈ ks
    · exact hch1 here hh n h
    · rw [(hnew hh).2] at h; cases h
  have jhere : JoinP (ps ++ [p]) (root' here) here := by
    by_cases hh : here ∈ ks
    · rw [hr here hh]; exact (T.rt here hh).more
    · rw [(hnew hh).1]; exact .refl _
  have pm : p ∈ ps ++ [p] := List.mem_append_right _ List.mem_cons_self
  refine ⟨split T.ok ok, ?_, split (fun q hq => ks_ _ (hst q hq)) ?_, split (fun q hq => ks_ _ (hfi q hq)) ?_, split (fun q hq => ?_) ?_, fun f hf => ?_, split (fun q hq => ?_) ?_, fun f hf n h => ?_, split (fun q hq => ?_) ?_, fun f hf => ?_⟩
  · rw [List.map_append, List.nodup_append]
    refine ⟨T.nP, by simp, fun x hx y hy e => ?_⟩
    have : y = p.name := by simpa using hy
    subst this; subst e; exact hn hx
  · rcases he with ⟨e, _, _⟩ | ⟨e, _, _⟩
    · rw [e]; exact hereK
    · rw [e]; exact thereK
  · rcases he with ⟨_, e, _⟩ | ⟨_, e, _⟩
    · rw [e]; exact thereK
    · rw [e]; exact hereK
  · rw [hp _ (hfi q hq), hp _ (hst q hq)]; exact T.pos q hq
  · rcases he with ⟨e1, e2, e3⟩ | ⟨e1, e2, e3⟩
    · rw [e1, e2]; exact e3
    · rw [e1, e2, e3]; grind
  · rcases (hk f).mp hf with rfl | rfl | hf
    · rw [hr']
      rcases he with ⟨e1, e2, _⟩ | ⟨e1, e2, _⟩
      · rw [← e2]; refine .fwd ?_ pm; rw [e1]; exact jhere
      · rw [← e1]; refine .bwd ?_ pm; rw [e2]; exact jhere
    · exact jhere
    · rw [hr f hf]; exact (T.rt f hf).more
  · rw [hr _ (hst q hq), hr _ (hfi q hq)]; exact T.rc q hq
  · rcases he with ⟨e1, e2, _⟩ | ⟨e1, e2, _⟩
    · rw [e1, e2]; exact hr'.symm
    · rw [e1, e2]; exact hr'
  · rw [List.map_append, List.mem_append]
    rcases (hk f).mp hf with rfl | rfl | hf
    · rw [hc'] at h
      rcases List.mem_append.mp h with h | h
      · exact .inl (hhere n h)
      · exact .inr (by simpa using h)
    · exact .inl (hhere n h)
    · exact .inl (hch1 f hf n h)
  · rw [hc _ (hfi q hq), hc _ (hst q hq)]; exact T.ch2 q hq
  · have hnot : p.name ∉ ch' here := fun h => hn (hhere _ h)
    rcases he with ⟨e1, e2, _⟩ | ⟨e1, e2, _⟩
    · rw [e1, e2]; exact .inl ⟨hc', hnot⟩
    · rw [e1, e2]; exact .inr ⟨hc', hnot⟩
  · rcases (hk f).mp hf with rfl | rfl | hf
    · exact ⟨here, hereK, hne, hr'.symm⟩
    · exact ⟨there, thereK, fun e => hne e.symm, hr'⟩
    · obtain ⟨g, h1, h2, h3⟩ := T.two f hf
      exact ⟨g, ks_ g h1, h2, by rw [hr g h1, hr f hf]; exact h3⟩
theorem mem_app1 {n m : Str} {l : List Str} : n ∈ l ++ [m] ↔ n ∈ l ∨ n = m := by simp
/-- each part alone changes whether it stands in a chain -/
theorem TreeI.mark {ps ks root pos ch} (T : TreeI ps ks root pos ch) (n : Str) : (∀ p ∈ ps, p.name = n → decide (n ∈ ch p.start) ≠ decide (n ∈ ch p.fin)) ∧ ∀ p ∈ ps, p.name ≠ n → decide (n ∈ ch p.start) = decide (n ∈ ch p.fin) := by
  refine ⟨fun p hp e => ?_, fun p hp e => ?_⟩
  · subst e
    rcases T.ch2 p hp with ⟨h1, h2⟩ | ⟨h1, h2⟩
    · rw [h1, decide_eq_false h2, decide_eq_true (mem_app1.mpr (.inr rfl))]; decide
    · rw [h1, decide_eq_false h2, decide_eq_true (mem_app1.mpr (.inr rfl))]; decide
  · have e' : ¬ n = p.name := fun h => e h.symm
    rcases T.ch2 p hp with ⟨h1, h2⟩ | ⟨h1, h2⟩
    · rw [h1]
      exact decide_eq_decide.mpr ⟨fun h => mem_app1.mpr (.inl h), fun h => (mem_app1.mp h).resolve_right e'⟩
    · rw [h1]
      exact decide_eq_decide.mpr ⟨fun h => (mem_app1.mp h).resolve_right e', fun h => mem_app1.mpr (.inl h)⟩
theorem TreeI.tree {ps ks root pos ch} (T : TreeI ps ks root pos ch) : ∀ pre x post, ps = pre ++ x :: post → ¬ JoinP pre x.start x.fin :=
  tree_of T.nP (fun n f => decide (n ∈ ch f)) (fun p hp => (T.mark p.name).1 p hp rfl) fun p hp q hq e => (T.mark p.name).2 q hq fun h => e h.symm
theorem TreeI.join {ps ks root pos ch} (T : TreeI ps ks root pos ch) {f g : Str} (h1 : f ∈ ks) (h2 : g ∈ ks) (h3 : root f = root g) : JoinP ps f g := by
  have j2 := T.rt _ h2
  rw [← h3] at j2
  exact (T.rt _ h1).symm.trans j2
/-- the parts on a way: those that stand in one end's chain alone -/
theorem TreeI.way {ps ks root pos ch} (T : TreeI ps ks root pos ch) {f g : Str} {w : List (Str × Bool)} (h : WalkP ps f w g) (nd : (w.map (·.1)).Nodup) (n : Str) : n ∈ w.map (·.1) ↔ ¬ (n ∈ ch f ↔ n ∈ ch g) := by
  rw [walk_names (fun f => decide (n ∈ ch f)) (T.mark n).1 (T.mark n).2 h nd]
  constructor
  · intro h1 h2; exact h1 (decide_eq_decide.mpr h2)
  · intro h1 h2; exact h1 (decide_eq_decide.mp h2)

/-! ### faces by their numbers, a table of them -/
section
variable {V : Type} {c st : Nat} {d : Dic Str V}
def FaceI (c st : Nat) (d : Dic Str V) : Prop := d.keys = (List.range d.l.length).map fun k => nmT c k st
theorem FaceI.empty : FaceI c st (⟨[]⟩ : Dic Str V) := rfl
theorem FaceI.fresh (h : FaceI c st d) : nmT c d.l.length st ∉ d.keys := by
  rw [show d.keys = _ from h]
  intro hm
  obtain ⟨k, hk, e⟩ := List.mem_map.mp hm
  have := nmT_inj e
  rw [List.mem_range] at hk
  omega
theorem FaceI.put (h : FaceI c st d) (v : V) : FaceI c st (d.put (nmT c d.l.length st) v) ∧ (d.put (nmT c d.l.length st) v).l.length = d.l.length + 1 := by
  have hl : (d.put (nmT c d.l.length st) v).l.length = d.l.length + 1 := by rw [Dic.put_new h.fresh, List.length_append]; rfl
  refine ⟨?_, hl⟩
  unfold FaceI
  rw [hl, Dic.keys_put_new h.fresh, List.range_succ, List.map_append, show d.keys = _ from h]; rfl
theorem FaceI.nd (h : FaceI c st d) : d.keys.Nodup := by
  rw [show d.keys = _ from h]
  exact List.pairwise_map.mpr ((List.nodup_range (n := d.l.length)).imp fun hne e => hne (nmT_inj e))
theorem FaceI.nm (h : FaceI c st d) (hl : d.l.length ≤ 26) (hc : 97 ≤ c ∧ c ≤ 122) (hs : st ≤ 3) : ∀ f ∈ d.keys, nameB f = true := by
  intro f hf
  rw [show d.keys = _ from h] at hf
  obtain ⟨k, hk, e⟩ := List.mem_map.mp hf
  rw [List.mem_range] at hk
  rw [← e]; exact nmT_ok hc (by omega) hs
variable (rV : V → Str) (pV : V → Rat)
def rtV (d : Dic Str V) (f : Str) : Str := ((d.get? f).map rV).getD f
def poV (d : Dic Str V) (f : Str) : Rat := ((d.get? f).map pV).getD 0
theorem rtV_put {f g : Str} {v : V} : rtV rV (d.put g v) f = if f = g then rV v else rtV rV d f := by
  unfold rtV; rw [Dic.get_put]; split <;> rfl
theorem poV_put {f g : Str} {v : V} : poV pV (d.put g v) f = if f = g then pV v else poV pV d f := by
  unfold poV; rw [Dic.get_put]; split <;> rfl
structure PI (st N S : Nat) (k : Nat) (ps : List PartV) (d : Dic Str V) (ch : Str → List Str) : Prop where
  fa : FaceI 102 st d
  len : d.l.length ≤ 2 * k
  pos_ : 0 < k → 0 < d.l.length
  nm : ps.map (·.name) = (List.range k).map fun j => nmT 112 j st
  T : TreeI ps d.keys (rtV rV d) (poV pV d) ch
  gs : ∀ p ∈ ps, Gd N S p.size
  gp : ∀ f ∈ d.keys, Gd N (k * S) (poV pV d f)
theorem PI.empty {st N S : Nat} {ch} : PI rV pV st N S 0 [] (⟨[]⟩ : Dic Str V) ch := ⟨.empty, Nat.le_refl _, fun h => absurd h (by decide), rfl, .empty, fun _ h => (nomatch h), fun _ h => (nomatch h)⟩
theorem PI.step {rV : V → Str} {pV : V → Rat} {st N S k : Nat} {ps : List PartV} {d d' : Dic Str V} {ch ch' : Str → List Str} {here : Str} {v v0 : V} {p : PartV} (I : PI rV pV st N S k ps d ch) (hk : k < 13) (hst : st ≤ 3)
    (hd : (d' = d ∧ here ∈ d.keys) ∨ (d' = d.put here v0 ∧ here = nmT 102 d.l.length st ∧ rV v0 = here ∧ pV v0 = 0)) (hs : Gd N S p.size) (hn : p.name = nmT 112 k st) (hm : 0 ≤ p.most) (hw : 0 < p.weight)
    (he : (p.start = here ∧ p.fin = nmT 102 d'.l.length st ∧ pV v = poV pV d' here + p.size) ∨ (p.start = nmT 102 d'.l.length st ∧ p.fin = here ∧ pV v = poV pV d' here - p.size)) (hr : rV v = rtV rV d' here)
    (hc : ∀ f ∈ d.keys, ch' f = ch f) (hc0 : here ∉ d.keys → ch' here = []) (hc1 : ch' (nmT 102 d'.l.length st) = ch' here ++ [p.name]) : PI rV pV st N S (k + 1) (ps ++ [p]) (d'.put (nmT 102 d'.l.length st) v) ch' := by
  have fa' : FaceI 102 st d' ∧ d'.l.length ≤ 2 * k + 1 ∧ here ∈ d'.keys ∧ (∀ f, f ∈ d'.keys ↔ f = here ∨ f ∈ d.keys) ∧ (∀ f ∈ d.keys, rtV rV d' f = rtV rV d f ∧ poV pV d' f = poV pV d f) ∧ (here ∉ d.keys → rtV rV d' here = here) ∧ Gd N (k * S) (poV pV d' here) ∧ 0 < d'.l.length := by
    rcases hd with ⟨rfl, hh⟩ | ⟨rfl, e, r0, p0⟩
    · refine ⟨I.fa, by have := I.len; omega, hh, fun f => ⟨.inr, fun h => h.elim (fun e => e ▸ hh) id⟩, fun _ _ => ⟨rfl, rfl⟩, fun h => absurd hh h, I.gp _ hh, ?_⟩
      have : d'.keys.length = d'.l.length := by simp
      rw [← this]; exact List.length_pos_of_mem hh
    · have hf := I.fa.fresh
      rw [← e] at hf
      obtain ⟨q1, q2⟩ := I.fa.put v0
      rw [← e] at q1 q2
      refine ⟨q1, by have := I.len; omega, Dic.mem_put.mpr (.inl rfl), fun f => Dic.mem_put, fun f h => ?_, fun _ => ?_, ?_, by omega⟩
      · have hne : f ≠ here := fun z => hf (z ▸ h)
        rw [rtV_put, poV_put, if_neg hne, if_neg hne]; exact ⟨rfl, rfl⟩
      · rw [rtV_put, if_pos rfl, r0]
      · rw [poV_put, if_pos rfl, p0]; exact Gd.zero.mono (Nat.zero_le _)
  obtain ⟨fa, len, hereK, keys, same, rt0, gp, lpos⟩ := fa'
  have fresh := fa.fresh
  obtain ⟨q1, q2⟩ := fa.put v
  have hne : here ≠ nmT 102 d'.l.length st := fun z => fresh (z ▸ hereK)
  have hlen := I.len
  have nmh : ∀ f ∈ d'.keys, nameB f = true := fa.nm (by omega) (by decide) hst
  have nmt : nameB (nmT 102 d'.l.length st) = true := nmT_ok (by decide) (by omega) hst
  have ok : OkP p := by
    have nmp : nameB p.name = true := by rw [hn]; exact nmT_ok (by decide) (by omega) hst
    rcases he with ⟨e1, e2, _⟩ | ⟨e1, e2, _⟩
    · exact ⟨nmp, by rw [e1]; exact nmh _ hereK, by rw [e2]; exact nmt, by rw [e1, e2]; exact hne, hm, hw⟩
    · exact ⟨nmp, by rw [e1]; exact nmt, by rw [e2]; exact nmh _ hereK, by rw [e1, e2]; exact hne.symm, hm, hw⟩
  have kS : k * S + S = (k + 1) * S := by rw [Nat.add_mul, Nat.one_mul]
  refine ⟨q1, by omega, fun _ => by omega, ?_, ?_, fun q hq => ?_, fun f hf => ?_⟩
  · rw [List.map_append, I.nm, List.range_succ, List.map_append]
    simp [hn]
  · refine I.T.add (here := here) (there := nmT 102 d'.l.length st) ok ?_ ?_ hne (fun f => ?_) (fun f hf => ?_) (fun f hf => ?_) hc (fun h => ⟨?_, hc0 h⟩) ?_ hc1 ?_
    · rw [I.nm, hn]
      intro hm
      obtain ⟨j, hj, e⟩ := List.mem_map.mp hm
      have := nmT_inj e
      rw [List.mem_range] at hj
      omega
    · exact fun h => fresh ((keys _).mpr (.inr h))
    · rw [Dic.mem_put, keys]
    · have : f ≠ nmT 102 d'.l.length st := fun z => fresh (z ▸ (keys f).mpr (.inr hf))
      rw [rtV_put, if_neg this]; exact (same f hf).1
    · have : f ≠ nmT 102 d'.l.length st := fun z => fresh (z ▸ (keys f).mpr (.inr hf))
      rw [poV_put, if_neg this]; exact (same f hf).2
    · rw [rtV_put, if_neg hne]; exact rt0 h
    · rw [rtV_put, if_pos rfl, rtV_put, if_neg hne]; exact hr
    · rw [poV_put, if_pos rfl, poV_put, if_neg hne]; exact he
  · rcases List.mem_append.mp hq with hq | hq
    · exact I.gs q hq
    · cases List.mem_singleton.mp hq; exact hs
  · rw [poV_put]
    split
    · rw [← kS]
      rcases he with ⟨_, _, e⟩ | ⟨_, _, e⟩
      · rw [e]; exact gp.add hs
      · rw [e]; exact gp.sub hs
    · rename_i hne2
      have hf' := (Dic.mem_put.mp hf).resolve_left hne2
      rw [← kS]
      refine Gd.mono ?_ (Nat.le_add_right _ S)
      rcases (keys f).mp hf' with rfl | h
      · exact gp
      · rw [(same f h).2]; exact I.gp f h
end
theorem rngL_at {lo : Int} {n : Nat} {pre post : List Int} {x : Int} (h : rngL lo n = pre ++ x :: post) : x = lo + pre.length ∧ pre.length < n := by
  have h1 := congrArg (·[pre.length]?) h
  have hlen := congrArg List.length h
  rw [rngL_len, List.length_append, List.length_cons] at hlen
  have hlt : pre.length < n := by omega
  refine ⟨?_, hlt⟩
  simp only [List.getElem?_append_right (Nat.le_refl _), Nat.sub_self, List.getElem?_cons_zero] at h1
  unfold rngL at h1
  rw [List.getElem?_map, List.getElem?_range hlt] at h1
  exact (Option.some.inj h1).symm
theorem sortS_mem {l : List Str} {x : Str} : x ∈ sortS l ↔ x ∈ l := (sortS_perm l).mem_iff
theorem sortS_len (l : List Str) : (sortS l).length = l.length := (sortS_perm l).length_eq
theorem toRat01 : toRat (0, 1) = .ok 0 := by rw [show ((0 : Int), (1 : Int)) = ((0 : Rat).num, ((0 : Rat).den : Int)) from rfl]; exact toRat_num 0
end TF


/-! PT5: a step of a drawn tree; a face drawn; lists drawn anew. -/
namespace TF
open PySem PySem.Spec PyProof.Rows L2 DL FR
open Enc KeyT
section
variable {V : Type} {rV : V → Str} {pV : V → Rat}
/-- the table with the face to go from -/
def FromI (rV : V → Str) (pV : V → Rat) (st : Nat) (d d' : Dic Str V) (here : Str) : Prop := (d' = d ∧ here ∈ d.keys) ∨ ∃ v0, d' = d.put here v0 ∧ here = nmT 102 d.l.length st ∧ rV v0 = here ∧ pV v0 = 0
theorem FromI.facts {st N S k : Nat} {ps : List PartV} {d d' : Dic Str V} {ch : Str → List Str} {here : Str} (h : FromI rV pV st d d' here) (I : PI rV pV st N S k ps d ch) :
    here ∈ d'.keys ∧ d'.l.length ≤ 2 * k + 1 ∧ FaceI 102 st d' ∧ (∀ f ∈ d.keys, f ∈ d'.keys) ∧ Gd N (k * S) (poV pV d' here) := by
  have := I.len
  rcases h with ⟨rfl, h⟩ | ⟨v0, rfl, e, r0, p0⟩
  · exact ⟨h, by omega, I.fa, fun _ h => h, I.gp _ h⟩
  · obtain ⟨q1, q2⟩ := I.fa.put v0
    rw [← e] at q1 q2
    exact ⟨Dic.mem_put.mpr (.inl rfl), by omega, q1, fun f h => Dic.mem_put.mpr (.inr h), by rw [poV_put, if_pos rfl, p0]; exact Gd.zero.mono (Nat.zero_le _)⟩
theorem PI.grow {st N S k : Nat} {ps : List PartV} {d d' : Dic Str V} {ch : Str → List Str} {here : Str} {v : V} {p : PartV} (I : PI rV pV st N S k ps d ch) (hk : k < 13) (hst : st ≤ 3) (hd : FromI rV pV st d d' here)
    (hs : Gd N S p.size) (hn : p.name = nmT 112 k st) (hm : 0 ≤ p.most) (hw : 0 < p.weight)
    (he : (p.start = here ∧ p.fin = nmT 102 d'.l.length st ∧ pV v = poV pV d' here + p.size) ∨ (p.start = nmT 102 d'.l.length st ∧ p.fin = here ∧ pV v = poV pV d' here - p.size)) (hr : rV v = rtV rV d' here) :
    ∃ ch', PI rV pV st N S (k + 1) (ps ++ [p]) (d'.put (nmT 102 d'.l.length st) v) ch' := by
  obtain ⟨f1, f2, f3, f4, f5⟩ := hd.facts I
  have hnt : ∀ f ∈ d'.keys, f ≠ nmT 102 d'.l.length st := fun f h e => f3.fresh (e ▸ h)
  have hd2 : ∃ v0, (d' = d ∧ here ∈ d.keys) ∨ (d' = d.put here v0 ∧ here = nmT 102 d.l.length st ∧ rV v0 = here ∧ pV v0 = 0) := by
    rcases hd with h | ⟨v0, h⟩
    · exact ⟨v, .inl h⟩
    · exact ⟨v0, .inr h⟩
  obtain ⟨v0, hd2⟩ := hd2
  refine ⟨fun f => if f = nmT 102 d'.l.length st then (if here ∈ d.keys then ch here else []) ++ [p.name] else if f ∈ d.keys then ch f else [], I.step hk hst hd2 hs hn hm hw he hr (fun f h => ?_) (fun h => ?_) ?_⟩
  · show (if _ then _ else _) = _
    rw [if_neg (hnt f (f4 f h)), if_pos h]
  · show (if _ then _ else _) = _
    rw [if_neg (hnt here f1), if_neg h]
  · show (if _ then _ else _) = _
    rw [if_pos rfl]
    congr 1
    show _ = (if _ then _ else _)
    rw [if_neg (hnt here f1)]
/-- .. with the chains told by the table -/
theorem PI.growC {cV : V → List Str} {st N S k : Nat} {ps : List PartV} {d d' : Dic Str V} {here : Str} {v v0 : V} {p : PartV} (I : PI rV pV st N S k ps d (fun f => ((d.get? f).map cV).getD [])) (hk : k < 13) (hst : st ≤ 3)
    (hd : (d' = d ∧ here ∈ d.keys) ∨ (d' = d.put here v0 ∧ here = nmT 102 d.l.length st ∧ rV v0 = here ∧ pV v0 = 0 ∧ cV v0 = []))
    (hs : Gd N S p.size) (hn : p.name = nmT 112 k st) (hm : 0 ≤ p.most) (hw : 0 < p.weight)
    (he : (p.start = here ∧ p.fin = nmT 102 d'.l.length st ∧ pV v = poV pV d' here + p.size) ∨ (p.start = nmT 102 d'.l.length st ∧ p.fin = here ∧ pV v = poV pV d' here - p.size)) (hr : rV v = rtV rV d' here)
    (hc : cV v = ((d'.get? here).map cV).getD [] ++ [p.name]) :
    PI rV pV st N S (k + 1) (ps ++ [p]) (d'.put (nmT 102 d'.l.length st) v) (fun f => (((d'.put (nmT 102 d'.l.length st) v).get? f).map cV).getD []) := by
  have hd' : FromI rV pV st d d' here := by
    rcases hd with h | ⟨h1, h2, h3, h4, _⟩
    · exact .inl h
    · exact .inr ⟨v0, h1, h2, h3, h4⟩
  obtain ⟨f1, f2, f3, f4, f5⟩ := hd'.facts I
  have hnt : ∀ f ∈ d'.keys, f ≠ nmT 102 d'.l.length st := fun f h e => f3.fresh (e ▸ h)
  refine I.step (v0 := v0) hk hst (hd.imp id fun h => ⟨h.1, h.2.1, h.2.2.1, h.2.2.2.1⟩) hs hn hm hw he hr (fun f h => ?_) (fun h => ?_) ?_
  · show ((Dic.get? _ f).map cV).getD [] = ((d.get? f).map cV).getD []
    rw [Dic.get_put, if_neg (hnt f (f4 f h))]
    rcases hd with ⟨rfl, _⟩ | ⟨rfl, e, _⟩
    · rfl
    · rw [Dic.get_put, if_neg]
      intro z
      have := I.fa.fresh
      rw [← e] at this
      exact this (z ▸ h)
  · show ((Dic.get? _ here).map cV).getD [] = []
    rw [Dic.get_put, if_neg (hnt here f1)]
    rcases hd with ⟨rfl, h2⟩ | ⟨rfl, e, _, _, h5⟩
    · exact absurd h2 h
    · rw [Dic.get_put, if_pos rfl]; exact h5
  · show ((Dic.get? _ _).map cV).getD [] = ((Dic.get? _ here).map cV).getD [] ++ [p.name]
    rw [Dic.get_put, if_pos rfl, Dic.get_put, if_neg (hnt here f1)]
    exact hc
end
/-! ### ways walked anew -/
inductive WalkC (ps : List PartV) : Str → List (Str × Bool) → Str → Prop
  | nil (f) : WalkC ps f [] f
  | cons {f s g w h} : StepP ps f s g → WalkC ps g w h → WalkC ps f (s :: w) h
theorem WalkC.snoc {ps : List PartV} {f w g s h} (a : WalkC ps f w g) (b : StepP ps g s h) : WalkC ps f (w ++ [s]) h := by
  induction a with
  | nil => exact .cons b (.nil _)
  | cons x _ ih => exact .cons x (ih b)
end TF


/-! PS0: slack shared: sums, levels. -/
namespace TF
open PySem PySem.Spec PyProof.Rows L2 DL FR
open Enc KeyT
abbrev RowV := T3 Str Rat (List Str)
theorem Gd.div {N M : Nat} {q : Rat} {m : Int} (h : Gd N M q) (hm : 0 < m) : Gd (N * m.toNat) M (q / (m : Rat)) := by
  obtain ⟨⟨k, hk⟩, h2, h3⟩ := h
  have hm0 : (0 : Rat) < (m : Rat) := by have := Rat.intCast_lt_intCast.mpr hm; simpa using this
  have hne : (m : Rat) ≠ 0 := by grind
  have hm1 : (1 : Rat) ≤ (m : Rat) := by have := Rat.intCast_le_intCast.mpr (show (1 : Int) ≤ m by omega); simpa using this
  have hx : q / (m : Rat) * (m : Rat) = q := Rat.div_mul_cancel hne
  have em : ((m.toNat : Nat) : Rat) = (m : Rat) := by
    rw [← Rat.intCast_natCast]; congr 1; omega
  have hM : (0 : Rat) ≤ (M : Rat) := Rat.natCast_nonneg
  have hMm : (M : Rat) * 1 ≤ (M : Rat) * (m : Rat) := Rat.mul_le_mul_of_nonneg_left hm1 hM
  refine ⟨⟨k, ?_⟩, ?_, ?_⟩
  · rw [Rat.natCast_mul, em]; grind
  · refine Rat.not_lt.mp fun hlt => ?_
    have := Rat.mul_lt_mul_of_pos_right hlt hm0
    grind
  · refine Rat.not_lt.mp fun hlt => ?_
    have := Rat.mul_lt_mul_of_pos_right hlt hm0
    grind
theorem Gd.up {N N' M : Nat} {q : Rat} (h : Gd N M q) (hd : N ∣ N') : Gd N' M q := by
  obtain ⟨⟨k, hk⟩, h2, h3⟩ := h
  obtain ⟨c, rfl⟩ := hd
  refine ⟨⟨k * c, ?_⟩, h2, h3⟩
  rw [Rat.natCast_mul, Rat.intCast_mul, Rat.intCast_natCast]
  grind
/-! ### sums -/
def sumV (d : Dic Str Rat) (ns : List Str) : Rat := (ns.map fun n => (d.get? n).getD 0).sum
theorem sumV_nil {d : Dic Str Rat} : sumV d [] = 0 := rfl
theorem sumV_cons {d : Dic Str Rat} {n : Str} {ns : List Str} : sumV d (n :: ns) = (d.get? n).getD 0 + sumV d ns := by unfold sumV; simp
theorem sumV_snoc {d : Dic Str Rat} {n : Str} {ns : List Str} : sumV d (ns ++ [n]) = sumV d ns + (d.get? n).getD 0 := by
  induction ns with
  | nil => rw [List.nil_append, sumV_cons, sumV_nil]; grind
  | cons x ns ih => rw [List.cons_append, sumV_cons, ih, sumV_cons]; grind
theorem Gd.sumV {N M : Nat} {d : Dic Str Rat} (h : ∀ n s, d.get? n = some s → Gd N M s) : ∀ ns : List Str, Gd N (ns.length * M) (sumV d ns)
  | [] => by rw [sumV_nil]; exact Gd.zero.mono (Nat.zero_le _)
  | n :: ns => by
    rw [sumV_cons, List.length_cons, Nat.add_mul, Nat.one_mul, Nat.add_comm]
    refine Gd.add ?_ (Gd.sumV h ns)
    cases e : d.get? n with
    | none => exact Gd.zero.mono (Nat.zero_le _)
    | some s => exact h n s e
theorem sum_of_ok {N M : Nat} {d : Dic Str Rat} {ns : List Str} (h : ∀ n s, d.get? n = some s → Gd N M s) (hN : 0 < N) (hM : (ns.length * M + M) * N < 2 ^ 3000) (hN2 : N < 2 ^ 3000) : F_sum_of d ns = .ok (sumV d ns) := by
  unfold F_sum_of
  simp only [R.ok_bind, R.exc_bind, R.bad_bind, R.bind_assoc, R.noexc_ok, R.b2, R.map, R.cond, R.flow, addI, subI, andB, orB, unw_some, unw_none, few_nil, ofRat, isCls, Option.isNone_none, Option.isNone_some, Bool.not_true, Bool.not_false, Bool.false_eq_true, if_true, if_false]
  rw [toRat01, R.ok_bind]
  have key : (foldR ns (0 : Rat) fun x_4 st_5 => (R.ok 0).bind fun a => (F_plus st_5 ((d.get? x_4).getD a)).bind fun total_18 => R.ok total_18).sat fun q => q = sumV d ns := by
    refine foldR_ind (fun pre (q : Rat) => q = sumV d pre) ?_ rfl
    rintro pre x post q e rfl
    have hl : pre.length < ns.length := by rw [e, List.length_append, List.length_cons]; omega
    rw [R.ok_bind]
    unfold F_plus
    have hle : ∀ a, a ≤ ns.length * M + M → a * N < 2 ^ 3000 := fun a ha => Nat.lt_of_le_of_lt (Nat.mul_le_mul_right _ ha) hM
    have g1 := Gd.sumV h pre
    have s1 : Sm (sumV d pre) := g1.sm hN (hle _ (Nat.le_trans (Nat.mul_le_mul_right _ (Nat.le_of_lt hl)) (Nat.le_add_right _ _))) hN2
    have g2 : Gd N M ((d.get? x).getD 0) := by
      cases e : d.get? x with
      | none => exact Gd.zero.mono (Nat.zero_le _)
      | some s => exact h x s e
    have s2 : Sm ((d.get? x).getD 0) := g2.sm hN (hle _ (Nat.le_add_left _ _)) hN2
    rw [if_pos ⟨s1, s2⟩, R.ok_bind]
    exact sat_ok sumV_snoc.symm
  obtain ⟨q, e, rfl⟩ := key
  rw [e]; rfl
/-! ### the least -/
theorem least_ok {l : List Rat} (hne : l ≠ []) (hs : ∀ q ∈ l, Sm q) (hl : l.length < 1000000) : (F_least_of l).sat fun m => m ∈ l ∧ ∀ q ∈ l, m ≤ q := by
  cases l with
  | nil => exact absurd rfl hne
  | cons x l =>
    unfold F_least_of
    simp only [R.ok_bind, R.exc_bind, R.bad_bind, R.bind_assoc, R.noexc_ok, R.b2, R.map, R.cond, R.flow, addI, subI, andB, orB, unw_some, unw_none, few_nil, ofRat, isCls, Option.isNone_none, Option.isNone_some, Bool.not_true, Bool.not_false, Bool.false_eq_true, if_true, if_false]
    have e0 : ixL (x :: l) 0 = .ok x := ixL_ok (by omega) (by simp)
    rw [e0, R.ok_bind, cut_from (by omega)]
    have e1 : (x :: l).drop (1 : Int).toNat = l := rfl
    rw [e1]
    refine sat_bind (foldR_ind (fun pre (m : Rat) => m ∈ x :: l ∧ m ≤ x ∧ ∀ q ∈ pre, m ≤ q) ?_ ⟨List.mem_cons_self, Rat.le_refl, fun q h => nomatch h⟩) ?_
    · rintro pre y post m e ⟨h1, h2, h3⟩
      have hy : y ∈ x :: l := List.mem_cons_of_mem _ (by rw [e]; exact List.mem_append_right _ List.mem_cons_self)
      unfold F_under
      rw [if_pos ⟨hs y hy, hs m h1⟩, R.ok_bind]
      by_cases hlt : y < m
      · rw [decide_eq_true hlt, if_pos rfl]
        refine sat_ok ⟨hy, by grind, fun q hq => ?_⟩
        rcases List.mem_append.mp hq with hq | hq
        · have := h3 q hq; grind
        · rw [List.mem_singleton.mp hq]; exact Rat.le_refl
      · rw [decide_eq_false hlt, if_neg (by decide)]
        refine sat_ok ⟨h1, h2, fun q hq => ?_⟩
        rcases List.mem_append.mp hq with hq | hq
        · exact h3 q hq
        · rw [List.mem_singleton.mp hq]; exact Rat.not_lt.mp hlt
    · rintro m ⟨h1, h2, h3⟩
      refine sat_ok ⟨h1, fun q hq => ?_⟩
      rcases List.mem_cons.mp hq with rfl | hq
      · exact h2
      · exact h3 q hq
/-! ### what stands ready -/
structure ShC (N M : Nat) (ps : List PartV) (rows : List RowV) (wd : Dic Str Int) : Prop where
  nP : (ps.map (·.name)).Nodup
  ok : ∀ p ∈ ps, OkP p
  lp : ps.length ≤ 30
  lr : rows.length ≤ 1000
  rn : ∀ r ∈ rows, r.c.Nodup
  rs : ∀ r ∈ rows, ∀ n ∈ r.c, ∃ p ∈ ps, p.name = n
  rb : ∀ r ∈ rows, 0 ≤ r.b
  wt : ∀ p ∈ ps, wd.get? p.name = some p.weight
  wle : ∀ p ∈ ps, p.weight ≤ 10 ^ 6
  gr : ∀ r ∈ rows, Gd N M r.b
  gm : ∀ p ∈ ps, Gd N M p.most
  Np : 0 < N
  Mp : 0 < M
  big : 100 * M * (N * (30 * 10 ^ 6) ^ 31) < 2 ^ 3000
theorem nodup_sub_len {l m : List Str} (h : l.Nodup) (hs : ∀ x ∈ l, x ∈ m) : l.length ≤ m.length := by
  induction l generalizing m with
  | nil => exact Nat.zero_le _
  | cons x l ih =>
    rw [List.nodup_cons] at h
    have hx := hs x List.mem_cons_self
    obtain ⟨a, b, rfl⟩ := List.append_of_mem hx
    have := ih (m := a ++ b) h.2 fun y hy => by
      have hy' := hs y (List.mem_cons_of_mem _ hy)
      rcases List.mem_append.mp hy' with h1 | h1
      · exact List.mem_append_left _ h1
      · rcases List.mem_cons.mp h1 with rfl | h1
        · exact absurd hy h.1
        · exact List.mem_append_right _ h1
    rw [List.length_append] at this ⊢
    rw [List.length_cons, List.length_cons]; omega
theorem ShC.rl {N M ps rows wd} (S : ShC N M ps rows wd) {r : RowV} (hr : r ∈ rows) : r.c.length ≤ 30 := by
  refine Nat.le_trans (nodup_sub_len (m := ps.map (·.name)) (S.rn r hr) fun n hn => ?_) (by rw [List.length_map]; exact S.lp)
  obtain ⟨p, hp, e⟩ := S.rs r hr n hn
  exact List.mem_map.mpr ⟨p, hp, e⟩
/-- the weights of a row that still rise -/
def manyV (wd : Dic Str Int) (d : Dic Str Rat) (ns : List Str) : Int := ((ns.filter fun n => decide (n ∉ d.keys)).map fun n => (wd.get? n).getD 0).sum
theorem manyV_nil {wd : Dic Str Int} {d : Dic Str Rat} : manyV wd d [] = 0 := rfl
theorem manyV_cons {wd : Dic Str Int} {d : Dic Str Rat} {n : Str} {ns : List Str} : manyV wd d (n :: ns) = (if n ∈ d.keys then 0 else (wd.get? n).getD 0) + manyV wd d ns := by
  unfold manyV
  rw [List.filter_cons]
  by_cases h : n ∈ d.keys
  · simp [h]
  · simp [h]
theorem manyV_ge {wd : Dic Str Int} {d : Dic Str Rat} : ∀ {ns : List Str}, (∀ n ∈ ns, 1 ≤ (wd.get? n).getD 0 ∧ (wd.get? n).getD 0 ≤ 10 ^ 6) → 0 ≤ manyV wd d ns ∧ manyV wd d ns ≤ ns.length * 10 ^ 6 ∧ ((∃ n ∈ ns, n ∉ d.keys) → 0 < manyV wd d ns) ∧ (manyV wd d ns = 0 → ∀ n ∈ ns, n ∈ d.keys)
  | [], _ => ⟨Int.le_refl _, by simp [manyV_nil], fun ⟨n, h, _⟩ => (nomatch h), fun _ n h => (nomatch h)⟩
  | n :: ns, h => by
    obtain ⟨i1, i2, i3, i4⟩ := manyV_ge (d := d) (ns := ns) fun m hm => h m (List.mem_cons_of_mem _ hm)
    have hn := h n List.mem_cons_self
    rw [manyV_cons, List.length_cons]
    by_cases hk : n ∈ d.keys
    · rw [if_pos hk]
      refine ⟨by omega, by omega, fun ⟨m, hm, hm2⟩ => ?_, fun hz m hm => ?_⟩
      · rcases List.mem_cons.mp hm with rfl | hm
        · exact absurd hk hm2
        · have := i3 ⟨m, hm, hm2⟩; omega
      · rcases List.mem_cons.mp hm with rfl | hm
        · exact hk
        · exact i4 (by omega) m hm
    · rw [if_neg hk]
      exact ⟨by omega, by omega, fun _ => by omega, fun hz => by omega⟩
end TF


/-! PS1: one round of the levels. -/
namespace TF
open PySem PySem.Spec PyProof.Rows L2 DL FR
open Enc KeyT
theorem intPosR {m : Int} (h : 0 < m) : (0 : Rat) < (m : Rat) := by have := Rat.intCast_lt_intCast.mpr h; simpa using this
theorem intNonnegR {m : Int} (h : 0 ≤ m) : (0 : Rat) ≤ (m : Rat) := by have := Rat.intCast_le_intCast.mpr h; simpa using this
/-! ### a row's level -/
abbrev BL : Nat := 30 * 10 ^ 6
structure SI (N M : Nat) (ps : List PartV) (rows : List RowV) (wd : Dic Str Int) (N' : Nat) (d : Dic Str Rat) (L : Rat) : Prop where
  dn : d.keys.Nodup
  ds : ∀ n ∈ d.keys, ∃ p ∈ ps, p.name = n
  L0 : 0 ≤ L
  np : 0 < N'
  dv : N ∣ N'
  nb : N' ≤ N * BL ^ d.keys.length
  nb2 : ∀ W : Nat, 1 ≤ W → (∀ p ∈ ps, p.weight ≤ (W : Int)) → (∀ r ∈ rows, ∀ e : Dic Str Rat, manyV wd e r.c ≤ (W : Int)) → N' ≤ N * W ^ d.keys.length
  gd : ∀ n s, d.get? n = some s → Gd N' M s
  st : ∀ p ∈ ps, ∀ s, d.get? p.name = some s → 0 ≤ s ∧ s ≤ p.most ∧ s ≤ (p.weight : Rat) * L ∧ (s = p.most ∨ ∃ r ∈ rows, p.name ∈ r.c ∧ (∀ n ∈ r.c, n ∈ d.keys) ∧ sumV d r.c = r.b ∧ ∀ p' ∈ ps, p'.name ∈ r.c → ∀ s', d.get? p'.name = some s' → (p.weight : Rat) * s' ≤ (p'.weight : Rat) * s)
  ri : ∀ p ∈ ps, p.name ∉ d.keys → (p.weight : Rat) * L ≤ p.most
  rw : ∀ r ∈ rows, sumV d r.c + L * (manyV wd d r.c : Rat) ≤ r.b
theorem pow_le {a b : Nat} (h : a ≤ b) : BL ^ a ≤ BL ^ b := Nat.pow_le_pow_right (by decide) h
section
variable {N M : Nat} {ps : List PartV} {rows : List RowV} {wd : Dic Str Int}
/-- numbers that stay small -/
theorem ShC.small (S : ShC N M ps rows wd) {N' K : Nat} {q : Rat} (h : Gd N' K q) (hp : 0 < N') (hN : N' ≤ N * BL ^ 31) (hK : K ≤ 100 * M) : Sm q := by
  have b := S.big
  have hM := S.Mp
  refine h.sm hp (Nat.lt_of_le_of_lt (Nat.mul_le_mul hK hN) b) (Nat.lt_of_le_of_lt (Nat.le_trans hN ?_) b)
  exact Nat.le_mul_of_pos_left _ (by omega)
theorem ShC.wpos (S : ShC N M ps rows wd) {p : PartV} (hp : p ∈ ps) : 0 < p.weight := (S.ok p hp).w
theorem ShC.wts (S : ShC N M ps rows wd) {r : RowV} (hr : r ∈ rows) : ∀ n ∈ r.c, 1 ≤ (wd.get? n).getD 0 ∧ (wd.get? n).getD 0 ≤ 10 ^ 6 := by
  intro n hn
  obtain ⟨p, hp, rfl⟩ := S.rs r hr n hn
  rw [S.wt p hp]
  exact ⟨S.wpos hp, S.wle p hp⟩
theorem ShC.many (S : ShC N M ps rows wd) {r : RowV} (hr : r ∈ rows) (d : Dic Str Rat) : 0 ≤ manyV wd d r.c ∧ manyV wd d r.c ≤ BL := by
  obtain ⟨h1, h2, _⟩ := manyV_ge (d := d) (S.wts hr)
  have := S.rl hr
  refine ⟨h1, ?_⟩
  have : ((r.c.length : Nat) : Int) * 10 ^ 6 ≤ 30 * 10 ^ 6 := by omega
  exact Int.le_trans h2 this
theorem SI.keyl (S : ShC N M ps rows wd) {N' d L} (I : SI N M ps rows wd N' d L) : d.keys.length ≤ ps.length := by
  have := nodup_sub_len I.dn (m := ps.map (·.name)) fun n hn => by
    obtain ⟨p, hp, e⟩ := I.ds n hn
    exact List.mem_map.mpr ⟨p, hp, e⟩
  have e : (ps.map (·.name)).length = ps.length := List.length_map ..
  rw [e] at this
  exact this
theorem SI.nb30 (S : ShC N M ps rows wd) {N' d L} (I : SI N M ps rows wd N' d L) : N' ≤ N * BL ^ 31 :=
  Nat.le_trans I.nb (Nat.mul_le_mul_left _ (pow_le (Nat.le_trans (I.keyl S) (Nat.le_trans S.lp (by decide)))))
theorem SI.gsum (S : ShC N M ps rows wd) {N' d L} (I : SI N M ps rows wd N' d L) {r : RowV} (hr : r ∈ rows) : Gd N' (30 * M) (sumV d r.c) :=
  (Gd.sumV I.gd r.c).mono (Nat.mul_le_mul_right _ (S.rl hr))
theorem SI.sum (S : ShC N M ps rows wd) {N' d L} (I : SI N M ps rows wd N' d L) {r : RowV} (hr : r ∈ rows) : F_sum_of d r.c = .ok (sumV d r.c) := by
  have b := S.big
  have hM := S.Mp
  refine sum_of_ok I.gd I.np (Nat.lt_of_le_of_lt (Nat.mul_le_mul ?_ (I.nb30 S)) b) (Nat.lt_of_le_of_lt (Nat.le_trans (I.nb30 S) ?_) b)
  · have := Nat.mul_le_mul_right M (S.rl hr)
    omega
  · exact Nat.le_mul_of_pos_left _ (by omega)
end
end TF


/-! PS2: one round of the levels: its law. -/
namespace TF
open PySem PySem.Spec PyProof.Rows L2 DL FR
open Enc KeyT
section
variable {N M : Nat} {ps : List PartV} {rows : List RowV} {wd : Dic Str Int}
theorem compR_filter {α : Type} [Enc α] {c : α → R Bool} (p : α → Bool) {l : List α} (hc : ∀ x ∈ l, c x = .ok (p x)) (hl : l.length < 1000000) : compR c (fun x => R.ok x) l [] = .ok (l.filter p) := by
  have := compR_ok (f := fun x : α => R.ok x) p (fun x => x) l [] hc (fun _ _ _ => rfl) (by simpa using hl)
  rw [this, List.nil_append, List.map_id']
end
end TF


/-! PS3: the levels rise: slacks_of. -/
namespace TF
open PySem PySem.Spec PyProof.Rows L2 DL FR
open Enc KeyT
section
variable {N M : Nat} {ps : List PartV} {rows : List RowV} {wd : Dic Str Int}
/-- what the shares are -/
structure Shared (N M : Nat) (ps : List PartV) (rows : List RowV) (d : Dic Str Rat) : Prop where
  si : ∃ N' L wd, SI N M ps rows wd N' d L
  dom : ∀ p ∈ ps, ∃ s, d.get? p.name = some s
theorem SI.start (S : ShC N M ps rows wd) : SI N M ps rows wd N ⟨[]⟩ 0 where
  dn := List.nodup_nil
  ds := fun _ h => nomatch h
  L0 := Rat.le_refl
  np := S.Np
  dv := Nat.dvd_refl _
  nb := by show N ≤ N * BL ^ 0; rw [Nat.pow_zero, Nat.mul_one]; exact Nat.le_refl _
  nb2 := fun W _ _ _ => by show N ≤ N * W ^ 0; rw [Nat.pow_zero, Nat.mul_one]; exact Nat.le_refl _
  gd := fun _ _ h => nomatch h
  st := fun _ _ _ h => nomatch h
  ri := fun p hp _ => by have := (S.ok p hp).most; grind
  rw := fun r hr => by
    have e : ∀ ns : List Str, sumV (⟨[]⟩ : Dic Str Rat) ns = 0 := fun ns => by
      induction ns with
      | nil => rfl
      | cons n ns ih => rw [sumV_cons, ih]; show (0 : Rat) + 0 = 0; grind
    have := S.rb r hr
    rw [e]; grind
end
end TF


/-! PS4: share. -/
namespace TF
open PySem PySem.Spec PyProof.Rows L2 DL FR
open Enc KeyT
def dV (d : Dic Str Rat) (n : Str) : Rat := (d.get? n).getD 0
def wdV (ps : List PartV) : Dic Str Int := ⟨ps.map fun p => (p.name, p.weight)⟩
structure Fin (N M : Nat) (ps : List PartV) (rows : List RowV) (wd : Dic Str Int) (d : Dic Str Rat) : Prop where
  si : ∃ N' L, SI N M ps rows wd N' d L
  dom : ∀ p ∈ ps, d.get? p.name = some (dV d p.name)
section
variable {N M : Nat} {ps : List PartV} {rows : List RowV} {wd : Dic Str Int} {d : Dic Str Rat}
theorem Fin.sm (S : ShC N M ps rows wd) (F : Fin N M ps rows wd d) {p : PartV} (hp : p ∈ ps) : Sm (dV d p.name) ∧ Sm (dV d p.name / (p.weight : Rat)) := by
  obtain ⟨N', L, I⟩ := F.si
  have hM := S.Mp
  have g := I.gd _ _ (F.dom p hp)
  refine ⟨S.small g I.np (I.nb30 S) (by omega), ?_⟩
  have hw := S.wpos hp
  have hwl := S.wle p hp
  refine S.small (g.div hw) (Nat.mul_pos I.np (by omega)) ?_ (by omega)
  have h1 : N' ≤ N * BL ^ 30 := Nat.le_trans I.nb (Nat.mul_le_mul_left _ (pow_le (Nat.le_trans (I.keyl S) S.lp)))
  have h2 : p.weight.toNat ≤ BL := by show _ ≤ 30 * 10 ^ 6; omega
  have := Nat.mul_le_mul h1 h2
  rwa [Nat.mul_assoc, ← Nat.pow_succ] at this
structure ShT (N M : Nat) (ps : List PartV) (gs : List GapV) (t : ThingV) (rows : List RowV) : Prop where
  T : ThOk ps gs t
  R : F_gap_rows t = .ok rows
  S : ShC N M ps rows (wdV ps)
end
end TF


/-! PT6: parts drawn with chains in the table (the draw of k54, k55). -/
namespace TF
open PySem PySem.Spec PyProof.Rows L2 DL FR
open Enc KeyT
abbrev SpV := T3 Str Rat (List Str)
abbrev cR : SpV → Str := fun v => v.a
abbrev cP : SpV → Rat := fun v => v.b
abbrev cC : SpV → List Str := fun v => v.c
abbrev chV (d : Dic Str SpV) (f : Str) : List Str := ((d.get? f).map cC).getD []
theorem divI_nonneg {a b : Int} (h : 0 ≤ a) (hb : 0 < b) : 0 ≤ Rat.divInt a b := by
  rw [Rat.divInt_eq_div]
  have hb0 := intPosR hb
  have h1 := intNonnegR h
  refine Rat.not_lt.mp fun hlt => ?_
  have := Rat.mul_lt_mul_of_pos_right hlt hb0
  have x1 : (a : Rat) / (b : Rat) * (b : Rat) = (a : Rat) := Rat.div_mul_cancel (by grind)
  grind
abbrev NQ : Nat := 27720
abbrev SQ : Nat := 10 ^ 40
abbrev MQ : Nat := 10 ^ 30
/-- parts drawn so far -/
structure PI3 (st k : Nat) (ps : List PartV) (d : Dic Str SpV) : Prop where
  I : PI cR cP st NQ SQ k ps d (chV d)
  cn : ∀ f, (chV d f).Nodup
  gm : ∀ p ∈ ps, Gd NQ MQ p.most
  wl : ∀ p ∈ ps, p.weight ≤ 10 ^ 6
theorem PI3.empty {st : Nat} : PI3 st 0 [] ⟨[]⟩ := ⟨.empty _ _, fun _ => List.nodup_nil, fun _ h => (nomatch h), fun _ h => (nomatch h)⟩
/-- one step of the draw -/
theorem PI3.next {st k : Nat} {ps : List PartV} {d d' : Dic Str SpV} {here : Str} {p : PartV} (J : PI3 st k ps d) (hk : k < 13) (hst : st ≤ 3) (hd : (d' = d ∧ here ∈ d.keys) ∨ (d' = d.put here (T3.mk here 0 []) ∧ here = nmT 102 d.l.length st))
    {v : SpV} (hv : d'.get? here = some v) {pl : Rat} (hs : Gd NQ SQ p.size) (hn : p.name = nmT 112 k st) (hm : Gd NQ MQ p.most) (hm0 : 0 ≤ p.most) (hw : 0 < p.weight) (hwl : p.weight ≤ 10 ^ 6)
    (he : (p.start = here ∧ p.fin = nmT 102 d'.l.length st ∧ pl = v.b + p.size) ∨ (p.start = nmT 102 d'.l.length st ∧ p.fin = here ∧ pl = v.b - p.size)) :
    PI3 st (k + 1) (ps ++ [p]) (d'.put (nmT 102 d'.l.length st) (T3.mk v.a pl (v.c ++ [p.name]))) := by
  have e1 : poV cP d' here = v.b := by unfold poV; rw [hv]; rfl
  have e2 : rtV cR d' here = v.a := by unfold rtV; rw [hv]; rfl
  have e3 : chV d' here = v.c := by unfold chV; rw [hv]; rfl
  have hd2 : (d' = d ∧ here ∈ d.keys) ∨ (d' = d.put here (T3.mk here 0 []) ∧ here = nmT 102 d.l.length st ∧ cR (T3.mk here 0 []) = here ∧ cP (T3.mk here 0 []) = 0 ∧ cC (T3.mk here 0 []) = []) := hd.imp id fun h => ⟨h.1, h.2, rfl, rfl, rfl⟩
  have cn' : ∀ f, (chV d' f).Nodup ∧ ∀ n ∈ chV d' f, n ∈ ps.map (·.name) := fun f => by
    have old : ∀ f, ∀ n ∈ chV d f, n ∈ ps.map (·.name) := fun f n hn => by
      by_cases hf : f ∈ d.keys
      · exact J.I.T.ch1 f hf n hn
      · unfold chV at hn; rw [Dic.none_iff.mpr hf] at hn; exact nomatch hn
    rcases hd with ⟨rfl, _⟩ | ⟨rfl, _⟩
    · exact ⟨J.cn f, old f⟩
    · by_cases hf : f = here
      · unfold chV; rw [Dic.get_put, if_pos hf]; exact ⟨List.nodup_nil, fun _ h => nomatch h⟩
      · have : chV (d.put here (T3.mk here 0 [])) f = chV d f := by unfold chV; rw [Dic.get_put, if_neg hf]
        rw [this]; exact ⟨J.cn f, old f⟩
  refine ⟨J.I.growC (v0 := T3.mk here 0 []) (here := here) hk hst hd2 hs hn hm0 hw ?_ e2.symm (by show v.c ++ _ = chV d' here ++ _; rw [e3]), fun f => ?_, fun q hq => ?_, fun q hq => ?_⟩
  · rw [e1]; exact he
  · by_cases hf : f = nmT 102 d'.l.length st
    · unfold chV; rw [Dic.get_put, if_pos hf]
      obtain ⟨h1, h2⟩ := cn' here
      rw [e3] at h1 h2
      show (v.c ++ [p.name]).Nodup
      refine List.nodup_append.mpr ⟨h1, by simp, fun a ha b hb e => ?_⟩
      have hb := List.mem_singleton.mp hb
      subst e
      have := h2 a ha
      rw [hb, hn, J.I.nm] at this
      obtain ⟨j, hj, e⟩ := List.mem_map.mp this
      have := nmT_inj e
      rw [List.mem_range] at hj
      omega
    · have : chV (d'.put (nmT 102 d'.l.length st) (T3.mk v.a pl (v.c ++ [p.name]))) f = chV d' f := by unfold chV; rw [Dic.get_put, if_neg hf]
      rw [this]; exact (cn' f).1
  · rcases List.mem_append.mp hq with hq | hq
    · exact J.gm q hq
    · cases List.mem_singleton.mp hq; exact hm
  · rcases List.mem_append.mp hq with hq | hq
    · exact J.wl q hq
    · cases List.mem_singleton.mp hq; exact hwl
end TF


/-! PS5: a drawn thing stands ready for sharing. -/
namespace TF
open PySem PySem.Spec PyProof.Rows L2 DL FR
open Enc KeyT
abbrev rmV (d : Dic Str SpV) (g : GapV) : Rat := roomV g (poV cP d g.other - poV cP d g.one)
def wyN (t : ThingV) (g : GapV) : List Str := ((t.ways.get? g.name).getD []).map (·.1)
structure GapI (d : Dic Str SpV) (g : GapV) : Prop where
  ok : OkG g
  one : g.one ∈ d.keys
  other : g.other ∈ d.keys
  root : rtV cR d g.one = rtV cR d g.other
  room : Gd NQ MQ (rmV d g)
  room0 : 0 ≤ rmV d g
  g1 : Gd NQ (30 * SQ) (poV cP d g.other - poV cP d g.one - g.low)
  g2 : Gd NQ (30 * SQ) (g.high - (poV cP d g.other - poV cP d g.one))
theorem PI3.len {st k ps d} (J : PI3 st k ps d) : ps.length = k := by
  have := congrArg List.length J.I.nm
  simpa using this
/-- the shares: what holds of them -/
theorem Fin.facts {N M : Nat} {ps : List PartV} {rows : List RowV} {wd : Dic Str Int} {d : Dic Str Rat} (S : ShC N M ps rows wd) (F : Fin N M ps rows wd d) :
    ∃ N', (∀ q K, Gd N' K q → K ≤ 100 * M → Sm q) ∧ (∀ p ∈ ps, Gd N' M (dV d p.name)) ∧ (∀ p ∈ ps, 0 ≤ dV d p.name ∧ dV d p.name ≤ p.most) ∧ (∀ r ∈ rows, sumV d r.c ≤ r.b ∧ Gd N' (30 * M) (sumV d r.c)) ∧
      (∀ p ∈ ps, dV d p.name = p.most ∨ ∃ r ∈ rows, p.name ∈ r.c) := by
  obtain ⟨N', L, I⟩ := F.si
  refine ⟨N', fun q K g hK => S.small g I.np (I.nb30 S) hK, fun p hp => I.gd _ _ (F.dom p hp), fun p hp => ?_, fun r hr => ⟨?_, I.gsum S hr⟩, fun p hp => ?_⟩
  · have := I.st p hp _ (F.dom p hp)
    exact ⟨this.1, this.2.1⟩
  · have h1 := I.rw r hr
    have h2 : 0 ≤ L * (manyV wd d r.c : Rat) := Rat.mul_nonneg I.L0 (intNonnegR (S.many hr d).1)
    grind
  · rcases (I.st p hp _ (F.dom p hp)).2.2.2 with h | ⟨r, hr, h, _⟩
    · exact .inl h
    · exact .inr ⟨r, hr, h⟩
end TF


/-! PS6: shares compared by weight. -/
namespace TF
open PySem PySem.Spec PyProof.Rows L2 DL FR
open Enc KeyT
end TF


/-! PS7: the rows of a drawn thing, whatever its rooms. -/
namespace TF
open PySem PySem.Spec PyProof.Rows L2 DL FR
open Enc KeyT
structure GapB (d : Dic Str SpV) (g : GapV) : Prop where
  ok : OkG g
  one : g.one ∈ d.keys
  other : g.other ∈ d.keys
  root : rtV cR d g.one = rtV cR d g.other
  room : Gd NQ (2 * MQ) (rmV d g)
  g1 : Gd NQ (30 * SQ) (poV cP d g.other - poV cP d g.one - g.low)
  g2 : Gd NQ (30 * SQ) (g.high - (poV cP d g.other - poV cP d g.one))
end TF


/-! PS8: a thing of trees stands ready for sharing. -/
namespace TF
open PySem PySem.Spec PyProof.Rows L2 DL FR
open Enc KeyT
def rowP (pos : Str → Rat) (t : ThingV) (g : GapV) : RowV := T3.mk g.name (roomV g (pos g.other - pos g.one)) (wyN t g)
end TF


/-! PS9: any thing of trees made: middles, rooms, rows, shared or refused. -/
namespace TF
open PySem PySem.Spec PyProof.Rows L2 DL FR
open Enc KeyT
abbrev KQ : Nat := 10 ^ 45
theorem smN {N M : Nat} {q : Rat} (h : Gd N M q) (hM : M ≤ 10 ^ 50) (Np : 0 < N) (Nb : N ≤ 10 ^ 60) : Sm q := by
  refine h.sm Np (Nat.lt_of_le_of_lt (Nat.mul_le_mul hM Nb) ?_) (Nat.lt_of_le_of_lt Nb ?_)
  · exact Nat.lt_of_lt_of_le (show 10 ^ 50 * 10 ^ 60 < 2 ^ 450 by decide) (Nat.pow_le_pow_right (by decide) (by decide))
  · exact Nat.lt_of_lt_of_le (show 10 ^ 60 < 2 ^ 450 by decide) (Nat.pow_le_pow_right (by decide) (by decide))
/-- a thing to be made: its tree and its gaps, over a common bottom -/
structure TreeG (N : Nat) (ps : List PartV) (ks : List Str) (root : Str → Str) (pos : Str → Rat) (ch : Str → List Str) (gs : List GapV) : Prop where
  T : TreeI ps ks root pos ch
  lp : ps.length ≤ 30
  lg : gs.length < 1000
  okG : ∀ g ∈ gs, OkG g
  nG : (gs.map (·.name)).Nodup
  hk : ∀ g ∈ gs, g.one ∈ ks ∧ g.other ∈ ks ∧ root g.one = root g.other
  sz : ∀ p ∈ ps, Gd N KQ p.size
  po : ∀ f ∈ ks, Gd N KQ (pos f)
  lo : ∀ g ∈ gs, Gd N KQ g.low
  hi : ∀ g ∈ gs, Gd N KQ g.high
  mo : ∀ p ∈ ps, Gd N KQ p.most
  wl : ∀ p ∈ ps, p.weight ≤ 10 ^ 6
  Np : 0 < N
  Nb : N ≤ 10 ^ 60
structure ReadyT (ps : List PartV) (pos : Str → Rat) (ch : Str → List Str) (gs : List GapV) (t : ThingV) : Prop where
  TO : ThOk ps gs t
  mid : ∀ g ∈ gs, F_Thing_middle t g.name = .ok (pos g.other - pos g.one)
  room : ∀ g ∈ gs, F_Thing_room t g.name = .ok (roomV g (pos g.other - pos g.one))
  rows : F_gap_rows t = .ok (gs.map (rowP pos t))
  wy : ∀ g ∈ gs, (wyN t g).Nodup ∧ (∀ n ∈ wyN t g, n ∈ ps.map (·.name)) ∧ ∀ n, n ∈ wyN t g ↔ ¬ (n ∈ ch g.one ↔ n ∈ ch g.other)
  way : ∀ g ∈ gs, ∃ w, F_Thing_way t g.name = .ok w ∧ w.length ≤ 100 ∧ ∀ s ∈ w, GdS s.1
  shared : (∃ told, F_share t = .ok told ∧ EqD.good told) ∨ ∃ n, F_share t = .exc "Tight" [("tight_gap", enc n)] ∧ GdS n
variable {N : Nat} {ps : List PartV} {ks : List Str} {root : Str → Str} {pos : Str → Rat} {ch : Str → List Str} {gs : List GapV} {t : ThingV}
theorem TreeG.sm (G : TreeG N ps ks root pos ch gs) {M : Nat} {q : Rat} (h : Gd N M q) (hM : M ≤ 10 ^ 50) : Sm q := smN h hM G.Np G.Nb
/-! ### a part measured -/
theorem JoinP.mapP {ps : List PartV} {φ : PartV → PartV} (h1 : ∀ p ∈ ps, (φ p).start = p.start) (h2 : ∀ p ∈ ps, (φ p).fin = p.fin) {f g : Str} (j : JoinP ps f g) : JoinP (ps.map φ) f g := by
  induction j with
  | refl => exact .refl _
  | fwd _ hp ih =>
    rw [← h2 _ hp]
    refine .fwd ?_ (List.mem_map.mpr ⟨_, hp, rfl⟩)
    rw [h1 _ hp]; exact ih
  | bwd _ hp ih =>
    rw [← h1 _ hp]
    refine .bwd ?_ (List.mem_map.mpr ⟨_, hp, rfl⟩)
    rw [h2 _ hp]; exact ih
theorem TreeI.mapP {φ : PartV → PartV} {pos' : Str → Rat} (T : TreeI ps ks root pos ch) (h0 : ∀ p ∈ ps, (φ p).name = p.name) (h1 : ∀ p ∈ ps, (φ p).start = p.start) (h2 : ∀ p ∈ ps, (φ p).fin = p.fin) (ok : ∀ p ∈ ps, OkP (φ p)) (hp : ∀ p ∈ ps, pos' p.fin = pos' p.start + (φ p).size) : TreeI (ps.map φ) ks root pos' ch := by
  have nm : (ps.map φ).map (·.name) = ps.map (·.name) := by
    rw [List.map_map]; exact List.map_congr_left fun x hx => h0 x hx
  have all : ∀ {P : PartV → Prop}, (∀ p ∈ ps, P (φ p)) → ∀ q ∈ ps.map φ, P q := fun h q hq => by
    obtain ⟨p, hp, rfl⟩ := List.mem_map.mp hq
    exact h p hp
  refine ⟨all ok, by rw [nm]; exact T.nP, all fun p hp => by rw [h1 p hp]; exact T.st p hp, all fun p hp => by rw [h2 p hp]; exact T.fi p hp, all fun p hq => by rw [h1 p hq, h2 p hq]; exact hp p hq, fun f hf => (T.rt f hf).mapP h1 h2, all fun p hp => by rw [h1 p hp, h2 p hp]; exact T.rc p hp, fun f hf n hn => by rw [nm]; exact T.ch1 f hf n hn, all fun p hp => by rw [h0 p hp, h1 p hp, h2 p hp]; exact T.ch2 p hp, T.two⟩
def msP (n : Str) (s : Rat) (p : PartV) : PartV := if p.name = n then { name := p.name, start := p.start, fin := p.fin, size := s, most := 0, weight := p.weight } else p
theorem msP_keep (n : Str) (s : Rat) (p : PartV) : (msP n s p).name = p.name ∧ (msP n s p).start = p.start ∧ (msP n s p).fin = p.fin ∧ (msP n s p).weight = p.weight := by
  unfold msP; split <;> exact ⟨rfl, rfl, rfl, rfl⟩
/-- gone forward from the root, or backward -/
def SgT (ps : List PartV) (ch : Str → List Str) (sgn : Str → Int) : Prop := ∀ p ∈ ps, (sgn p.name = 1 ∧ ch p.fin = ch p.start ++ [p.name]) ∨ (sgn p.name = -1 ∧ ch p.start = ch p.fin ++ [p.name])
def sgC (ch : Str → List Str) (sgn : Str → Int) (f n : Str) : Int := if n ∈ ch f then sgn n else 0
theorem app_ne {α : Type} {l m : List α} {a : α} (h : l = m ++ [a]) (k : m = l ++ [a]) : False := by
  have h1 := congrArg List.length h
  have h2 := congrArg List.length k
  simp at h1 h2; omega
theorem TreeI.moved {sgn : Str → Int} (T : TreeI ps ks root pos ch) (sg : SgT ps ch sgn) {p : PartV} (hp : p ∈ ps) (off : Rat) : TreeI (ps.map (msP p.name (p.size + off))) ks root (fun f => pos f + off * ((sgC ch sgn f p.name : Int) : Rat)) ch := by
  refine T.mapP (fun q _ => (msP_keep _ _ q).1) (fun q _ => (msP_keep _ _ q).2.1) (fun q _ => (msP_keep _ _ q).2.2.1) (fun q hq => ?_) (fun q hq => ?_)
  · have o := T.ok q hq
    unfold msP
    split
    · exact ⟨o.n, o.s, o.f, o.ne, Rat.le_refl, o.w⟩
    · exact o
  · show pos q.fin + _ = pos q.start + _ + _
    rw [T.pos q hq]
    by_cases e : q.name = p.name
    · have : q = p := same_name T.nP hq hp e
      subst this
      unfold msP
      rw [if_pos rfl]
      unfold sgC
      have i1 : ((1 : Int) : Rat) = 1 := rfl
      have i0 : ((0 : Int) : Rat) = 0 := rfl
      have im : ((-1 : Int) : Rat) = -1 := rfl
      rcases T.ch2 q hq with ⟨c1, c2⟩ | ⟨c1, c2⟩
      · rcases sg q hq with ⟨s1, s2⟩ | ⟨s1, s2⟩
        · rw [if_neg c2, c1, if_pos (mem_app1.mpr (.inr rfl)), s1, i1, i0]; grind
        · exact (app_ne c1 s2).elim
      · rcases sg q hq with ⟨s1, s2⟩ | ⟨s1, s2⟩
        · exact (app_ne c1 s2).elim
        · rw [if_neg c2, c1, if_pos (mem_app1.mpr (.inr rfl)), s1, im, i0]; grind
    · have := (T.mark p.name).2 q hq e
      have := decide_eq_decide.mp this
      unfold msP sgC
      rw [if_neg e]
      simp only [this]
      grind
end TF


/-! PSA: what is_sharing tells, of any slacks. -/
namespace TF
open PySem PySem.Spec PyProof.Rows L2 DL FR
open Enc KeyT
end TF


/-! PSB: levels put in order; which list is fairer. -/
namespace TF
open PySem PySem.Spec PyProof.Rows L2 DL FR
open Enc KeyT
/-! ### fractions of some bottom -/
def Bd (q : Rat) : Prop := ∃ N, 0 < N ∧ N ≤ 10 ^ 250 ∧ Gd N (10 ^ 200) q
theorem Bd.of {N M : Nat} {q : Rat} (h : Gd N M q) (hN : 0 < N) (hb : N ≤ 10 ^ 250) (hM : M ≤ 10 ^ 200) : Bd q := ⟨N, hN, hb, h.mono hM⟩
theorem sm_of {N M : Nat} {q : Rat} (h : Gd N M q) (hN : 0 < N) (hb : N ≤ 10 ^ 256) (hM : M ≤ 10 ^ 300) : Sm q := by
  refine h.sm hN (Nat.lt_of_le_of_lt (Nat.mul_le_mul hM hb) ?_) (Nat.lt_of_le_of_lt hb ?_)
  · exact Nat.lt_of_lt_of_le (show 10 ^ 300 * 10 ^ 256 < 2 ^ 1900 by decide) (Nat.pow_le_pow_right (by decide) (by decide))
  · exact Nat.lt_of_lt_of_le (show 10 ^ 256 < 2 ^ 1900 by decide) (Nat.pow_le_pow_right (by decide) (by decide))
theorem Bd.sm {q : Rat} (h : Bd q) : Sm q := by
  obtain ⟨N, h1, h2, h3⟩ := h
  exact sm_of h3 h1 (Nat.le_trans h2 (by decide)) (by decide)
/-! ### in order -/
theorem bind_ofE {α β} {m : R α} {k : α → R β} {a : α} {r : R β} (e : m = .ok a) (h : k a = r) : m.bind k = r := by rw [e]; exact h
/-! ### fairer -/
def fairV (a b : List Rat) : Bool := match (a.zip b).find? (fun x => !decide (x.1 = x.2)) with
  | some x => decide (x.2 < x.1)
  | none => false
end TF


/-! PSC: none is fairer. -/
namespace TF
open PySem PySem.Spec PyProof.Rows L2 DL FR
open Enc KeyT
/-! ### lists in order, the first place where they differ -/
theorem fairV_cons (m : Rat) (a b : List Rat) : fairV (m :: a) (m :: b) = fairV a b := by
  unfold fairV
  rw [List.zip_cons_cons, List.find?_cons]
  simp
def LexLt (a b : List Rat) : Prop := fairV b a = true ∧ fairV a b = false ∧ a ≠ b
theorem LexLt.cons {m : Rat} {a b : List Rat} (h : LexLt a b) : LexLt (m :: a) (m :: b) := ⟨by rw [fairV_cons]; exact h.1, by rw [fairV_cons]; exact h.2.1, fun e => h.2.2 (List.cons.inj e).2⟩
/-! ### sharings -/
structure Keeps (ps : List PartV) (rows : List RowV) (y : Str → Rat) : Prop where
  lo : ∀ p ∈ ps, 0 ≤ y p.name
  hi : ∀ p ∈ ps, y p.name ≤ p.most
  row : ∀ r ∈ rows, (r.c.map y).sum ≤ r.b
structure Maxmin (ps : List PartV) (rows : List RowV) (x : Str → Rat) : Prop where
  K : Keeps ps rows x
  stop : ∀ p ∈ ps, x p.name = p.most ∨ ∃ r ∈ rows, p.name ∈ r.c ∧ (r.c.map x).sum = r.b ∧ ∀ q ∈ ps, q.name ∈ r.c → x q.name / (q.weight : Rat) ≤ x p.name / (p.weight : Rat)
  rs : ∀ r ∈ rows, ∀ n ∈ r.c, ∃ p ∈ ps, p.name = n
  w : ∀ p ∈ ps, 0 < p.weight
variable {ps : List PartV} {rows : List RowV} {x y : Str → Rat}
theorem sum_le {l : List Str} (h : ∀ n ∈ l, x n ≤ y n) : (l.map x).sum ≤ (l.map y).sum := by
  induction l with
  | nil => exact Rat.le_refl
  | cons n l ih =>
    rw [List.map_cons, List.map_cons, List.sum_cons, List.sum_cons]
    have h1 := h n List.mem_cons_self
    have h2 := ih fun m hm => h m (List.mem_cons_of_mem _ hm)
    grind
theorem sum_lt {l : List Str} (h : ∀ n ∈ l, x n ≤ y n) {m : Str} (hm : m ∈ l) (hl : x m < y m) : (l.map x).sum < (l.map y).sum := by
  induction l with
  | nil => exact nomatch hm
  | cons n l ih =>
    rw [List.map_cons, List.map_cons, List.sum_cons, List.sum_cons]
    have h1 := h n List.mem_cons_self
    have h2 : ∀ m ∈ l, x m ≤ y m := fun m hm => h m (List.mem_cons_of_mem _ hm)
    rcases List.mem_cons.mp hm with rfl | hm
    · have := sum_le h2
      grind
    · have := ih h2 hm
      grind
theorem Maxmin.less (hx : Maxmin ps rows x) (hy : Keeps ps rows y) {p : PartV} (hp : p ∈ ps) (h : x p.name < y p.name) : ∃ q ∈ ps, y q.name < x q.name ∧ x q.name / (q.weight : Rat) ≤ x p.name / (p.weight : Rat) := by
  rcases hx.stop p hp with h1 | ⟨r, hr, h1, h2, h3⟩
  · have := hy.hi p hp
    rw [h1] at h
    exact absurd h (Rat.not_lt.mpr this)
  · have : ∃ n ∈ r.c, y n < x n := by
      apply Classical.byContradiction
      intro hn
      have hle : ∀ n ∈ r.c, x n ≤ y n := fun n hn2 => Rat.not_lt.mp fun hl => hn ⟨n, hn2, hl⟩
      have := sum_lt hle h1 h
      have := hy.row r hr
      rw [h2] at *
      grind
    obtain ⟨n, hn, hl⟩ := this
    obtain ⟨q, hq, rfl⟩ := hx.rs r hr n hn
    exact ⟨q, hq, hl, h3 q hq hn⟩
/-! ### what is told -/
end TF


/-! PK0: what the laws of ties and chains share: their own lowest, plus, less, places; faces told. -/
namespace TF
open PySem PySem.Spec PyProof.Rows L2 DL FR
open Enc KeyT
noncomputable def LD_div (v_one : Int) (v_other : Int) : R Int :=
  ((((R.ok v_one)).bind fun i => .ok (i.natAbs : Int))).bind fun (one_1 : Int) =>
  ((((R.ok v_other)).bind fun i => .ok (i.natAbs : Int))).bind fun (other_2 : Int) =>
  R.flow (whileR (fun (st_3 : Int × Int) => (R.b2 (R.ok st_3.2) (R.ok (0 : Int)) fun i j => .ok (decide (j < i)))) (fun (st_3 : Int × Int) =>
  (R.b2 (R.ok st_3.2) (R.b2 (R.ok st_3.1) (R.ok st_3.2) modI) fun (one_13 : Int) (other_14 : Int) =>
  .ok (.nx (one_13, other_14)) : R (Fl (Int × Int) Int))) ((one_1, other_2) : Int × Int)) (fun (st_3 : Int × Int) =>
  (R.ok st_3.1)) (fun r_15 => .ok r_15)
theorem ld_div (a b : Int) : LD_div a b = .ok (Int.gcd a b : Nat) := by
  unfold LD_div
  simp only [R.ok_bind, R.exc_bind, R.bad_bind, R.bind_assoc, R.noexc_ok, R.b2, R.map, R.cond, R.flow, addI, subI, andB, orB, unw_some, unw_none, few_nil, ofRat, isCls, Option.isNone_none, Option.isNone_some, Bool.not_true, Bool.not_false, Bool.false_eq_true, if_true, if_false]
  rw [gcd_loop (b.natAbs + 1) a.natAbs b.natAbs (by omega)]
  rfl
noncomputable def LD_low (v_top : Int) (v_bottom : Int) : R Rat :=
  ((((R.ok v_top)).bind fun c_1 => ((R.ok v_bottom)).bind fun c_2 => LD_div c_1 c_2)).bind fun (by_3 : Int) =>
  (((((R.b2 (R.ok v_top) (R.ok by_3) divI)).bind fun t_8 => ((R.b2 (R.ok v_bottom) (R.ok by_3) divI)).bind fun t_9 => R.ok (t_8, t_9))).bind toRat)
theorem ld_low {t b : Int} (hb : 0 < b) (hw : b.natAbs < 2 ^ 9000) : LD_low t b = .ok (Rat.divInt t b) := by
  unfold LD_low
  simp only [R.ok_bind, R.exc_bind, R.bad_bind, R.bind_assoc, R.noexc_ok, R.b2, R.map, R.cond, R.flow, addI, subI, andB, orB, unw_some, unw_none, few_nil, ofRat, isCls, Option.isNone_none, Option.isNone_some, Bool.not_true, Bool.not_false, Bool.false_eq_true, if_true, if_false]
  rw [ld_div, R.ok_bind]
  exact low_frac (t := t) (b := b) hb hw
noncomputable def LD_plus (v_one : (Int × Int)) (v_other : (Int × Int)) : R Rat :=
  (((R.b2 (R.b2 (((R.ok v_one)).map (fun t : (Int × Int) => t.1)) (((R.ok v_other)).map (fun t : (Int × Int) => t.2)) mulI) (R.b2 (((R.ok v_other)).map (fun t : (Int × Int) => t.1)) (((R.ok v_one)).map (fun t : (Int × Int) => t.2)) mulI) addI)).bind fun c_9 => ((R.b2 (((R.ok v_one)).map (fun t : (Int × Int) => t.2)) (((R.ok v_other)).map (fun t : (Int × Int) => t.2)) mulI)).bind fun c_10 => LD_low c_9 c_10)
theorem divInt_add' {a b c d : Int} (hb : 0 < b) (hd : 0 < d) : Rat.divInt (a * d + c * b) (b * d) = Rat.divInt a b + Rat.divInt c d := by
  have := Rat.divInt_add_divInt a c (show b ≠ 0 by omega) (show d ≠ 0 by omega)
  exact this.symm
theorem ld_plus {a b c d : Int} (hb : 0 < b) (hd : 0 < d) (ba : a.natAbs < 2 ^ 3000) (bb : b.natAbs < 2 ^ 3000) (bc : c.natAbs < 2 ^ 3000) (bd : d.natAbs < 2 ^ 3000) : LD_plus (a, b) (c, d) = .ok (Rat.divInt a b + Rat.divInt c d) := by
  unfold LD_plus
  simp only [R.ok_bind, R.exc_bind, R.bad_bind, R.bind_assoc, R.noexc_ok, R.b2, R.map, R.cond, R.flow, addI, subI, andB, orB, unw_some, unw_none, few_nil, ofRat, isCls, Option.isNone_none, Option.isNone_some, Bool.not_true, Bool.not_false, Bool.false_eq_true, if_true, if_false]
  have hm : (0 : Int) < b * d := Int.mul_pos hb hd
  have hl : (b * d).natAbs < 2 ^ 9000 := Nat.lt_of_lt_of_le (mul_lt bb bd) (Nat.pow_le_pow_right (by decide) (by decide))
  rw [mulI_ok (mulOk_of ba bd (by decide)), R.ok_bind, mulI_ok (mulOk_of bc bb (by decide)), R.ok_bind, mulI_ok (mulOk_of bb bd (by decide)), R.ok_bind, ld_low hm hl, divInt_add' hb hd]
noncomputable def LD_less (v_one : Rat) (v_other : Rat) : R Bool :=
  (R.b2 (R.b2 (((R.ok v_one)).map fun q : Rat => q.num) (((R.ok v_other)).map fun q : Rat => (q.den : Int)) mulI) (R.b2 (((R.ok v_other)).map fun q : Rat => q.num) (((R.ok v_one)).map fun q : Rat => (q.den : Int)) mulI) fun i j => .ok (decide (i < j)))
theorem ld_less {q r : Rat} (hq : Sm q) (hr : Sm r) : LD_less q r = .ok (decide (q < r)) := by
  unfold LD_less
  simp only [R.ok_bind, R.exc_bind, R.bad_bind, R.bind_assoc, R.noexc_ok, R.b2, R.map, R.cond, R.flow, addI, subI, andB, orB, unw_some, unw_none, few_nil, ofRat, isCls, Option.isNone_none, Option.isNone_some, Bool.not_true, Bool.not_false, Bool.false_eq_true, if_true, if_false]
  rw [mulI_ok (mm1 hq hr), R.ok_bind, mulI_ok (mm1 hr hq), R.ok_bind]
  congr 1
  exact decide_eq_decide.mpr (Rat.lt_iff q r).symm
theorem qd (q : Rat) : Rat.divInt q.num (q.den : Int) = q := Rat.num_divInt_den q
theorem qb {q : Rat} (h : Sm q) : q.num.natAbs < 2 ^ 3000 ∧ ((q.den : Int)).natAbs < 2 ^ 3000 ∧ (0 : Int) < (q.den : Int) := ⟨h.1, den_lt h, den_pos' q⟩
/-- a fraction and a raw one -/
theorem ld_plus1 {q : Rat} (h : Sm q) {c d : Int} (hd : 0 < d) (bc : c.natAbs < 2 ^ 256) (bd : d.natAbs < 2 ^ 256) : LD_plus (q.num, (q.den : Int)) (c, d) = .ok (q + Rat.divInt c d) := by
  obtain ⟨h1, h2, h3⟩ := qb h
  rw [ld_plus h3 hd h1 h2 (Nat.lt_of_lt_of_le bc (Nat.pow_le_pow_right (by decide) (by decide))) (Nat.lt_of_lt_of_le bd (Nat.pow_le_pow_right (by decide) (by decide))), qd]
theorem ld_plusQ {q r : Rat} (h : Sm q) (g : Sm r) : LD_plus (q.num, (q.den : Int)) (r.num, (r.den : Int)) = .ok (q + r) := by
  obtain ⟨h1, h2, h3⟩ := qb h
  obtain ⟨g1, g2, g3⟩ := qb g
  rw [ld_plus h3 g3 h1 h2 g1 g2, qd, qd]
theorem ld_minus {q r : Rat} (h : Sm q) (g : Sm r) : LD_plus (q.num, (q.den : Int)) (-r.num, (r.den : Int)) = .ok (q - r) := by
  obtain ⟨h1, h2, h3⟩ := qb h
  obtain ⟨g1, g2, g3⟩ := qb g
  rw [ld_plus h3 g3 h1 h2 (by simpa using g1) g2, qd]
  congr 1
  have := Rat.neg_divInt r.num (r.den : Int)
  rw [← this, qd, Rat.sub_eq_add_neg]
noncomputable def LC_at (v_script : (List Int)) (v_k : Int) : R Int :=
  R.cond (R.b2 (R.ok v_k) (((R.ok v_script)).bind fun l => .ok (l.length : Int)) fun i j => .ok (decide (i < j)))
  ((R.b2 (R.ok v_script) (R.ok v_k) ixL))
  ((R.ok (0 : Int)))
theorem lc_at {ns : List Int} {k : Int} (h0 : 0 ≤ k) : (LC_at ns k).sat fun _ => True := by
  unfold LC_at
  simp only [R.ok_bind, R.exc_bind, R.bad_bind, R.bind_assoc, R.noexc_ok, R.b2, R.map, R.cond, R.flow, addI, subI, andB, orB, unw_some, unw_none, few_nil, ofRat, isCls, Option.isNone_none, Option.isNone_some, Bool.not_true, Bool.not_false, Bool.false_eq_true, if_true, if_false]
  by_cases h : k < ns.length
  · rw [decide_eq_true h, if_pos rfl, ixL_ok h0 h]; exact sat_ok trivial
  · rw [decide_eq_false h, if_neg (by decide)]; exact sat_ok trivial
/-! ### the drawn faces' places: over 60, to 10 ^ 40 -/
abbrev PLQ : Nat := 10 ^ 40
theorem d60 {b : Int} (h : 1 ≤ b ∧ b ≤ 6) : 0 < b ∧ b ∣ ((60 : Nat) : Int) := by
  have : b = 1 ∨ b = 2 ∨ b = 3 ∨ b = 4 ∨ b = 5 ∨ b = 6 := by omega
  rcases this with rfl | rfl | rfl | rfl | rfl | rfl <;> decide
theorem sm60 {M : Nat} {q : Rat} (h : Gd 60 M q) (hM : M ≤ 10 ^ 60) : Sm q := by
  refine h.sm (by decide) (Nat.lt_of_le_of_lt (Nat.mul_le_mul_right _ hM) ?_) (Nat.lt_of_lt_of_le (show 60 < 2 ^ 250 by decide) (Nat.pow_le_pow_right (by decide) (by decide)))
  exact Nat.lt_of_lt_of_le (show 10 ^ 60 * 60 < 2 ^ 250 by decide) (Nat.pow_le_pow_right (by decide) (by decide))
noncomputable def LC_places (v_script : (List Int)) (v_faces_here : Int) : R (List Rat) :=
  (((R.ok ([] : List Rat)).bind few)).bind fun (places_here_1 : (List Rat)) =>
  ((((R.ok v_faces_here)).bind rng1)).bind fun l_101 => (foldR l_101 (places_here_1 : (List Rat)) (fun (x_2 : Int) (st_3 : (List Rat)) =>
  ((((R.ok v_script)).bind fun c_56 => ((R.b2 (R.ok (2 : Int)) (R.ok x_2) addI)).bind fun c_57 => LC_at c_56 c_57)).bind fun (cell_58 : Int) =>
  ((((((((R.ok cell_58)).map fun a_59 => a_59 * 69621)).map fun a_61 => a_61 % 2147483629)).map fun a_63 => a_63 / 37)).bind fun (mixed_65 : Int) =>
  ((R.b2 (((R.ok mixed_65)).map fun a_66 => a_66 % 61) (R.ok (30 : Int)) subI)).bind fun (top_70 : Int) =>
  (R.cond (R.b2 (((((R.ok mixed_65)).map fun a_71 => a_71 / 61)).map fun a_73 => a_73 % 4) (R.ok (1 : Int)) fun i j => .ok (decide (i = j)))
  (((R.b2 (((R.ok cell_58)).map fun a_84 => a_84 % (10 ^ 40)) (((R.ok ((10 : Int) ^ 39))).map fun a_86 => 5 * a_86) subI)).bind fun (top_90 : Int) =>
  .ok top_90)
  (.ok top_70)).bind fun (st_82 : Int) =>
  ((((R.ok st_82)).bind fun c_98 => ((R.b2 (R.ok (1 : Int)) (((((R.ok mixed_65)).map fun a_92 => a_92 / 244)).map fun a_94 => a_94 % 6) addI)).bind fun c_99 => LD_low c_98 c_99)).bind fun a_100 => (few st_3).bind fun _ => (R.ok (st_3 ++ [a_100])).bind fun (places_here_91 : (List Rat)) =>
  .ok places_here_91)).bind fun (st_3 : (List Rat)) =>
  (R.ok st_3)
theorem places_ok (ns : List Int) {n : Int} (h0 : 0 ≤ n) (h1 : n ≤ 100) : (LC_places ns n).sat fun l => l.length = n.toNat ∧ ∀ q ∈ l, Gd 60 PLQ q := by
  unfold LC_places
  simp only [R.ok_bind, R.exc_bind, R.bad_bind, R.bind_assoc, R.noexc_ok, R.b2, R.map, R.cond, R.flow, addI, subI, andB, orB, unw_some, unw_none, few_nil, ofRat, isCls, Option.isNone_none, Option.isNone_some, Bool.not_true, Bool.not_false, Bool.false_eq_true, if_true, if_false]
  rw [rng1_ok (by omega), R.ok_bind]
  refine sat_bind (foldR_ind (fun pre (s : List Rat) => s.length = pre.length ∧ ∀ q ∈ s, Gd 60 PLQ q) ?_ ⟨rfl, fun _ h => (nomatch h)⟩) fun l h => sat_ok ⟨by rw [h.1, rngL_len], h.2⟩
  rintro pre x post s e ⟨hl, hs⟩
  obtain ⟨rfl, hk⟩ := rngL_at e
  refine sat_bind (lc_at (by omega)) fun c _ => ?_
  have hmx : 0 ≤ c * 69621 % 2147483629 / 37 := by omega
  generalize c * 69621 % 2147483629 / 37 = mx at hmx
  have ht : ∃ t : Int, ((if decide (mx / 61 % 4 = 1) = true then R.ok (c % 10 ^ 40 - 5 * 10 ^ 39) else R.ok (mx % 61 - 30)) : R Int) = .ok t ∧ t.natAbs ≤ PLQ := by
    split
    · refine ⟨_, rfl, ?_⟩
      show _ ≤ 10 ^ 40
      have q1 := Int.emod_nonneg c (show (10 : Int) ^ 40 ≠ 0 by decide)
      have q2 := Int.emod_lt_of_pos c (show (0 : Int) < 10 ^ 40 by decide)
      omega
    · refine ⟨_, rfl, ?_⟩
      show _ ≤ 10 ^ 40
      omega
  obtain ⟨t, et, bt⟩ := ht
  obtain ⟨b0, bd⟩ := d60 (b := 1 + mx / 244 % 6) (by omega)
  rw [et, R.ok_bind, ld_low b0 (lt_9000 (by omega)), R.ok_bind, few_ok (by omega), R.ok_bind]
  refine sat_ok ⟨by simp [hl], fun q hq => ?_⟩
  rcases List.mem_append.mp hq with hq | hq
  · exact hs q hq
  · rw [List.mem_singleton.mp hq]
    exact gd_div b0 bd bt
theorem other_ne {L a m : Int} (hL : 0 < L) (ha : 0 ≤ a ∧ a < L) (hm : 0 ≤ m ∧ m < L - 1) : (a + 1 + m) % L ≠ a := by
  intro h
  have h1 := Int.mul_ediv_add_emod (a + 1 + m) L
  rw [h] at h1
  generalize (a + 1 + m) / L = q at h1
  rcases Int.lt_or_le q 1 with hq | hq
  · have : L * q ≤ L * 0 := Int.mul_le_mul_of_nonneg_left (by omega) (by omega)
    omega
  · have : L * 1 ≤ L * q := Int.mul_le_mul_of_nonneg_left hq (by omega)
    omega
/-! ### faces -/
def FN : List Str := [Str.ofString "p", Str.ofString "pa", Str.ofString "pab", Str.ofString "qab", Str.ofString "qa", Str.ofString "apab"]
theorem FN_nd : FN.Nodup := by decide +kernel
theorem FN_ok : ∀ f ∈ FN, nameB f = true := by decide +kernel
def faceL (ts : List TieV) : List Str := ts.map (·.start) ++ ts.map (·.fin)
def facesV (ts : List TieV) : List Str := sortS (dedS (faceL ts))
theorem facesV_mem {ts : List TieV} {f : Str} : f ∈ facesV ts ↔ f ∈ faceL ts := by
  unfold facesV
  rw [(sortS_perm _).mem_iff, dedS_mem]
theorem facesV_nd (ts : List TieV) : (facesV ts).Nodup := (sortS_perm _).nodup_iff.mpr (dedS_nd _)
theorem smW {N M : Nat} {q : Rat} (h : Gd N M q) (hM : M ≤ 10 ^ 50) (Np : 0 < N) (Nb : N ≤ 2 ^ 1500) : Sm q := by
  refine h.sm Np (Nat.lt_of_le_of_lt (Nat.mul_le_mul hM Nb) ?_) (Nat.lt_of_le_of_lt Nb (Nat.pow_lt_pow_right (by decide) (by decide)))
  refine Nat.lt_of_lt_of_le (Nat.mul_lt_mul_of_lt_of_le (show 10 ^ 50 < 2 ^ 200 by decide) (Nat.le_refl (2 ^ 1500)) (Nat.pow_pos (by decide))) ?_
  rw [← Nat.pow_add]
  exact Nat.pow_le_pow_right (by decide) (by decide)
theorem nbW {N : Nat} (h : N ≤ 10 ^ 60) : N ≤ 2 ^ 1500 := Nat.le_trans h (Nat.le_trans (show 10 ^ 60 ≤ 2 ^ 200 by decide) (Nat.pow_le_pow_right (by decide) (by decide)))
end TF


/-! PK1: least sums along steps (Bellman and Ford), in plain Lean. -/
namespace TF
open PySem PySem.Spec PyProof.Rows L2 DL FR
open Enc KeyT
abbrev StepV := T4 Str Str Rat (Str × Bool)
abbrev WayV := Str × (Str × Bool)
def Ch (S : List StepV) (a : Str) : List StepV → Str → Prop
  | [], f => a = f
  | s :: l, f => s ∈ S ∧ s.a = a ∧ Ch S s.b l f
def costL (l : List StepV) : Rat := (l.map (·.c)).sum
def Pot (S : List StepV) (pl : Str → Rat) : Prop := ∀ s ∈ S, pl s.b - pl s.a ≤ s.c
theorem costL_cons (s : StepV) (l : List StepV) : costL (s :: l) = s.c + costL l := by unfold costL; rw [List.map_cons, List.sum_cons]
theorem costL_nil : costL [] = 0 := rfl
theorem costL_app (l m : List StepV) : costL (l ++ m) = costL l + costL m := by
  induction l with
  | nil => rw [List.nil_append, costL_nil]; grind
  | cons s l ih => rw [List.cons_append, costL_cons, costL_cons, ih]; grind
section
variable {S : List StepV} {pl : Str → Rat}
theorem Ch.app : ∀ {l : List StepV} {a x f : Str} {m : List StepV}, Ch S a l x → Ch S x m f → Ch S a (l ++ m) f
  | [], a, x, f, m, h, g => by cases h; exact g
  | s :: l, a, x, f, m, h, g => ⟨h.1, h.2.1, Ch.app h.2.2 g⟩
theorem Ch.snoc {l : List StepV} {a : Str} {s : StepV} (h : Ch S a l s.a) (hs : s ∈ S) : Ch S a (l ++ [s]) s.b := h.app ⟨hs, rfl, rfl⟩
theorem Ch.split : ∀ {l : List StepV} {a f : Str} {m : List StepV}, Ch S a (l ++ m) f → ∃ x, Ch S a l x ∧ Ch S x m f
  | [], a, f, m, h => ⟨a, rfl, h⟩
  | s :: l, a, f, m, h => by
    obtain ⟨h1, h2, h3⟩ := h
    obtain ⟨x, g1, g2⟩ := Ch.split h3
    exact ⟨x, ⟨h1, h2, g1⟩, g2⟩
theorem Ch.pot (P : Pot S pl) : ∀ {l : List StepV} {a f : Str}, Ch S a l f → pl f - pl a ≤ costL l
  | [], a, f, h => by cases h; rw [costL_nil]; grind
  | s :: l, a, f, h => by
    obtain ⟨h1, h2, h3⟩ := h
    have := Ch.pot P h3
    have := P s h1
    rw [costL_cons, ← h2]
    grind
theorem Ch.ring (P : Pot S pl) {l : List StepV} {a : Str} (h : Ch S a l a) : 0 ≤ costL l := by
  have := h.pot P
  grind
theorem Ch.shorten (P : Pot S pl) : ∀ {l : List StepV} {a f : Str}, Ch S a l f → ¬ (a :: l.map (·.b)).Nodup → ∃ l', Ch S a l' f ∧ l'.length < l.length ∧ costL l' ≤ costL l
  | [], a, f, h, n => absurd (by simp) n
  | s :: l, a, f, h, n => by
    by_cases ha : a ∈ (s :: l).map (·.b)
    · obtain ⟨t, ht, e⟩ := List.mem_map.mp ha
      obtain ⟨p, q, epq⟩ := List.append_of_mem ht
      have e2 : s :: l = (p ++ [t]) ++ q := by rw [epq]; simp
      rw [e2] at h ⊢
      obtain ⟨x, g1, g2⟩ := Ch.split h
      have hx : x = a := by
        obtain ⟨y, k1, k2⟩ := Ch.split g1
        obtain ⟨_, _, k3⟩ := k2
        rw [← e]
        exact k3.symm
      subst hx
      refine ⟨q, g2, by simp; omega, ?_⟩
      have := g1.ring P
      rw [costL_app]; grind
    · obtain ⟨h1, h2, h3⟩ := h
      have n' : ¬ (s.b :: l.map (·.b)).Nodup := fun h' => n (List.nodup_cons.mpr ⟨ha, h'⟩)
      obtain ⟨l', g1, g2, g3⟩ := Ch.shorten P h3 n'
      exact ⟨s :: l', ⟨h1, h2, g1⟩, by simp; omega, by rw [costL_cons, costL_cons]; grind⟩
theorem Ch.faces {F : List Str} (hb : ∀ s ∈ S, s.b ∈ F) : ∀ {l : List StepV} {a f : Str}, Ch S a l f → ∀ x ∈ l.map (·.b), x ∈ F
  | [], _, _, _, x, hx => (nomatch hx)
  | s :: l, a, f, h, x, hx => by
    rw [List.map_cons] at hx
    rcases List.mem_cons.mp hx with rfl | hx
    · exact hb s h.1
    · exact Ch.faces hb h.2.2 x hx
/-- no chain need be longer than the faces -/
theorem Ch.short (P : Pot S pl) {F : List Str} (hb : ∀ s ∈ S, s.b ∈ F) {a : Str} (ha : a ∈ F) : ∀ (n : Nat) {l : List StepV} {f : Str}, l.length ≤ n → Ch S a l f → ∃ l', Ch S a l' f ∧ l'.length < F.length ∧ costL l' ≤ costL l := by
  intro n
  induction n with
  | zero =>
    intro l f hl h
    have : l = [] := List.length_eq_zero_iff.mp (by omega)
    subst this
    exact ⟨[], h, List.length_pos_of_mem ha, Rat.le_refl⟩
  | succ n ih =>
    intro l f hl h
    by_cases hs : l.length < F.length
    · exact ⟨l, h, hs, Rat.le_refl⟩
    · have nd : ¬ (a :: l.map (·.b)).Nodup := fun nd => by
        have := nodup_sub_len nd (m := F) fun x hx => by
          rcases List.mem_cons.mp hx with rfl | hx
          · exact ha
          · exact h.faces hb x hx
        rw [List.length_cons, List.length_map] at this
        omega
      obtain ⟨l', g1, g2, g3⟩ := h.shorten P nd
      obtain ⟨m, k1, k2, k3⟩ := ih (by omega) g1
      exact ⟨m, k1, k2, Rat.le_trans k3 g3⟩
end
/-! ### one round -/
structure BF where
  sums : Dic Str Rat
  ways : Dic Str WayV
  last : Option Str
def BF.upd (st : BF) (s : StepV) (t : Rat) : BF := ⟨st.sums.put s.b t, st.ways.put s.b (s.a, s.d), some s.b⟩
def relax (st : BF) (s : StepV) : BF := match st.sums.get? s.a with
  | none => st
  | some x => (match st.sums.get? s.b with
    | none => st.upd s (x + s.c)
    | some y => if x + s.c < y then st.upd s (x + s.c) else st)
def SumsLe (p q : Dic Str Rat) : Prop := ∀ f x, p.get? f = some x → ∃ y, q.get? f = some y ∧ y ≤ x
theorem SumsLe.refl (p : Dic Str Rat) : SumsLe p p := fun _ x h => ⟨x, h, Rat.le_refl⟩
theorem SumsLe.trans {p q r : Dic Str Rat} (h : SumsLe p q) (g : SumsLe q r) : SumsLe p r := fun f x e => by
  obtain ⟨y, e1, l1⟩ := h f x e
  obtain ⟨z, e2, l2⟩ := g f y e1
  exact ⟨z, e2, Rat.le_trans l2 l1⟩
theorem relax_le (st : BF) (s : StepV) : SumsLe st.sums (relax st s).sums := by
  unfold relax
  cases hx : st.sums.get? s.a with
  | none => exact .refl _
  | some x =>
    simp only
    cases hy : st.sums.get? s.b with
    | none =>
      intro f z hz
      show ∃ y, (st.sums.put s.b (x + s.c)).get? f = some y ∧ y ≤ z
      rw [Dic.get_put]
      by_cases hf : f = s.b
      · rw [hf, hy] at hz; cases hz
      · rw [if_neg hf]; exact ⟨z, hz, Rat.le_refl⟩
    | some y =>
      simp only
      split
      · rename_i hlt
        intro f z hz
        show ∃ y, (st.sums.put s.b (x + s.c)).get? f = some y ∧ y ≤ z
        rw [Dic.get_put]
        by_cases hf : f = s.b
        · rw [if_pos hf]
          rw [hf, hy] at hz; cases hz
          exact ⟨_, rfl, Rat.le_of_lt hlt⟩
        · rw [if_neg hf]; exact ⟨z, hz, Rat.le_refl⟩
      · exact .refl _
theorem relax_at (st : BF) (s : StepV) {x : Rat} (h : st.sums.get? s.a = some x) : ∃ y, (relax st s).sums.get? s.b = some y ∧ y ≤ x + s.c := by
  unfold relax
  rw [h]
  simp only
  cases hy : st.sums.get? s.b with
  | none =>
    refine ⟨x + s.c, ?_, Rat.le_refl⟩
    show (st.sums.put s.b (x + s.c)).get? s.b = _
    rw [Dic.get_put, if_pos rfl]
  | some y =>
    simp only
    split
    · refine ⟨x + s.c, ?_, Rat.le_refl⟩
      show (st.sums.put s.b (x + s.c)).get? s.b = _
      rw [Dic.get_put, if_pos rfl]
    · rename_i hn
      exact ⟨y, hy, Rat.not_lt.mp hn⟩
theorem fold_le : ∀ (S : List StepV) (st : BF), SumsLe st.sums (S.foldl relax st).sums
  | [], st => .refl _
  | s :: S, st => (relax_le st s).trans (fold_le S _)
theorem fold_at : ∀ (S : List StepV) (st : BF) {s : StepV} {x : Rat}, s ∈ S → st.sums.get? s.a = some x → ∃ y, (S.foldl relax st).sums.get? s.b = some y ∧ y ≤ x + s.c
  | t :: S, st, s, x, hs, hx => by
    rw [List.foldl_cons]
    rcases List.mem_cons.mp hs with rfl | hs
    · obtain ⟨y, h1, h2⟩ := relax_at st s hx
      obtain ⟨z, h3, h4⟩ := fold_le S _ _ _ h1
      exact ⟨z, h3, Rat.le_trans h4 h2⟩
    · obtain ⟨z, h3, h4⟩ := relax_le st t _ _ hx
      obtain ⟨y, h1, h2⟩ := fold_at S (relax st t) hs h3
      exact ⟨y, h1, by grind⟩
/-- nothing to be made less: nothing is done -/
def Fixed (S : List StepV) (sums : Dic Str Rat) : Prop := ∀ s ∈ S, ∀ x, sums.get? s.a = some x → ∃ y, sums.get? s.b = some y ∧ y ≤ x + s.c
theorem relax_fixed {S : List StepV} {st : BF} (h : Fixed S st.sums) {s : StepV} (hs : s ∈ S) : relax st s = st := by
  unfold relax
  cases hx : st.sums.get? s.a with
  | none => rfl
  | some x =>
    obtain ⟨y, h1, h2⟩ := h s hs x hx
    simp only [h1]
    rw [if_neg (Rat.not_lt.mpr h2)]
theorem fold_fixed {S : List StepV} {st : BF} (h : Fixed S st.sums) : ∀ T : List StepV, (∀ s ∈ T, s ∈ S) → T.foldl relax st = st
  | [], _ => rfl
  | s :: T, hT => by rw [List.foldl_cons, relax_fixed h (hT s List.mem_cons_self)]; exact fold_fixed h T fun t ht => hT t (List.mem_cons_of_mem _ ht)
theorem relax_last {st : BF} {s : StepV} (h : (relax st s).last = none) : relax st s = st := by
  unfold relax at h ⊢
  cases hx : st.sums.get? s.a with
  | none => rfl
  | some x =>
    rw [hx] at h
    simp only at h ⊢
    cases hy : st.sums.get? s.b with
    | none => rw [hy] at h; cases h
    | some y =>
      rw [hy] at h
      simp only at h ⊢
      split at h
      · cases h
      · rename_i hn; rw [if_neg hn]
theorem relax_some {st : BF} {s : StepV} (h : st.last ≠ none) : (relax st s).last ≠ none := by
  unfold relax
  cases st.sums.get? s.a with
  | none => exact h
  | some x =>
    simp only
    cases st.sums.get? s.b with
    | none => intro e; cases e
    | some y =>
      simp only
      split
      · intro e; cases e
      · exact h
theorem fold_some : ∀ (S : List StepV) {st : BF}, st.last ≠ none → (S.foldl relax st).last ≠ none
  | [], _, h => h
  | s :: S, st, h => fold_some S (relax_some h)
/-- a round that tells None leaves all as it was, and all is least -/
theorem fold_none : ∀ (S : List StepV) {st : BF}, (S.foldl relax st).last = none → S.foldl relax st = st ∧ Fixed S st.sums
  | [], st, _ => ⟨rfl, fun _ h => (nomatch h)⟩
  | s :: S, st, h => by
    rw [List.foldl_cons] at h ⊢
    have h1 : (relax st s).last = none := Classical.byContradiction fun hn => fold_some S hn h
    have e := relax_last h1
    rw [e] at h ⊢
    obtain ⟨h2, h3⟩ := fold_none S h
    refine ⟨h2, fun t ht x hx => ?_⟩
    rcases List.mem_cons.mp ht with rfl | ht
    · have := relax_at st t hx
      rw [e] at this
      exact this
    · exact h3 t ht x hx
/-! ### the rounds -/
structure Inv (S : List StepV) (start : Str → Prop) (k : Nat) (sums : Dic Str Rat) : Prop where
  real : ∀ f x, sums.get? f = some x → ∃ a l, start a ∧ Ch S a l f ∧ costL l = x
  cover : ∀ a l f, start a → Ch S a l f → l.length ≤ k → ∃ y, sums.get? f = some y ∧ y ≤ costL l
def Real (S : List StepV) (start : Str → Prop) (sums : Dic Str Rat) : Prop := ∀ f x, sums.get? f = some x → ∃ a l, start a ∧ Ch S a l f ∧ costL l = x
theorem real_put {S : List StepV} {start : Str → Prop} {sums : Dic Str Rat} (h : Real S start sums) {s : StepV} (hs : s ∈ S) {x : Rat} (hx : sums.get? s.a = some x) : Real S start (sums.put s.b (x + s.c)) := fun f y hy => by
  rw [Dic.get_put] at hy
  by_cases hf : f = s.b
  · rw [if_pos hf] at hy
    cases hy
    obtain ⟨a, l, h1, h2, h3⟩ := h s.a x hx
    refine ⟨a, l ++ [s], h1, by rw [hf]; exact h2.snoc hs, ?_⟩
    rw [costL_app, costL_cons, costL_nil, h3]; grind
  · rw [if_neg hf] at hy
    exact h f y hy
theorem relax_real {S : List StepV} {start : Str → Prop} {st : BF} (h : Real S start st.sums) {s : StepV} (hs : s ∈ S) : Real S start (relax st s).sums := by
  unfold relax
  cases hx : st.sums.get? s.a with
  | none => exact h
  | some x =>
    simp only
    cases st.sums.get? s.b with
    | none => exact real_put h hs hx
    | some y =>
      simp only
      split
      · exact real_put h hs hx
      · exact h
theorem fold_real {S : List StepV} {start : Str → Prop} : ∀ (T : List StepV), (∀ s ∈ T, s ∈ S) → ∀ {st : BF}, Real S start st.sums → Real S start (T.foldl relax st).sums
  | [], _, _, h => h
  | s :: T, hT, st, h => fold_real T (fun t ht => hT t (List.mem_cons_of_mem _ ht)) (relax_real h (hT s List.mem_cons_self))
theorem Inv.round {S : List StepV} {start : Str → Prop} {k : Nat} {st : BF} (I : Inv S start k st.sums) : Inv S start (k + 1) (S.foldl relax st).sums := by
  refine ⟨fold_real S (fun _ h => h) I.real, fun a l f ha hc hl => ?_⟩
  by_cases hl2 : l.length ≤ k
  · obtain ⟨y, h1, h2⟩ := I.cover a l f ha hc hl2
    obtain ⟨z, h3, h4⟩ := fold_le S st f y h1
    exact ⟨z, h3, Rat.le_trans h4 h2⟩
  · have hne : l ≠ [] := fun e => by rw [e] at hl2; simp at hl2
    have e := List.dropLast_concat_getLast hne
    generalize l.getLast hne = s at e
    have hlen : l.dropLast.length = l.length - 1 := List.length_dropLast
    generalize l.dropLast = m at e hlen
    subst e
    obtain ⟨x, g1, g2⟩ := Ch.split hc
    obtain ⟨hs, rfl, rfl⟩ := g2
    obtain ⟨y, h1, h2⟩ := I.cover a m s.a ha g1 (by omega)
    obtain ⟨z, h3, h4⟩ := fold_at S st hs h1
    refine ⟨z, h3, ?_⟩
    rw [costL_app, costL_cons, costL_nil]
    grind
/-- when all short chains are covered, all is least -/
theorem Inv.fixed {S : List StepV} {start : Str → Prop} {k : Nat} {sums : Dic Str Rat} {pl : Str → Rat} {F : List Str} (I : Inv S start k sums) (P : Pot S pl) (hb : ∀ s ∈ S, s.b ∈ F) (ha : ∀ a, start a → a ∈ F) (hk : F.length ≤ k + 1) : Fixed S sums := fun s hs x hx => by
  obtain ⟨a, l, h1, h2, h3⟩ := I.real s.a x hx
  obtain ⟨l', g1, g2, g3⟩ := (h2.snoc hs).short P hb (ha a h1) _ (Nat.le_refl _)
  obtain ⟨y, k1, k2⟩ := I.cover a l' s.b h1 g1 (by omega)
  refine ⟨y, k1, ?_⟩
  rw [costL_app, costL_cons, costL_nil, h3] at g3
  grind
/-- and then all chains are covered -/
theorem Inv.all {S : List StepV} {start : Str → Prop} {k : Nat} {sums : Dic Str Rat} (I : Inv S start k sums) (h : Fixed S sums) : ∀ (l : List StepV) (a f : Str), start a → Ch S a l f → ∃ y, sums.get? f = some y ∧ y ≤ costL l := by
  have key : ∀ (l : List StepV) (a f : Str) (x : Rat), sums.get? a = some x → Ch S a l f → ∃ y, sums.get? f = some y ∧ y ≤ x + costL l := by
    intro l
    induction l with
    | nil => intro a f x hx hc; cases hc; exact ⟨x, hx, by rw [costL_nil]; grind⟩
    | cons s l ih =>
      intro a f x hx hc
      obtain ⟨h1, rfl, h3⟩ := hc
      obtain ⟨y, g1, g2⟩ := h s h1 x hx
      obtain ⟨z, k1, k2⟩ := ih s.b f y g1 h3
      exact ⟨z, k1, by rw [costL_cons]; grind⟩
  intro l a f ha hc
  obtain ⟨x, h1, h2⟩ := I.cover a [] a ha rfl (Nat.zero_le _)
  obtain ⟨y, g1, g2⟩ := key l a f x h1 hc
  rw [costL_nil] at h2
  exact ⟨y, g1, by grind⟩
end TF


/-! PK2: what the program's steps, rounds and walks tell. -/
namespace TF
open PySem PySem.Spec PyProof.Rows L2 DL FR
open Enc KeyT
def stepsT (t : TieV) : List StepV := (tieSteps t).map fun x => T4.mk x.a x.b x.c (t.name, x.d)
def stepsV (ts : List TieV) : List StepV := ts.flatMap stepsT
theorem tieof_ok {t : TieV} (h : t.Ok) (s : t.Sm) : F_tie_of (enc t) = .ok ⟨t⟩ := by
  unfold F_tie_of
  rw [enc_tie, if_pos (tieIn_tie h s), deTie_tie h]
theorem tieSteps_len (t : TieV) : (tieSteps t).length ≤ 2 := by
  unfold tieSteps
  cases t.low <;> cases t.high <;> simp
theorem steps_app : ∀ (l : List (T4 Str Str Rat Bool)) (n : Str) (acc : List StepV), acc.length + l.length < 1000000 → (foldR l acc fun x_33 st_34 => (few st_34).bind fun x => R.ok (st_34 ++ [({ a := x_33.a, b := x_33.b, c := x_33.c, d := (n, x_33.d) } : StepV)])) = .ok (acc ++ l.map fun x => T4.mk x.a x.b x.c (n, x.d))
  | [], n, acc, _ => by simp [foldR]
  | x :: l, n, acc, h => by
    rw [List.length_cons] at h
    unfold foldR
    dsimp only
    rw [few_ok (by omega), R.ok_bind, R.ok_bind, steps_app l n _ (by rw [List.length_append, List.length_singleton]; omega)]
    simp
theorem all_steps_ok {ts : List TieV} (h : ∀ t ∈ ts, t.Ok ∧ t.Sm) (hl : ts.length ≤ 1000) : F_all_steps ts = .ok (stepsV ts) := by
  unfold F_all_steps
  simp only [R.ok_bind, R.exc_bind, R.bad_bind, R.bind_assoc, R.noexc_ok, R.b2, R.map, R.cond, R.flow, addI, subI, andB, orB, unw_some, unw_none, few_nil, ofRat, isCls, Option.isNone_none, Option.isNone_some, Bool.not_true, Bool.not_false, Bool.false_eq_true, if_true, if_false]
  have main : ∀ body : TieV → List StepV → R (List StepV), (∀ t ∈ ts, ∀ acc : List StepV, acc.length ≤ 3000 → body t acc = .ok (acc ++ stepsT t)) → foldR ts [] body = .ok (stepsV ts) := by
    intro body hb
    have key : ∀ (l : List TieV) (acc : List StepV), (∀ t ∈ l, t ∈ ts) → acc.length + 2 * l.length ≤ 3000 → foldR l acc body = .ok (acc ++ stepsV l) := by
      intro l
      induction l with
      | nil => intro acc _ _; simp [foldR, stepsV]
      | cons t l ih =>
        intro acc hs hlen
        rw [List.length_cons] at hlen
        have := tieSteps_len t
        unfold foldR
        rw [hb t (hs t List.mem_cons_self) acc (by omega), R.ok_bind, ih _ (fun u hu => hs u (List.mem_cons_of_mem _ hu)) (by rw [List.length_append, stepsT, List.length_map]; omega)]
        unfold stepsV
        rw [List.flatMap_cons, List.append_assoc]
    have := key ts [] (fun _ h => h) (by simp; omega)
    simpa using this
  refine bind_ofE (main _ fun t ht acc hacc => ?_) rfl
  obtain ⟨h1, h2⟩ := h t ht
  have := tieSteps_len t
  rw [tieof_ok h1 h2, R.ok_bind]
  unfold F_Tie_steps
  rw [if_pos h2, R.ok_bind, steps_app _ _ _ (by have := tieSteps_len t; simp only at *; omega), R.ok_bind]
  rfl
def Bnd (N B : Nat) (d : Dic Str Rat) : Prop := ∀ f x, d.get? f = some x → Gd N B x
theorem put_len {α : Type} {d : Dic Str α} {k : Str} {a : α} : (d.put k a).l.length ≤ d.l.length + 1 := by
  by_cases h : k ∈ d.keys
  · rw [Dic.put_old h, List.length_map]; omega
  · rw [Dic.put_new h, List.length_append, List.length_singleton]; exact Nat.le_refl _
theorem Bnd.put {N B : Nat} {d : Dic Str Rat} (h : Bnd N B d) {k : Str} {x : Rat} (hx : Gd N B x) : Bnd N B (d.put k x) := fun f y hy => by
  rw [Dic.get_put] at hy
  by_cases hf : f = k
  · rw [if_pos hf] at hy; cases hy; exact hx
  · rw [if_neg hf] at hy; exact h f y hy
theorem Bnd.mono {N B B' : Nat} {d : Dic Str Rat} (h : Bnd N B d) (hb : B ≤ B') : Bnd N B' d := fun f x hx => (h f x hx).mono hb
theorem relax_bnd {N B C : Nat} {st : BF} {s : StepV} (h : Bnd N B st.sums) (hc : Gd N C s.c) : Bnd N (B + C) (relax st s).sums := by
  unfold relax
  cases hx : st.sums.get? s.a with
  | none => exact h.mono (Nat.le_add_right _ _)
  | some x =>
    have up : Bnd N (B + C) (st.upd s (x + s.c)).sums := (h.mono (Nat.le_add_right _ _)).put ((h _ _ hx).add hc)
    simp only
    cases st.sums.get? s.b with
    | none => exact up
    | some y =>
      simp only
      split
      · exact up
      · exact h.mono (Nat.le_add_right _ _)
theorem relax_len {st : BF} {s : StepV} : (relax st s).sums.l.length ≤ st.sums.l.length + 1 ∧ (relax st s).ways.l.length ≤ st.ways.l.length + 1 := by
  unfold relax
  cases st.sums.get? s.a with
  | none => exact ⟨by simp, by simp⟩
  | some x =>
    simp only
    cases st.sums.get? s.b with
    | none => exact ⟨put_len, put_len⟩
    | some y =>
      simp only
      split
      · exact ⟨put_len, put_len⟩
      · exact ⟨by simp, by simp⟩
def trip (st : BF) : Dic Str Rat × Dic Str WayV × Option Str := (st.sums, st.ways, st.last)
structure Small (N B L : Nat) (st : BF) : Prop where
  bnd : Bnd N B st.sums
  l1 : st.sums.l.length ≤ L
  l2 : st.ways.l.length ≤ L
theorem fold_small {N C : Nat} : ∀ (T : List StepV) {u : BF} {B L : Nat}, (∀ s ∈ T, Gd N C s.c) → Small N B L u → Small N (B + T.length * C) (L + T.length) (T.foldl relax u)
  | [], u, B, L, _, hu => by simpa using hu
  | s :: T, u, B, L, hc, hu => by
    have rl := relax_len (st := u) (s := s)
    have := fold_small T (u := relax u s) (B := B + C) (L := L + 1) (fun t ht => hc t (List.mem_cons_of_mem _ ht)) ⟨relax_bnd hu.bnd (hc s List.mem_cons_self), by have := hu.l1; omega, by have := hu.l2; omega⟩
    rw [List.foldl_cons, List.length_cons, Nat.add_mul, Nat.one_mul]
    have e1 : B + (T.length * C + C) = B + C + T.length * C := by omega
    have e2 : L + (T.length + 1) = L + 1 + T.length := by omega
    rw [e1, e2]; exact this
theorem round_ok {N B C L : Nat} {S : List StepV} {st : BF} (h : Small N B L st) (hl : st.last = none) (hS : ∀ s ∈ S, Gd N C s.c) (Np : 0 < N) (Nb : N ≤ 2 ^ 1500) (hB : B + S.length * C + C ≤ 10 ^ 50) (hL : L + S.length < 1000000) :
    F_one_round S st.sums st.ways = .ok ((S.foldl relax st).last, (S.foldl relax st).sums, (S.foldl relax st).ways) := by
  have main : ∀ body : StepV → (Dic Str Rat × Dic Str WayV × Option Str) → R (Dic Str Rat × Dic Str WayV × Option Str), (∀ s ∈ S, ∀ u : BF, Small N (B + S.length * C) (L + S.length) u → body s (trip u) = .ok (trip (relax u s))) →
      ∀ (T : List StepV) (u : BF) (B' L' : Nat), (∀ s ∈ T, s ∈ S) → Small N B' L' u → B' + T.length * C ≤ B + S.length * C → L' + T.length ≤ L + S.length →
      foldR T (trip u) body = .ok (trip (T.foldl relax u)) := by
    intro body hb T
    induction T with
    | nil => intro u B' L' _ hu h1 h2; rfl
    | cons s T ih =>
      intro u B' L' hs hu h1 h2
      rw [List.length_cons, Nat.add_mul, Nat.one_mul] at h1
      rw [List.length_cons] at h2
      have sS := hs s List.mem_cons_self
      unfold foldR
      rw [hb s sS u ⟨hu.bnd.mono (by omega), by have := hu.l1; omega, by have := hu.l2; omega⟩, R.ok_bind, List.foldl_cons]
      have rl := relax_len (st := u) (s := s)
      exact ih (relax u s) (B' + C) (L' + 1) (fun t ht => hs t (List.mem_cons_of_mem _ ht)) ⟨relax_bnd hu.bnd (hS s sS), by have := hu.l1; omega, by have := hu.l2; omega⟩ (by omega) (by omega)
  unfold F_one_round
  simp only [R.ok_bind, R.exc_bind, R.bad_bind, R.bind_assoc, R.noexc_ok, R.b2, R.map, R.cond, R.flow, addI, subI, andB, orB, unw_some, unw_none, few_nil, ofRat, isCls, Option.isNone_none, Option.isNone_some, Bool.not_true, Bool.not_false, Bool.false_eq_true, if_true, if_false]
  have est : ((st.sums, st.ways, none) : Dic Str Rat × Dic Str WayV × Option Str) = trip st := by unfold trip; rw [hl]
  rw [est]
  refine bind_ofE (main _ (fun s hs u hu => ?_) S st B L (fun _ h => h) h (Nat.le_refl _) (Nat.le_refl _)) rfl
  have sm : ∀ q : Rat, Gd N (B + S.length * C + C) q → Sm q := fun q hq => smW hq hB Np Nb
  have f1 : fewD u.sums = .ok () := fewD_ok (by have := hu.l1; omega)
  have f2 : fewD u.ways = .ok () := fewD_ok (by have := hu.l2; omega)
  unfold trip relax
  dsimp only
  cases hx : u.sums.get? s.a with
  | none => rfl
  | some x =>
    have gx := hu.bnd _ _ hx
    have gt := gx.add (hS s hs)
    simp only [Option.isSome_some, if_true]
    rw [getR_ok hx, R.ok_bind]
    unfold F_plus F_under
    rw [if_pos ⟨sm x (gx.mono (Nat.le_add_right _ _)), sm s.c ((hS s hs).mono (by omega))⟩, R.ok_bind]
    cases hy : u.sums.get? s.b with
    | none =>
      simp only [Option.isSome_none, Bool.not_false, if_true, R.ok_bind]
      rw [f1, R.ok_bind, f2, R.ok_bind]
      rfl
    | some y =>
      simp only [Option.isSome_some, Bool.not_true, Bool.false_eq_true, if_false]
      rw [getR_ok hy, R.ok_bind, if_pos ⟨sm _ gt, sm y ((hu.bnd _ _ hy).mono (Nat.le_add_right _ _))⟩, R.ok_bind]
      by_cases hlt : x + s.c < y
      · rw [decide_eq_true hlt, if_pos rfl, if_pos hlt, f1, R.ok_bind, f2, R.ok_bind]
        rfl
      · rw [decide_eq_false hlt, if_neg (by decide), if_neg hlt]
end TF


/-! PK3: least_places tells places where the ties can be kept. -/
namespace TF
open PySem PySem.Spec PyProof.Rows L2 DL FR
open Enc KeyT
/-- ties that some places keep: their steps, faces and numbers -/
structure Book0 (N C : Nat) (ts : List TieV) (pl : Str → Rat) : Prop where
  ok : ∀ t ∈ ts, t.Ok ∧ t.Sm
  len : ts.length ≤ 100
  P : Pot (stepsV ts) pl
  c : ∀ s ∈ stepsV ts, Gd N C s.c
  Np : 0 < N
  Nb : N ≤ 2 ^ 1500
  C0 : C ≤ 10 ^ 43
  fo : F_faces_of ts = .ok (facesV ts)
  fl : (facesV ts).length ≤ 20
section
variable {N C : Nat} {ts : List TieV} {pl : Str → Rat}
theorem steps_mem {s : StepV} (h : s ∈ stepsV ts) : s.a ∈ facesV ts ∧ s.b ∈ facesV ts := by
  unfold stepsV at h
  obtain ⟨t, ht, hs⟩ := List.mem_flatMap.mp h
  unfold stepsT at hs
  obtain ⟨x, hx, rfl⟩ := List.mem_map.mp hs
  have h1 : t.start ∈ facesV ts := facesV_mem.mpr (List.mem_append_left _ (List.mem_map.mpr ⟨t, ht, rfl⟩))
  have h2 : t.fin ∈ facesV ts := facesV_mem.mpr (List.mem_append_right _ (List.mem_map.mpr ⟨t, ht, rfl⟩))
  unfold tieSteps at hx
  rcases List.mem_append.mp hx with hx | hx
  · cases hh : t.high with
    | none => rw [hh] at hx; exact nomatch hx
    | some u => rw [hh] at hx; rw [List.mem_singleton.mp hx]; exact ⟨h1, h2⟩
  · cases hh : t.low with
    | none => rw [hh] at hx; exact nomatch hx
    | some u => rw [hh] at hx; rw [List.mem_singleton.mp hx]; exact ⟨h2, h1⟩
theorem steps_len : (stepsV ts).length ≤ 2 * ts.length := by
  induction ts with
  | nil => simp [stepsV]
  | cons t ts ih =>
    unfold stepsV at ih ⊢
    rw [List.flatMap_cons, List.length_append, List.length_cons]
    have := tieSteps_len t
    unfold stepsT
    rw [List.length_map]
    unfold stepsT at ih
    omega
structure Placed (N : Nat) (ts : List TieV) (sums : Dic Str Rat) : Prop where
  fx : Fixed (stepsV ts) sums
  all : ∀ f ∈ facesV ts, ∃ x, sums.get? f = some x
  bnd : Bnd N (10 ^ 48) sums
end
end TF


/-! PK4: the ways back to the face that is asked from. -/
namespace TF
open PySem PySem.Spec PyProof.Rows L2 DL FR
open Enc KeyT
def Back (ways : Dic Str WayV) (one : Str) : List Str → Str → Prop
  | [], f => f = one
  | g :: l, f => f = g ∧ f ≠ one ∧ ∃ p pr, ways.get? f = some (p, pr) ∧ Back ways one l p
theorem Back.det {ways : Dic Str WayV} {one : Str} : ∀ {l m : List Str} {f : Str}, Back ways one l f → Back ways one m f → l = m
  | [], [], f, _, _ => rfl
  | [], g :: m, f, h, k => absurd h k.2.1
  | g :: l, [], f, h, k => absurd k h.2.1
  | g :: l, g' :: m, f, h, k => by
    obtain ⟨rfl, h1, p, pr, h2, h3⟩ := h
    obtain ⟨rfl, k1, q, qr, k2, k3⟩ := k
    rw [h2] at k2
    cases k2
    rw [Back.det h3 k3]
theorem Back.mem {ways : Dic Str WayV} {one : Str} : ∀ {l : List Str} {f g : Str}, Back ways one l f → g ∈ l → ∃ m, Back ways one m g ∧ m.length ≤ l.length
  | g' :: l, f, g, h, hg => by
    rcases List.mem_cons.mp hg with rfl | hg
    · have := h.1
      subst this
      exact ⟨_, h, Nat.le_refl _⟩
    · obtain ⟨_, _, p, pr, _, h3⟩ := h
      obtain ⟨m, k1, k2⟩ := Back.mem h3 hg
      exact ⟨m, k1, by rw [List.length_cons]; omega⟩
theorem Back.nd {ways : Dic Str WayV} {one : Str} : ∀ {l : List Str} {f : Str}, Back ways one l f → l.Nodup
  | [], _, _ => List.nodup_nil
  | g :: l, f, h => by
    have h0 := h
    obtain ⟨rfl, h1, p, pr, h2, h3⟩ := h
    refine List.nodup_cons.mpr ⟨fun hm => ?_, Back.nd h3⟩
    obtain ⟨m, k1, k2⟩ := Back.mem h3 hm
    have := congrArg List.length (Back.det h0 k1)
    rw [List.length_cons] at this
    omega
theorem Back.keys {ways : Dic Str WayV} {one : Str} : ∀ {l : List Str} {f : Str}, Back ways one l f → ∀ g ∈ l, g ∈ ways.keys
  | g' :: l, f, h, g, hg => by
    obtain ⟨rfl, h1, p, pr, h2, h3⟩ := h
    rcases List.mem_cons.mp hg with rfl | hg
    · exact Dic.isSome_iff.mp (by rw [h2]; rfl)
    · exact Back.keys h3 g hg
structure WI (S : List StepV) (one : Str) (st : BF) : Prop where
  wk : ∀ f p pr, st.ways.get? f = some (p, pr) → ∃ s ∈ S, ∃ y x, s.a = p ∧ s.b = f ∧ s.d = pr ∧ st.sums.get? p = some y ∧ st.sums.get? f = some x ∧ y + s.c ≤ x
  s1 : ∃ z, st.sums.get? one = some z
  bk : ∀ f x, st.sums.get? f = some x → ∃ l, Back st.ways one l f
section
variable {S : List StepV} {one : Str} {st : BF}
theorem WI.anc (W : WI S one st) : ∀ {l : List Str} {f b : Str} {x : Rat}, Back st.ways one l f → st.sums.get? f = some x → (b ∈ l ∨ b = one) → ∃ z m, st.sums.get? b = some z ∧ Ch S b m f ∧ z + costL m ≤ x
  | [], f, b, x, h, hx, hb => by
    have e : f = one := h
    rcases hb with hb | hb
    · exact nomatch hb
    · rw [e] at hx ⊢
      rw [hb]
      exact ⟨x, [], hx, rfl, by rw [costL_nil]; grind⟩
  | g :: l, f, b, x, h, hx, hb => by
    obtain ⟨rfl, h1, p, pr, h2, h3⟩ := h
    by_cases hbf : b = f
    · subst hbf
      exact ⟨x, [], hx, rfl, by rw [costL_nil]; grind⟩
    · obtain ⟨s, hs, y, x', rfl, e2, e3, e4, e5, e6⟩ := W.wk f p pr h2
      rw [hx] at e5; cases e5
      have hb' : b ∈ l ∨ b = one := hb.imp_left fun h => (List.mem_cons.mp h).resolve_left hbf
      obtain ⟨z, m, k1, k2, k3⟩ := WI.anc W h3 e4 hb'
      refine ⟨z, m ++ [s], k1, ?_, ?_⟩
      · rw [← e2]; exact k2.snoc hs
      · rw [costL_app, costL_cons, costL_nil]; grind
theorem back_keep {ways : Dic Str WayV} {b : Str} {w : WayV} : ∀ {l : List Str} {f : Str}, Back ways one l f → b ∉ l → Back (ways.put b w) one l f
  | [], f, h, _ => h
  | g :: l, f, h, hb => by
    obtain ⟨rfl, h1, p, pr, h2, h3⟩ := h
    rw [List.mem_cons, not_or] at hb
    refine ⟨rfl, h1, p, pr, ?_, back_keep h3 hb.2⟩
    rw [Dic.get_put, if_neg (fun e => hb.1 e.symm)]; exact h2
theorem back_turn {ways : Dic Str WayV} {b a : Str} {d : Str × Bool} (hb : b ≠ one) {la : List Str} (ha : Back (ways.put b (a, d)) one la a) : ∀ {l : List Str} {f : Str}, Back ways one l f → ∃ l', Back (ways.put b (a, d)) one l' f
  | [], f, h => ⟨[], h⟩
  | g :: l, f, h => by
    obtain ⟨rfl, h1, p, pr, h2, h3⟩ := h
    by_cases hf : f = b
    · subst hf
      exact ⟨f :: la, rfl, h1, a, d, by rw [Dic.get_put, if_pos rfl], ha⟩
    · obtain ⟨l', k⟩ := back_turn hb ha h3
      exact ⟨f :: l', rfl, h1, p, pr, by rw [Dic.get_put, if_neg hf]; exact h2, k⟩
theorem WI.upd {pl : Str → Rat} (P : Pot S pl) (W : WI S one st) {s : StepV} (hs : s ∈ S) {x : Rat} (hx : st.sums.get? s.a = some x) (hy : ∀ y, st.sums.get? s.b = some y → x + s.c < y) : WI S one (st.upd s (x + s.c)) := by
  obtain ⟨la, hla⟩ := W.bk s.a x hx
  have no : ¬ (s.b ∈ la ∨ s.b = one) := fun hb => by
    obtain ⟨z, m, h1, h2, h3⟩ := W.anc hla hx hb
    have := (h2.snoc hs).ring P
    rw [costL_app, costL_cons, costL_nil] at this
    have := hy z h1
    grind
  rw [not_or] at no
  have hab : s.a ≠ s.b := fun e => by
    have h2 : Ch S s.b [s] s.b := ⟨hs, e, rfl⟩
    have := h2.ring P
    rw [costL_cons, costL_nil] at this
    rw [e] at hx
    have := hy x hx
    grind
  have ha2 := back_keep (b := s.b) (w := (s.a, s.d)) hla no.1
  have gs : ∀ f, (st.upd s (x + s.c)).sums.get? f = if f = s.b then some (x + s.c) else st.sums.get? f := fun f => Dic.get_put ..
  have gw : ∀ f, (st.upd s (x + s.c)).ways.get? f = if f = s.b then some (s.a, s.d) else st.ways.get? f := fun f => Dic.get_put ..
  refine ⟨fun f p pr hw => ?_, ?_, fun f z hz => ?_⟩
  · rw [gw] at hw
    by_cases hf : f = s.b
    · rw [if_pos hf] at hw
      cases hw
      exact ⟨s, hs, x, x + s.c, rfl, hf.symm, rfl, by rw [gs, if_neg hab]; exact hx, by rw [gs, if_pos hf], Rat.le_refl⟩
    · rw [if_neg hf] at hw
      obtain ⟨t, ht, y, z, e1, e2, e3, e4, e5, e6⟩ := W.wk f p pr hw
      by_cases hp : p = s.b
      · rw [hp] at e4
        exact ⟨t, ht, x + s.c, z, e1, e2, e3, by rw [gs, if_pos hp], by rw [gs, if_neg hf]; exact e5, by have := hy y e4; grind⟩
      · exact ⟨t, ht, y, z, e1, e2, e3, by rw [gs, if_neg hp]; exact e4, by rw [gs, if_neg hf]; exact e5, e6⟩
  · obtain ⟨z, hz⟩ := W.s1
    exact ⟨z, by rw [gs, if_neg (Ne.symm no.2)]; exact hz⟩
  · rw [gs] at hz
    by_cases hf : f = s.b
    · rw [hf]
      exact ⟨s.b :: la, rfl, no.2, s.a, s.d, by rw [gw, if_pos rfl], ha2⟩
    · rw [if_neg hf] at hz
      obtain ⟨l, hl⟩ := W.bk f z hz
      exact back_turn no.2 ha2 hl
theorem WI.relax {pl : Str → Rat} (P : Pot S pl) (W : WI S one st) {s : StepV} (hs : s ∈ S) : WI S one (relax st s) := by
  unfold TF.relax
  cases hx : st.sums.get? s.a with
  | none => exact W
  | some x =>
    simp only
    cases hy : st.sums.get? s.b with
    | none => exact W.upd P hs hx fun y h => by rw [hy] at h; cases h
    | some y =>
      simp only
      split
      · rename_i hlt
        exact W.upd P hs hx fun y' h => by rw [hy] at h; cases h; exact hlt
      · exact W
end
theorem WI.fold {S : List StepV} {one : Str} {pl : Str → Rat} (P : Pot S pl) : ∀ (T : List StepV), (∀ s ∈ T, s ∈ S) → ∀ {st : BF}, WI S one st → WI S one (T.foldl TF.relax st)
  | [], _, _, W => W
  | s :: T, hT, st, W => WI.fold P T (fun t ht => hT t (List.mem_cons_of_mem _ ht)) (W.relax P (hT s List.mem_cons_self))
theorem eqS' {a b : Str} (h : GdS a) (k : GdS b) : eqR true a b = .ok (!decide (a = b)) := by
  rw [eqR_ok h k]; simp
def prOf (ways : Dic Str WayV) (g : Str) : Str × Bool := match ways.get? g with
  | some w => w.2
  | none => (g, true)
theorem way_back_ok {ways : Dic Str WayV} {one f : Str} {l : List Str} (h : Back ways one l f) (hl : ways.l.length ≤ 6000) (hg : ∀ g ∈ ways.keys, GdS g) (hp : ∀ g p pr, ways.get? g = some (p, pr) → GdS p) (g1 : GdS one) (gf : GdS f) : F_way_back ways f one = .ok (l.map (prOf ways)).reverse := by
  have ll : l.length ≤ 6000 := by
    have := nodup_sub_len h.nd (m := ways.keys) h.keys
    have e : ways.keys.length = ways.l.length := List.length_map ..
    omega
  unfold F_way_back
  simp only [R.ok_bind, R.exc_bind, R.bad_bind, R.bind_assoc, R.noexc_ok, R.b2, R.map, R.cond, R.flow, addI, subI, andB, orB, unw_some, unw_none, few_nil, ofRat, isCls, Option.isNone_none, Option.isNone_some, Bool.not_true, Bool.not_false, Bool.false_eq_true, if_true, if_false]
  have key : ∀ (l : List Str) (f : Str) (acc : List (Str × Bool)), Back ways one l f → GdS f → acc.length + l.length < 1000000 → (whileR (ρ := List (Str × Bool)) (fun st_2 : Str × List (Str × Bool) => eqR true st_2.fst one) (fun st_2 => (getR ways st_2.fst).bind fun p_9 => (few st_2.snd).bind fun x => R.ok (Fl.nx (p_9.fst, st_2.snd ++ [p_9.snd]))) (f, acc)) = .ok (.nx (one, acc ++ l.map (prOf ways))) := by
    intro l
    induction l with
    | nil =>
      intro f acc h gf _
      have e : f = one := h
      subst e
      rw [whileR_eq]
      simp only
      rw [eqS' g1 g1]
      simp
    | cons g l ih =>
      intro f acc h gf hlen
      obtain ⟨rfl, h1, p, pr, h2, h3⟩ := h
      rw [List.length_cons] at hlen
      have e := ih p (acc ++ [pr]) h3 (hp f p pr h2) (by rw [List.length_append, List.length_singleton]; omega)
      have ep : prOf ways f = pr := by unfold prOf; rw [h2]
      rw [whileR_eq]
      simp only
      rw [eqS' gf g1, R.ok_bind, decide_eq_false h1]
      simp only [Bool.not_false, if_true]
      rw [getR_ok h2, R.ok_bind, few_ok (by omega), R.ok_bind, R.ok_bind]
      rw [List.map_cons, ep]
      rw [List.append_assoc, List.singleton_append] at e
      exact e
  have e := key l f [] h gf (by simp; omega)
  rw [e]
  rfl
theorem Back.ne {ways : Dic Str WayV} {one : Str} : ∀ {l : List Str} {f : Str}, Back ways one l f → one ∉ l
  | [], _, _ => by simp
  | g :: l, f, h => by
    obtain ⟨rfl, h1, p, pr, h2, h3⟩ := h
    rw [List.mem_cons, not_or]
    exact ⟨fun e => h1 e.symm, Back.ne h3⟩
theorem WI.back_chain {S : List StepV} {one : Str} {st : BF} (W : WI S one st) : ∀ {l : List Str} {f : Str} {x : Rat}, Back st.ways one l f → st.sums.get? f = some x → ∃ z m, st.sums.get? one = some z ∧ Ch S one m f ∧ z + costL m ≤ x ∧ m.map (·.d) = (l.map (prOf st.ways)).reverse ∧ m.map (·.b) = l.reverse
  | [], f, x, h, hx => by
    have e : f = one := h
    rw [e] at hx ⊢
    exact ⟨x, [], hx, rfl, by rw [costL_nil]; grind, rfl, rfl⟩
  | g :: l, f, x, h, hx => by
    obtain ⟨rfl, h1, p, pr, h2, h3⟩ := h
    obtain ⟨s, hs, y, x', rfl, e2, e3, e4, e5, e6⟩ := W.wk f p pr h2
    rw [hx] at e5; cases e5
    obtain ⟨z, m, k1, k2, k3, k4, k5⟩ := WI.back_chain W h3 e4
    have ep : prOf st.ways f = pr := by unfold prOf; rw [h2]
    refine ⟨z, m ++ [s], k1, ?_, ?_, ?_, ?_⟩
    · rw [← e2]; exact k2.snoc hs
    · rw [costL_app, costL_cons, costL_nil]; grind
    · simp [k4, ep, e3]
    · simp [k5, e2]
end TF


/-! PK5: reached tells the least sums. -/
namespace TF
open PySem PySem.Spec PyProof.Rows L2 DL FR
open Enc KeyT
theorem put_nd {α : Type} {d : Dic Str α} {k : Str} {a : α} (h : d.keys.Nodup) : (d.put k a).keys.Nodup := by
  unfold Dic.keys at *
  by_cases hk : k ∈ d.keys
  · rw [Dic.put_old hk, List.map_map]
    have e : d.l.map ((·.1) ∘ fun p => if p.1 = k then (p.1, a) else p) = d.l.map (·.1) := List.map_congr_left fun p _ => by
      show (if p.1 = k then (p.1, a) else p).1 = p.1
      split <;> rfl
    rw [e]; exact h
  · rw [Dic.put_new hk, List.map_append, List.map_cons, List.map_nil]
    exact List.nodup_append.mpr ⟨h, by simp, fun x hx y hy e => by
      rw [List.mem_singleton.mp hy] at e
      have e' : x = k := e
      exact hk (e' ▸ hx)⟩
theorem relax_nd {st : BF} {s : StepV} (h : st.sums.keys.Nodup) : (relax st s).sums.keys.Nodup := by
  unfold relax
  cases st.sums.get? s.a with
  | none => exact h
  | some x =>
    simp only
    cases st.sums.get? s.b with
    | none => exact put_nd h
    | some y =>
      simp only
      split
      · exact put_nd h
      · exact h
theorem fold_nd : ∀ (T : List StepV) {st : BF}, st.sums.keys.Nodup → (T.foldl relax st).sums.keys.Nodup
  | [], _, h => h
  | _ :: T, _, h => fold_nd T (relax_nd h)
theorem Ch.end_ {S : List StepV} {F : List Str} (hb : ∀ s ∈ S, s.b ∈ F) : ∀ {l : List StepV} {a f : Str}, a ∈ F → Ch S a l f → f ∈ F
  | [], a, f, ha, h => by cases h; exact ha
  | s :: l, a, f, _, h => Ch.end_ hb (hb s h.1) h.2.2
/-- the least sums from a face -/
structure Reach (N : Nat) (ts : List TieV) (one : Str) (D : Dic Str Rat) : Prop where
  fx : Fixed (stepsV ts) D
  real : ∀ f x, D.get? f = some x → ∃ l, Ch (stepsV ts) one l f ∧ costL l = x
  all : ∀ l f, Ch (stepsV ts) one l f → ∃ y, D.get? f = some y ∧ y ≤ costL l
  bnd : Bnd N (10 ^ 48) D
  nd : D.keys.Nodup
structure RSt (N : Nat) (ts : List TieV) (one : Str) (D : Dic Str Rat) (ways : Dic Str WayV) : Prop where
  R : Reach N ts one D
  W : WI (stepsV ts) one ⟨D, ways, none⟩
  len : ways.l.length ≤ 6000
section
variable {N C : Nat} {ts : List TieV} {pl : Str → Rat} {one : Str}
theorem rounds_ok (K : Book0 N C ts pl) (h1 : one ∈ facesV ts) (ρ : Type) : (whileR (ρ := ρ) (fun st_8 : Dic Str Rat × Dic Str WayV × Option Str => R.ok !st_8.2.2.isNone) (fun st_8 => (F_one_round (stepsV ts) st_8.1 st_8.2.1).noexc.bind fun pr_26 => R.ok (Fl.nx (pr_26.2.1, pr_26.2.2, pr_26.1))) (⟨[(one, 0)]⟩, ⟨[]⟩, some one)).sat fun r => ∃ D ways, r = .nx (D, ways, none) ∧ RSt N ts one D ways := by
  have hlen := K.len
  have hsl := steps_len (ts := ts)
  have hfl := K.fl
  have SC : (stepsV ts).length * C ≤ 200 * 10 ^ 43 := Nat.mul_le_mul (by omega) K.C0
  have main : ∀ (j : Nat) (sums : Dic Str Rat) (ways : Dic Str WayV) (x : Str) (k : Nat), k + j = (facesV ts).length + 1 → 0 < j → Inv (stepsV ts) (· = one) k sums → WI (stepsV ts) one ⟨sums, ways, none⟩ → sums.keys.Nodup → Small N (k * ((stepsV ts).length * C)) (20 + k * (stepsV ts).length) ⟨sums, ways, none⟩ →
      (whileR (ρ := ρ) (fun st_8 : Dic Str Rat × Dic Str WayV × Option Str => R.ok !st_8.2.2.isNone) (fun st_8 => (F_one_round (stepsV ts) st_8.1 st_8.2.1).noexc.bind fun pr_26 => R.ok (Fl.nx (pr_26.2.1, pr_26.2.2, pr_26.1))) (sums, ways, some x)).sat fun r => ∃ D ways, r = .nx (D, ways, none) ∧ RSt N ts one D ways := by
    intro j
    induction j with
    | zero => intro _ _ _ _ _ h; omega
    | succ j ih =>
      intro sums ways x k hk _ I W nd Sm0
      have hB : k * ((stepsV ts).length * C) + (stepsV ts).length * C + C ≤ 10 ^ 50 := by
        have h1 : k * ((stepsV ts).length * C) ≤ 20 * (200 * 10 ^ 43) := Nat.mul_le_mul (by omega) SC
        refine Nat.le_trans (Nat.add_le_add (Nat.add_le_add h1 SC) K.C0) (by decide)
      have hL : 20 + k * (stepsV ts).length + (stepsV ts).length < 1000000 := by
        have : k * (stepsV ts).length ≤ 20 * 200 := Nat.mul_le_mul (by omega) (by omega)
        omega
      have ro := round_ok (st := ⟨sums, ways, none⟩) Sm0 rfl K.c K.Np K.Nb hB hL
      simp only at ro
      rw [whileR_eq]
      simp only [R.ok_bind, Option.isNone_some, Bool.not_false, if_true]
      rw [ro, R.noexc_ok, R.ok_bind, R.ok_bind]
      by_cases hlast : ((stepsV ts).foldl relax ⟨sums, ways, none⟩).last = none
      · obtain ⟨e, fx⟩ := fold_none (stepsV ts) hlast
        rw [hlast, e]
        simp only
        rw [whileR_eq]
        simp only [R.ok_bind, Option.isNone_none, Bool.not_true, Bool.false_eq_true, if_false]
        refine sat_ok ⟨sums, ways, rfl, ⟨fx, fun f y hy => ?_, fun l f hc => I.all fx l one f rfl hc, Sm0.bnd.mono ?_, nd⟩, W, ?_⟩
        · obtain ⟨a, l, rfl, h2, h3⟩ := I.real f y hy
          exact ⟨l, h2, h3⟩
        · have : k * ((stepsV ts).length * C) ≤ 20 * (200 * 10 ^ 43) := Nat.mul_le_mul (by omega) SC
          exact Nat.le_trans this (by decide)
        · have := Sm0.l2
          have : k * (stepsV ts).length ≤ 20 * 200 := Nat.mul_le_mul (by omega) (by omega)
          simp only at *
          omega
      · obtain ⟨y, hy⟩ := Option.ne_none_iff_exists'.mp hlast
        rw [hy]
        have hj : 0 < j := by
          rcases Nat.eq_zero_or_pos j with h0 | h0
          · exfalso
            have fx := I.fixed K.P (fun s hs => (steps_mem hs).2) (fun a ha => by rw [ha]; exact h1) (by omega)
            exact hlast (by rw [fold_fixed (st := ⟨sums, ways, none⟩) fx _ fun _ h => h])
          · exact h0
        have sm2 := fold_small (stepsV ts) K.c Sm0
        have W2 := WI.fold K.P (stepsV ts) (fun _ h => h) W
        simp only
        refine ih _ _ y (k + 1) (by omega) hj (Inv.round (st := ⟨sums, ways, none⟩) I) ⟨W2.wk, W2.s1, W2.bk⟩ (fold_nd _ nd) ?_
        rw [Nat.add_mul, Nat.one_mul, Nat.add_mul, Nat.one_mul, ← Nat.add_assoc]
        exact ⟨sm2.bnd, sm2.l1, sm2.l2⟩
  have g0 : ∀ f, (⟨[(one, (0 : Rat))]⟩ : Dic Str Rat).get? f = if f = one then some 0 else none := fun f => by
    unfold Dic.get?
    by_cases hf : f = one
    · subst hf; simp
    · have hf' : ¬ one = f := fun e => hf e.symm
      simp [hf, hf']
  refine main ((facesV ts).length + 1) _ _ one 0 (by omega) (by omega) ⟨fun f x hx => ?_, fun a l f ha hc hl => ?_⟩ ⟨fun f p pr h => ?_, ⟨0, by rw [g0, if_pos rfl]⟩, fun f x hx => ?_⟩ (by show [one].Nodup; simp) ⟨fun f x hx => ?_, by show 1 ≤ _; omega, by show 0 ≤ _; omega⟩
  · rw [g0] at hx
    split at hx
    · rename_i hf; cases hx; exact ⟨one, [], rfl, hf.symm, rfl⟩
    · exact nomatch hx
  · have : l = [] := List.length_eq_zero_iff.mp (by omega)
    subst this
    cases hc
    exact ⟨0, by rw [g0, if_pos ha], Rat.le_refl⟩
  · exact nomatch h
  · rw [g0] at hx
    split at hx
    · rename_i hf; exact ⟨[], hf⟩
    · exact nomatch hx
  · rw [g0] at hx
    split at hx
    · cases hx; exact Gd.zero.mono (Nat.zero_le _)
    · exact nomatch hx
theorem Reach.face {D : Dic Str Rat} (R : Reach N ts one D) (h1 : one ∈ facesV ts) {f : Str} {x : Rat} (h : D.get? f = some x) : f ∈ facesV ts := by
  obtain ⟨l, hl, _⟩ := R.real f x h
  exact hl.end_ (fun s hs => (steps_mem hs).2) h1
/-- a chain told: its steps, their cost, no face twice -/
def Told (S : List StepV) (one f : Str) (x : Rat) (c : List (Str × Bool)) : Prop := ∃ m, Ch S one m f ∧ costL m = x ∧ c = m.map (·.d) ∧ (one :: m.map (·.b)).Nodup
theorem Reach.zero {D : Dic Str Rat} (R : Reach N ts one D) (P : Pot (stepsV ts) pl) : D.get? one = some 0 := by
  obtain ⟨y, h1, h2⟩ := R.all [] one rfl
  obtain ⟨l, h3, h4⟩ := R.real one y h1
  have := h3.ring P
  rw [costL_nil] at h2
  rw [h1]
  congr 1
  grind
open Classical in
theorem reached_ok (K : Book0 N C ts pl) (h1 : one ∈ facesV ts) (gF : ∀ f ∈ facesV ts, GdS f) : (F_reached ts one).sat fun r => ∃ (D : Dic Str Rat) (g : Str → List (Str × Bool)), Reach N ts one D ∧ (∀ f x, D.get? f = some x → Told (stepsV ts) one f x (g f)) ∧ r = (sortS (D.l.map (·.1))).map fun f => T3.mk f ((D.get? f).getD 0) (g f) := by
  have hlen := K.len
  have hfl := K.fl
  unfold F_reached
  simp only [R.ok_bind, R.exc_bind, R.bad_bind, R.bind_assoc, R.noexc_ok, R.b2, R.map, R.cond, R.flow, addI, subI, andB, orB, unw_some, unw_none, few_nil, ofRat, isCls, Option.isNone_none, Option.isNone_some, Bool.not_true, Bool.not_false, Bool.false_eq_true, if_true, if_false]
  rw [all_steps_ok K.ok (by omega), R.ok_bind, toRat01, R.ok_bind]
  refine sat_bind (rounds_ok K h1 _) ?_
  rintro r ⟨D, ways, rfl, Q⟩
  have Rr := Q.R
  have kF : ∀ f ∈ D.keys, f ∈ facesV ts := fun f hf => by
    obtain ⟨x, hx⟩ := Option.isSome_iff_exists.mp (Dic.isSome_iff.mpr hf)
    exact Rr.face h1 hx
  have kl : D.l.length ≤ 20 := by
    have := nodup_sub_len Rr.nd kF
    have e : D.keys.length = D.l.length := List.length_map ..
    omega
  have wkF : ∀ g p pr, ways.get? g = some (p, pr) → g ∈ facesV ts ∧ p ∈ facesV ts := fun g p pr h => by
    obtain ⟨s, hs, y, x, e1, e2, _, e4, e5, _⟩ := Q.W.wk g p pr h
    exact ⟨Rr.face h1 e5, Rr.face h1 e4⟩
  have gw : ∀ g ∈ ways.keys, GdS g := fun g hg => by
    obtain ⟨⟨p, pr⟩, hp⟩ := Option.isSome_iff_exists.mp (Dic.isSome_iff.mpr hg)
    exact gF g (wkF g p pr hp).1
  simp only
  unfold sortedDR
  rw [if_pos (by omega), R.ok_bind]
  let g : Str → List (Str × Bool) := fun f => if h : ∃ l, Back ways one l f then ((Classical.choose h).map (prOf ways)).reverse else []
  have gb : ∀ f x, D.get? f = some x → ∃ l, Back ways one l f ∧ g f = (l.map (prOf ways)).reverse := fun f x hx => by
    have hb := Q.W.bk f x hx
    exact ⟨_, Classical.choose_spec hb, dif_pos hb⟩
  rw [compR_map (fun f => T3.mk f ((D.get? f).getD 0) (g f)) _ (fun f hf => ?_) (by rw [(sortS_perm _).length_eq, List.length_map]; omega), R.noexc_ok]
  · refine sat_ok ⟨D, g, Rr, fun f x hx => ?_, rfl⟩
    obtain ⟨l, hb, eg⟩ := gb f x hx
    obtain ⟨z, m, k1, k2, k3, k4, k5⟩ := Q.W.back_chain hb hx
    have hz := Rr.zero K.P
    have hz' : (⟨D, ways, none⟩ : BF).sums.get? one = some 0 := hz
    rw [hz'] at k1; cases k1
    obtain ⟨y, q1, q2⟩ := Rr.all m f k2
    rw [hx] at q1; cases q1
    refine ⟨m, k2, by grind, ?_, ?_⟩
    · rw [eg, k4]
    · rw [k5]
      exact List.nodup_cons.mpr ⟨fun h => hb.ne (List.mem_reverse.mp h), List.pairwise_reverse.mpr (hb.nd.imp Ne.symm)⟩
  · have hk : f ∈ D.keys := (sortS_perm _).mem_iff.mp hf
    obtain ⟨x, hx⟩ := Option.isSome_iff_exists.mp (Dic.isSome_iff.mpr hk)
    obtain ⟨l, hb, eg⟩ := gb f x hx
    rw [getR_ok hx, R.ok_bind, way_back_ok hb Q.len gw (fun g p pr h => gF p (wkF g p pr h).2) (gF one h1) (gF f (kF f hk)), hx, eg]
    rfl
end
end TF


/-! PK6: what a book tells: places, gaps. -/
namespace TF
open PySem PySem.Spec PyProof.Rows L2 DL FR
open Enc KeyT
section
variable {N C : Nat} {ts : List TieV} {pl : Str → Rat} {one other : Str}
end
end TF


/-! PK7: how far faces not reached are moved. -/
namespace TF
open PySem PySem.Spec PyProof.Rows L2 DL FR
open Enc KeyT
section
variable {N C : Nat} {ts : List TieV} {pl : Str → Rat} {one other : Str}
end
end TF


/-! PK8: what is shown; narrowed ties; books made. -/
namespace TF
open PySem PySem.Spec PyProof.Rows L2 DL FR
open Enc KeyT
section
variable {N C : Nat} {ts : List TieV} {pl : Str → Rat} {one other : Str}
structure Made (N : Nat) (ts : List TieV) (v : Str → Rat) : Prop where
  pot : Pot (stepsV ts) v
  gd : ∀ f ∈ facesV ts, Gd N (10 ^ 49) (v f)
def plV (ts : List TieV) (v : Str → Rat) : List (Str × Rat) := (facesV ts).map fun f => (f, v f)
/-! ### narrowed -/
/-! steps of ties -/
theorem mem_steps {s : StepV} : s ∈ stepsV ts ↔ ∃ t ∈ ts, (∃ u, t.high = some u ∧ s = ⟨t.start, t.fin, u, (t.name, true)⟩) ∨ ∃ u, t.low = some u ∧ s = ⟨t.fin, t.start, -u, (t.name, false)⟩ := by
  unfold stepsV stepsT tieSteps
  rw [List.mem_flatMap]
  constructor
  · rintro ⟨t, ht, hs⟩
    refine ⟨t, ht, ?_⟩
    obtain ⟨x, hx, rfl⟩ := List.mem_map.mp hs
    rcases List.mem_append.mp hx with hx | hx
    · cases hh : t.high with
      | none => rw [hh] at hx; exact nomatch hx
      | some u => rw [hh] at hx; rw [List.mem_singleton.mp hx]; exact .inl ⟨u, rfl, rfl⟩
    · cases hh : t.low with
      | none => rw [hh] at hx; exact nomatch hx
      | some u => rw [hh] at hx; rw [List.mem_singleton.mp hx]; exact .inr ⟨u, rfl, rfl⟩
  · rintro ⟨t, ht, ⟨u, hu, rfl⟩ | ⟨u, hu, rfl⟩⟩
    · refine ⟨t, ht, List.mem_map.mpr ⟨⟨t.start, t.fin, u, true⟩, List.mem_append_left _ ?_, rfl⟩⟩
      rw [hu]; exact List.mem_singleton.mpr rfl
    · refine ⟨t, ht, List.mem_map.mpr ⟨⟨t.fin, t.start, -u, false⟩, List.mem_append_right _ ?_, rfl⟩⟩
      rw [hu]; exact List.mem_singleton.mpr rfl
theorem holds_pot {v : Str → Rat} : (∀ t ∈ ts, tieHolds t (v t.fin - v t.start) = true) ↔ Pot (stepsV ts) v := by
  constructor
  · intro h s hs
    obtain ⟨t, ht, ⟨u, hu, rfl⟩ | ⟨u, hu, rfl⟩⟩ := mem_steps.mp hs
    · have := h t ht
      unfold tieHolds at this
      rw [hu] at this
      simp only [Bool.and_eq_true, decide_eq_true_eq] at this
      simp only
      exact this.2
    · have := h t ht
      unfold tieHolds at this
      rw [hu] at this
      simp only [Bool.and_eq_true, decide_eq_true_eq] at this
      simp only
      have := this.1
      grind
  · intro h t ht
    unfold tieHolds
    rw [Bool.and_eq_true]
    constructor
    · cases hl : t.low with
      | none => rfl
      | some u =>
        have := h _ (mem_steps.mpr ⟨t, ht, .inr ⟨u, hl, rfl⟩⟩)
        simp only at this ⊢
        exact decide_eq_true (by grind)
    · cases hl : t.high with
      | none => rfl
      | some u =>
        have := h _ (mem_steps.mpr ⟨t, ht, .inl ⟨u, hl, rfl⟩⟩)
        simp only at this ⊢
        exact decide_eq_true (by grind)
/-! ### faces, books made -/
theorem facesV_len' {F : List Str} (h : ∀ f ∈ faceL ts, f ∈ F) : (facesV ts).length ≤ F.length := nodup_sub_len (facesV_nd ts) fun f hf => h f (facesV_mem.mp hf)
theorem sortSet_ok' {F : List Str} (h : ∀ f ∈ faceL ts, f ∈ F) (hF : F.length ≤ 60) (hl : ts.length ≤ 1000) : sortSetR (faceL ts) = .ok (facesV ts) := by
  unfold sortSetR
  have h1 := nodup_sub_len (dedS_nd (faceL ts)) (m := F) fun f hf => h f (dedS_mem.mp hf)
  have h3 : (faceL ts).length ≤ 2000 := by unfold faceL; rw [List.length_append, List.length_map, List.length_map]; omega
  rw [if_pos ⟨by omega, by omega⟩]; rfl
theorem faces_of_ok {F : List Str} (h : ∀ f ∈ faceL ts, f ∈ F) (hF : F.length ≤ 60) (hl : ts.length ≤ 1000) : F_faces_of ts = .ok (facesV ts) := by
  unfold F_faces_of
  simp only [R.ok_bind, R.exc_bind, R.bad_bind, R.bind_assoc, R.noexc_ok, R.b2, R.map, R.cond, R.flow, addI, subI, andB, orB, unw_some, unw_none, few_nil, ofRat, isCls, Option.isNone_none, Option.isNone_some, Bool.not_true, Bool.not_false, Bool.false_eq_true, if_true, if_false]
  rw [compR_map (fun t : TieV => t.start) ts (fun _ _ => rfl) (by omega), R.noexc_ok, R.ok_bind, compR_map (fun t : TieV => t.fin) ts (fun _ _ => rfl) (by omega), R.noexc_ok, R.ok_bind, few_ok (by rw [List.length_append, List.length_map, List.length_map]; omega), R.ok_bind]
  exact sortSet_ok' h hF hl
end
end TF


/-! PK9: drawn ties whose bounds drawn places keep. -/
namespace TF
open PySem PySem.Spec PyProof.Rows L2 DL FR
open Enc KeyT
def plF (F : List Str) (pl : List Rat) (f : Str) : Rat := pl.getD (F.findIdx (· == f)) 0
section
variable {F : List Str} {pl : List Rat} {N B : Nat}
theorem findF (nd : F.Nodup) {i : Nat} (h : i < F.length) : F.findIdx (· == F[i]) = i := by
  rw [List.findIdx_eq h]
  refine ⟨by simp, fun j hj => ?_⟩
  have := List.pairwise_iff_getElem.mp nd j i (by omega) h hj
  simpa using this
theorem plF_at (nd : F.Nodup) {i : Nat} (h : i < F.length) (hp : i < pl.length) : plF F pl F[i] = pl[i] := by
  unfold plF
  rw [findF nd h]
  simp [List.getD_eq_getElem?_getD, hp]
structure TiG (F : List Str) (pl : List Rat) (N B : Nat) (t : TieV) : Prop where
  ok : t.Ok
  s : t.start ∈ F.take pl.length
  f : t.fin ∈ F.take pl.length
  keep : tieHolds t (plF F pl t.fin - plF F pl t.start) = true
  lo : ∀ q, t.low = some q → Gd N B q
  hi : ∀ q, t.high = some q → Gd N B q
theorem TiG.sm {t : TieV} (h : TiG F pl N B t) (hB : B ≤ 10 ^ 50) (Np : 0 < N) (Nb : N ≤ 10 ^ 60) : t.Sm := ⟨fun q e => smN (h.lo q e) hB Np Nb, fun q e => smN (h.hi q e) hB Np Nb⟩
structure TisG (F : List Str) (pl : List Rat) (N B : Nat) (ts : List TieV) : Prop where
  ok : ∀ t ∈ ts, TiG F pl N B t
  len : ts.length ≤ 100
  fl : F.length ≤ 20
  B0 : B ≤ 10 ^ 43
  Np : 0 < N
  Nb : N ≤ 10 ^ 60
variable {ts : List TieV}
theorem TisG.fn (T : TisG F pl N B ts) : ∀ f ∈ faceL ts, f ∈ F.take pl.length := fun f hf => by
  unfold faceL at hf
  rcases List.mem_append.mp hf with hf | hf
  · obtain ⟨t, ht, rfl⟩ := List.mem_map.mp hf; exact (T.ok t ht).s
  · obtain ⟨t, ht, rfl⟩ := List.mem_map.mp hf; exact (T.ok t ht).f
theorem TisG.gF (T : TisG F pl N B ts) : ∀ f ∈ facesV ts, GdS f := fun f hf => by
  have hf := facesV_mem.mp hf
  unfold faceL at hf
  rcases List.mem_append.mp hf with hf | hf
  · obtain ⟨t, ht, rfl⟩ := List.mem_map.mp hf; exact (nameB_ok (T.ok t ht).ok.n2).1
  · obtain ⟨t, ht, rfl⟩ := List.mem_map.mp hf; exact (nameB_ok (T.ok t ht).ok.n3).1
theorem TisG.okSm (T : TisG F pl N B ts) : ∀ t ∈ ts, t.Ok ∧ t.Sm := fun t ht => ⟨(T.ok t ht).ok, (T.ok t ht).sm (Nat.le_trans T.B0 (by decide)) T.Np T.Nb⟩
theorem TisG.book (T : TisG F pl N B ts) : Book0 N B ts (plF F pl) where
  ok := T.okSm
  len := T.len
  P := holds_pot.mp fun t ht => (T.ok t ht).keep
  c s hs := by
    obtain ⟨t, ht, ⟨u, hu, rfl⟩ | ⟨u, hu, rfl⟩⟩ := mem_steps.mp hs
    · exact (T.ok t ht).hi u hu
    · exact ((T.ok t ht).lo u hu).neg
  Np := T.Np
  Nb := nbW T.Nb
  C0 := T.B0
  fo := faces_of_ok (F := F) (fun f hf => List.mem_of_mem_take (T.fn f hf)) (by have := T.fl; omega) (by have := T.len; omega)
  fl := Nat.le_trans (facesV_len' (F := F) fun f hf => List.mem_of_mem_take (T.fn f hf)) T.fl
/-- a tie drawn about places: what the laws' own draws come to -/
theorem tie_drawn (nd : F.Nodup) (Fok : ∀ f ∈ F, nameB f = true) {a b : Int} (a0 : 0 ≤ a) (a1 : a < pl.length) (b0 : 0 ≤ b) (b1 : b < pl.length) (hF : pl.length ≤ F.length) (ne : b ≠ a) {name : Str} (hn : nameB name = true) {o1 o2 : Option Rat} {L U : Rat} (gL : Gd N B L) (gU : Gd N B U) {fa fb : Str} (ea : fa = F[a.toNat]'(by omega)) (eb : fb = F[b.toNat]'(by omega)) (c1 : o1 = none ∨ o1 = some L) (c2 : o2 = none ∨ o2 = some U)
    (hL : L ≤ pl[b.toNat]'(by omega) - pl[a.toNat]'(by omega)) (hU : pl[b.toNat]'(by omega) - pl[a.toNat]'(by omega) ≤ U) : TiG F pl N B ⟨name, fa, fb, o1, o2⟩ := by
  subst ea eb
  have fne : F[a.toNat]'(by omega) ≠ F[b.toNat]'(by omega) := fun e => by
    rcases Nat.lt_trichotomy a.toNat b.toNat with q | q | q
    · exact List.pairwise_iff_getElem.mp nd _ _ (by omega) (by omega) q e
    · omega
    · exact List.pairwise_iff_getElem.mp nd _ _ (by omega) (by omega) q e.symm
  have kb := plF_at nd (i := b.toNat) (pl := pl) (by omega) (by omega)
  have ka := plF_at nd (i := a.toNat) (pl := pl) (by omega) (by omega)
  have le' : L ≤ U := Rat.le_trans hL hU
  refine ⟨⟨hn, Fok _ (List.getElem_mem _), Fok _ (List.getElem_mem _), fne, ?_⟩, List.mem_take_iff_getElem.mpr ⟨a.toNat, by omega, rfl⟩, List.mem_take_iff_getElem.mpr ⟨b.toNat, by omega, rfl⟩, ?_, fun q e => ?_, fun q e => ?_⟩
  · rcases c1 with rfl | rfl <;> rcases c2 with rfl | rfl <;> simp [leOb, le']
  · show tieHolds _ (plF F pl (F[b.toNat]'(by omega)) - plF F pl (F[a.toNat]'(by omega))) = true
    rw [kb, ka]
    unfold tieHolds
    rcases c1 with rfl | rfl <;> rcases c2 with rfl | rfl <;> simp [hL, hU]
  · rcases c1 with rfl | rfl
    · exact nomatch e
    · cases e; exact gL
  · rcases c2 with rfl | rfl
    · exact nomatch e
    · cases e; exact gU
theorem sat_bindE {α β : Type} {m : R α} {k : α → R β} {a : α} {Q : β → Prop} (e : m = .ok a) (h : (k a).sat Q) : (m.bind k).sat Q := by rw [e]; exact h
end
end TF


/-! PKA: the laws' own steps and walks of chains; lists that no address holds both of. -/
namespace TF
open PySem PySem.Spec PyProof.Rows L2 DL FR
open Enc KeyT
noncomputable def LC_steps (v_ties : (List TieV)) : R (List (T4 Str Str Rat (Str × Bool))) :=
  (((R.ok ([] : List (T4 Str Str Rat (Str × Bool)))).bind few)).bind fun (steps_here_1 : (List (T4 Str Str Rat (Str × Bool)))) =>
  ((R.ok v_ties)).bind fun l_83 => (foldR l_83 (steps_here_1 : (List (T4 Str Str Rat (Str × Bool)))) (fun (x_2 : TieV) (st_3 : (List (T4 Str Str Rat (Str × Bool)))) =>
  (R.cond (((R.ok x_2.high)).map fun o => !o.isNone)
  (((((R.ok x_2.start)).bind fun t_58 => ((R.ok x_2.fin)).bind fun t_59 => ((((R.ok x_2.high)).bind unw)).bind fun t_60 => ((((R.ok x_2.name)).bind fun t_56 => ((R.ok true)).bind fun t_57 => R.ok (t_56, t_57))).bind fun t_61 => R.ok (T4.mk t_58 t_59 t_60 t_61))).bind fun a_62 => (few st_3).bind fun _ => (R.ok (st_3 ++ [a_62])).bind fun (steps_here_55 : (List (T4 Str Str Rat (Str × Bool)))) =>
  .ok steps_here_55)
  (.ok st_3)).bind fun (st_53 : (List (T4 Str Str Rat (Str × Bool)))) =>
  R.cond (((R.ok x_2.low)).map fun o => !o.isNone)
  (((((R.ok x_2.fin)).bind fun t_78 => ((R.ok x_2.start)).bind fun t_79 => ((((((((((((R.ok x_2.low)).bind unw)).map fun q : Rat => q.num)).map fun a => -a)).bind fun t_74 => ((((((R.ok x_2.low)).bind unw)).map fun q : Rat => (q.den : Int))).bind fun t_75 => R.ok (t_74, t_75))).bind toRat)).bind fun t_80 => ((((R.ok x_2.name)).bind fun t_76 => ((R.ok false)).bind fun t_77 => R.ok (t_76, t_77))).bind fun t_81 => R.ok (T4.mk t_78 t_79 t_80 t_81))).bind fun a_82 => (few st_53).bind fun _ => (R.ok (st_53 ++ [a_82])).bind fun (steps_here_73 : (List (T4 Str Str Rat (Str × Bool)))) =>
  .ok steps_here_73)
  (.ok st_53))).bind fun (st_3 : (List (T4 Str Str Rat (Str × Bool)))) =>
  (R.ok st_3)

section
variable {N C : Nat} {ts : List TieV} {pl : Str → Rat} {one other : Str}
theorem steps_fold (hl : ts.length ≤ 1000) {body : TieV → List StepV → R (List StepV)} (hb : ∀ t ∈ ts, ∀ acc : List StepV, acc.length ≤ 3000 → body t acc = .ok (acc ++ stepsT t)) : foldR ts [] body = .ok (stepsV ts) := by
  have key : ∀ (l : List TieV) (acc : List StepV), (∀ t ∈ l, t ∈ ts) → acc.length + 2 * l.length ≤ 3000 → foldR l acc body = .ok (acc ++ stepsV l) := by
    intro l
    induction l with
    | nil => intro acc _ _; simp [foldR, stepsV]
    | cons t l ih =>
      intro acc hs hlen
      rw [List.length_cons] at hlen
      have := tieSteps_len t
      unfold foldR
      rw [hb t (hs t List.mem_cons_self) acc (by omega), R.ok_bind, ih _ (fun u hu => hs u (List.mem_cons_of_mem _ hu)) (by rw [List.length_append, stepsT, List.length_map]; omega)]
      unfold stepsV
      rw [List.flatMap_cons, List.append_assoc]
  have := key ts [] (fun _ h => h) (by simp; omega)
  simpa using this
theorem lsteps_ok (hl : ts.length ≤ 1000) : LC_steps ts = .ok (stepsV ts) := by
  unfold LC_steps
  simp only [R.ok_bind, R.exc_bind, R.bad_bind, R.bind_assoc, R.noexc_ok, R.b2, R.map, R.cond, R.flow, addI, subI, andB, orB, unw_some, unw_none, few_nil, ofRat, isCls, Option.isNone_none, Option.isNone_some, Bool.not_true, Bool.not_false, Bool.false_eq_true, if_true, if_false]
  refine bind_ofE (steps_fold hl fun t ht acc hacc => ?_) rfl
  unfold stepsT tieSteps
  cases hh : t.high with
  | none =>
    cases hl : t.low with
    | none => simp [R.ok_bind]
    | some l =>
      simp only [Option.isNone_some, Option.isNone_none, Bool.not_true, Bool.not_false, Bool.false_eq_true, if_false, if_true, R.ok_bind, unw]
      rw [toRat_neg, R.ok_bind, few_ok (by omega), R.ok_bind]
      simp
  | some u =>
    cases hl : t.low with
    | none =>
      simp only [Option.isNone_some, Option.isNone_none, Bool.not_true, Bool.not_false, Bool.false_eq_true, if_false, if_true, R.ok_bind, unw]
      rw [few_ok (by omega), R.ok_bind, R.ok_bind]
      simp
    | some l =>
      simp only [Option.isNone_some, Option.isNone_none, Bool.not_true, Bool.not_false, Bool.false_eq_true, if_false, if_true, R.ok_bind, unw]
      rw [few_ok (by omega), R.ok_bind, R.ok_bind, toRat_neg, R.ok_bind, few_ok (by simp; omega), R.ok_bind]
      simp
theorem stepsT_d {t : TieV} : ((stepsT t).map (·.d)).Nodup ∧ ∀ d ∈ (stepsT t).map (·.d), d.1 = t.name := by
  unfold stepsT tieSteps
  cases t.high <;> cases t.low <;> simp
theorem steps_nd (nd : (ts.map (·.name)).Nodup) : ((stepsV ts).map (·.d)).Nodup := by
  have sub : ∀ l : List TieV, ∀ d ∈ (stepsV l).map (·.d), d.1 ∈ l.map (·.name) := by
    intro l d hd
    obtain ⟨s, hs, rfl⟩ := List.mem_map.mp hd
    obtain ⟨t, ht, hs⟩ := List.mem_flatMap.mp hs
    rw [stepsT_d.2 _ (List.mem_map.mpr ⟨s, hs, rfl⟩)]
    exact List.mem_map.mpr ⟨t, ht, rfl⟩
  induction ts with
  | nil => exact .nil
  | cons t l ih =>
    unfold stepsV
    rw [List.flatMap_cons, List.map_append]
    rw [List.map_cons, List.nodup_cons] at nd
    refine List.nodup_append.mpr ⟨stepsT_d.1, ih nd.2, fun a ha b hb e => ?_⟩
    subst e
    have h1 := stepsT_d.2 _ ha
    have h2 := sub l a hb
    rw [h1] at h2
    exact nd.1 h2
theorem filter_uniq {α β : Type} [DecidableEq β] {f : α → β} : ∀ {l : List α} {a : α}, (l.map f).Nodup → a ∈ l → l.filter (fun y => decide (f y = f a)) = [a]
  | b :: l, a, nd, h => by
    rw [List.map_cons, List.nodup_cons] at nd
    rcases List.mem_cons.mp h with rfl | h
    · rw [List.filter_cons, if_pos (by simp)]
      congr 1
      refine List.filter_eq_nil_iff.mpr fun y hy e => nd.1 ?_
      rw [← of_decide_eq_true e]
      exact List.mem_map.mpr ⟨y, hy, rfl⟩
    · rw [List.filter_cons, if_neg (by
        intro e
        have e := of_decide_eq_true e
        exact nd.1 (e ▸ List.mem_map.mpr ⟨a, h, rfl⟩))]
      exact filter_uniq nd.2 h
  | [], _, _, h => (nomatch h)
theorem good_pair {s : StepV} (h : ∀ t ∈ ts, t.Ok) (hs : s ∈ stepsV ts) : EqD.good s.d := by
  obtain ⟨t, ht, ⟨u, _, rfl⟩ | ⟨u, _, rfl⟩⟩ := mem_steps.mp hs
  · exact ⟨(nameB_ok (h t ht).n1).1, trivial⟩
  · exact ⟨(nameB_ok (h t ht).n1).1, trivial⟩
/-- a pair's steps found by a walk of all -/
theorem steps_find (h : ∀ t ∈ ts, t.Ok) (nd : (ts.map (·.name)).Nodup) (hl : ts.length ≤ 1000) {s : StepV} (hs : s ∈ stepsV ts) : compR (fun x : StepV => eqR false x.d s.d) (fun x => R.ok x) (stepsV ts) [] = .ok [s] := by
  rw [compR_filter (p := fun y : StepV => decide (y.d = s.d)) (fun x hx => by rw [eqR_ok (good_pair h hx) (good_pair h hs)]; simp) (by have := steps_len (ts := ts); omega), filter_uniq (steps_nd nd) hs]
theorem Ch.sub {S : List StepV} : ∀ {m : List StepV} {a f : Str}, Ch S a m f → ∀ s ∈ m, s ∈ S
  | [], _, _, _, _, hs => (nomatch hs)
  | t :: m, _, _, h, s, hs => by
    obtain ⟨h1, _, h3⟩ := h
    rcases List.mem_cons.mp hs with rfl | hs
    · exact h1
    · exact Ch.sub h3 s hs
theorem told_len (K : Book0 N C ts pl) {x : Rat} {m : List StepV} (h1 : one ∈ facesV ts) (h : Ch (stepsV ts) one m other) (nd : (one :: m.map (·.b)).Nodup) : m.length ≤ 20 := by
  have := nodup_sub_len nd (m := facesV ts) fun f hf => by
    rcases List.mem_cons.mp hf with rfl | hf
    · exact h1
    · exact h.faces (fun s hs => (steps_mem hs).2) f hf
  have hf := K.fl
  simp at this
  omega
end
/-! ### lists of unlike content -/
end TF


/-! PKB: a book of ties made of a tree's parts, each with room on both sides. -/
namespace TF
open PySem PySem.Spec PyProof.Rows L2 DL FR
open Enc KeyT
/-! sums over some names -/
def fsum (p : Str → Bool) (x : Str → Rat) : List Str → Rat
  | [] => 0
  | n :: l => (if p n then x n else 0) + fsum p x l
section
variable {ps : List PartV} {ks : List Str} {root : Str → Str} {pos : Str → Rat} {ch : Str → List Str} {x : Str → Rat}
/-- the rooms on the way from a face to a face -/
def apart (ps : List PartV) (ch : Str → List Str) (x : Str → Rat) (f g : Str) : Rat := fsum (fun n => decide (n ∈ ch f) != decide (n ∈ ch g)) x (ps.map (·.name))
end
/-! parts made between their bounds -/
end TF


/-! PKC: rings below nought. -/
namespace TF
open PySem PySem.Spec PyProof.Rows L2 DL FR
open Enc KeyT
/-- a step that stands in the ways -/
def Rec (w : Dic Str WayV) (s : StepV) : Prop := w.get? s.b = some (s.a, s.d)
structure NI (S : List StepV) (st : BF) : Prop where
  wk : ∀ f p pr, st.ways.get? f = some (p, pr) → ∃ s ∈ S, s.a = p ∧ s.b = f ∧ s.d = pr
  le : ∀ s ∈ S, Rec st.ways s → ∃ y x, st.sums.get? s.a = some y ∧ st.sums.get? s.b = some x ∧ y + s.c ≤ x
  ring : ∀ a m, Ch S a m a → m ≠ [] → (∀ s ∈ m, Rec st.ways s) → (m.map (·.b)).Nodup → costL m < 0
section
variable {S : List StepV} {st : BF}
theorem d_uniq : ∀ {S : List StepV}, (S.map (·.d)).Nodup → ∀ {s s' : StepV}, s ∈ S → s' ∈ S → s.d = s'.d → s = s'
  | [], _, _, _, h, _, _ => (nomatch h)
  | x :: S, nd, s, s', h, h', e => by
    rw [List.map_cons, List.nodup_cons] at nd
    rcases List.mem_cons.mp h with h1 | h1
    · rcases List.mem_cons.mp h' with h2 | h2
      · rw [h1, h2]
      · exact absurd (List.mem_map.mpr ⟨s', h2, by rw [← e, h1]⟩) nd.1
    · rcases List.mem_cons.mp h' with h2 | h2
      · exact absurd (List.mem_map.mpr ⟨s, h1, by rw [e, h2]⟩) nd.1
      · exact d_uniq nd.2 h1 h2 e
theorem NI.tele (N : NI S st) : ∀ {r : List StepV} {f g : Str} {y : Rat}, Ch S f r g → (∀ s ∈ r, Rec st.ways s) → st.sums.get? f = some y → ∃ x, st.sums.get? g = some x ∧ y + costL r ≤ x
  | [], f, g, y, h, _, hy => by
    obtain rfl : f = g := h
    exact ⟨y, hy, by rw [costL_nil]; grind⟩
  | s :: r, f, g, y, h, hr, hy => by
    obtain ⟨hs, rfl, hc⟩ := h
    obtain ⟨y', x', e1, e2, e3⟩ := N.le s hs (hr s List.mem_cons_self)
    rw [e1] at hy; cases hy
    obtain ⟨x, e4, e5⟩ := NI.tele N hc (fun s' h' => hr s' (List.mem_cons_of_mem _ h')) e2
    exact ⟨x, e4, by rw [costL_cons]; grind⟩
theorem NI.upd (nd : (S.map (·.d)).Nodup) (N : NI S st) {s : StepV} (hs : s ∈ S) (hne : s.a ≠ s.b) {x y : Rat} (hx : st.sums.get? s.a = some x) (hy : st.sums.get? s.b = some y) (lt : x + s.c < y) : NI S (st.upd s (x + s.c)) := by
  have wn : ∀ f, (st.upd s (x + s.c)).ways.get? f = if f = s.b then some (s.a, s.d) else st.ways.get? f := fun f => Dic.get_put ..
  have sn : ∀ f, (st.upd s (x + s.c)).sums.get? f = if f = s.b then some (x + s.c) else st.sums.get? f := fun f => Dic.get_put ..
  have recB : ∀ s' ∈ S, Rec (st.upd s (x + s.c)).ways s' → s'.b = s.b → s' = s := fun s' hs' h e => by
    unfold Rec at h
    rw [wn, if_pos e] at h
    injection h with h
    have := (Prod.mk.inj h).2
    exact d_uniq nd hs' hs this.symm
  have recN : ∀ s' : StepV, Rec (st.upd s (x + s.c)).ways s' → s'.b ≠ s.b → Rec st.ways s' := fun s' h e => by
    unfold Rec at h ⊢
    rw [wn, if_neg e] at h
    exact h
  refine ⟨fun f p pr h => ?_, fun s' hs' h => ?_, fun a m hc hm hr hn => ?_⟩
  · rw [wn] at h
    by_cases e : f = s.b
    · rw [if_pos e] at h
      injection h with h
      obtain ⟨h1, h2⟩ := Prod.mk.inj h
      exact ⟨s, hs, h1, e.symm, h2⟩
    · rw [if_neg e] at h
      exact N.wk f p pr h
  · by_cases e : s'.b = s.b
    · have := recB s' hs' h e
      subst this
      exact ⟨x, x + s'.c, by rw [sn, if_neg hne]; exact hx, by rw [sn, if_pos rfl], Rat.le_refl⟩
    · obtain ⟨y', x', e1, e2, e3⟩ := N.le s' hs' (recN s' h e)
      by_cases e4 : s'.a = s.b
      · rw [e4, hy] at e1; cases e1
        exact ⟨x + s.c, x', by rw [sn, if_pos e4], by rw [sn, if_neg e]; exact e2, by grind⟩
      · exact ⟨y', x', by rw [sn, if_neg e4]; exact e1, by rw [sn, if_neg e]; exact e2, e3⟩
  · by_cases hb : s.b ∈ m.map (·.b)
    · obtain ⟨s', hs', e⟩ := List.mem_map.mp hb
      obtain ⟨p, q, rfl⟩ := List.append_of_mem hs'
      have hS := hc.sub
      have es := recB s' (hS s' (by simp)) (hr s' (by simp)) e
      subst es
      obtain ⟨z, c1, c2⟩ := hc.split
      obtain ⟨_, ez, c3⟩ := c2
      subst ez
      rw [List.map_append, List.map_cons] at hn
      have hn2 := List.nodup_append.mp hn
      have hn3 := List.nodup_cons.mp hn2.2.1
      have c4 := c3.app c1
      have rr : ∀ t ∈ q ++ p, Rec st.ways t := fun t ht => by
        refine recN t (hr t ?_) fun e => ?_
        · rcases List.mem_append.mp ht with h | h
          · simp [h]
          · simp [h]
        · rcases List.mem_append.mp ht with h | h
          · exact hn3.1 (by rw [← e]; exact List.mem_map.mpr ⟨t, h, rfl⟩)
          · exact hn2.2.2 _ (List.mem_map.mpr ⟨t, h, rfl⟩) _ List.mem_cons_self e
      obtain ⟨x', e5, e6⟩ := N.tele c4 rr hy
      rw [hx] at e5; cases e5
      rw [costL_app] at e6
      rw [costL_app, costL_cons]
      grind
    · exact N.ring a m hc hm (fun t ht => recN t (hr t ht) fun e => hb (by rw [← e]; exact List.mem_map.mpr ⟨t, ht, rfl⟩)) hn
def LeS (st : BF) (s : StepV) : Prop := ∃ x y, st.sums.get? s.a = some x ∧ st.sums.get? s.b = some y ∧ y ≤ x + s.c
/-- when each face became less: t; round k, T done, U to do -/
structure LB (k : Nat) (T U : List StepV) (st : BF) (t : Str → Nat) : Prop where
  ge : ∀ f p pr, st.ways.get? f = some (p, pr) → 1 ≤ t f ∧ t f ≤ t p + 1
  way : ∀ f, 1 ≤ t f → ∃ w, st.ways.get? f = some w
  tk : ∀ f, t f ≤ k
  done : ∀ s ∈ T, t s.a < k → LeS st s
  todo : ∀ s ∈ U, t s.a + 1 < k → LeS st s
  last : ∀ f, st.last = some f → t f = k
theorem LB.step {k : Nat} {T U : List StepV} {t : Str → Nat} {s : StepV} (L : LB k T (s :: U) st t) (hk : 1 ≤ k) (hne : s.a ≠ s.b) {x y : Rat} (hx : st.sums.get? s.a = some x) (hy : st.sums.get? s.b = some y) : ∃ t', LB k (T ++ [s]) U (relax st s) t' := by
  unfold relax
  rw [hx, hy]
  simp only
  split
  · rename_i lt
    have wn : ∀ f, (st.upd s (x + s.c)).ways.get? f = if f = s.b then some (s.a, s.d) else st.ways.get? f := fun f => Dic.get_put ..
    have sn : ∀ f, (st.upd s (x + s.c)).sums.get? f = if f = s.b then some (x + s.c) else st.sums.get? f := fun f => Dic.get_put ..
    have keep : ∀ s' : StepV, s'.a ≠ s.b → LeS st s' → LeS (st.upd s (x + s.c)) s' := fun s' h ⟨x', y', e1, e2, e3⟩ => by
      by_cases e : s'.b = s.b
      · rw [e, hy] at e2; cases e2
        exact ⟨x', x + s.c, by rw [sn, if_neg h]; exact e1, by rw [sn, if_pos e], by grind⟩
      · exact ⟨x', y', by rw [sn, if_neg h]; exact e1, by rw [sn, if_neg e]; exact e2, e3⟩
    have tg : k ≤ t s.a + 1 := by
      rcases Nat.lt_or_ge (t s.a + 1) k with h | h
      · obtain ⟨x', y', e1, e2, e3⟩ := L.todo s List.mem_cons_self h
        rw [hx] at e1; cases e1
        rw [hy] at e2; cases e2
        grind
      · exact h
    refine ⟨fun f => if f = s.b then k else t f, ⟨fun f p pr h => ?_, fun f h => ?_, fun f => ?_, fun s' hs' h => ?_, fun s' hs' h => ?_, fun f h => ?_⟩⟩
    · rw [wn] at h
      have mono : ∀ g, t g ≤ (if g = s.b then k else t g) := fun g => by
        split
        · exact L.tk g
        · exact Nat.le_refl _
      by_cases e : f = s.b
      · rw [if_pos e] at h ⊢
        injection h with h
        have h1 := (Prod.mk.inj h).1
        subst h1
        rw [if_neg hne]
        exact ⟨hk, tg⟩
      · rw [if_neg e] at h ⊢
        obtain ⟨h1, h2⟩ := L.ge f p pr h
        exact ⟨h1, Nat.le_trans h2 (Nat.succ_le_succ (mono p))⟩
    · rw [wn]
      by_cases e : f = s.b
      · rw [if_pos e]; exact ⟨_, rfl⟩
      · rw [if_neg e] at h ⊢
        exact L.way f h
    · show (if f = s.b then k else t f) ≤ k
      split
      · exact Nat.le_refl _
      · exact L.tk f
    · have ne : s'.a ≠ s.b := fun e => by simp only [if_pos e] at h; omega
      simp only [if_neg ne] at h
      rcases List.mem_append.mp hs' with q | q
      · exact keep s' ne (L.done s' q h)
      · rw [List.mem_singleton.mp q]
        exact ⟨x, x + s.c, by rw [sn, if_neg hne]; exact hx, by rw [sn, if_pos rfl], Rat.le_refl⟩
    · have ne : s'.a ≠ s.b := fun e => by simp only [if_pos e] at h; omega
      simp only [if_neg ne] at h
      exact keep s' ne (L.todo s' (List.mem_cons_of_mem _ hs') h)
    · have : s.b = f := Option.some.inj h
      simp only [this, if_true]
  · rename_i nlt
    refine ⟨t, ⟨L.ge, L.way, L.tk, fun s' hs' h => ?_, fun s' hs' h => L.todo s' (List.mem_cons_of_mem _ hs') h, L.last⟩⟩
    rcases List.mem_append.mp hs' with q | q
    · exact L.done s' q h
    · rw [List.mem_singleton.mp q]
      exact ⟨x, y, hx, hy, Rat.not_lt.mp nlt⟩
/-- what stands in every round -/
structure RI (S : List StepV) (F : List Str) (st : BF) : Prop where
  N : NI S st
  all : ∀ f ∈ F, ∃ x, st.sums.get? f = some x
  ks : st.sums.keys = F
theorem RI.relax {F : List Str} (nd : (S.map (·.d)).Nodup) (R : RI S F st) {s : StepV} (hs : s ∈ S) (hne : s.a ≠ s.b) {x y : Rat} (hx : st.sums.get? s.a = some x) (hy : st.sums.get? s.b = some y) : RI S F (relax st s) := by
  unfold TF.relax
  rw [hx, hy]
  simp only
  split
  · rename_i lt
    refine ⟨R.N.upd nd hs hne hx hy lt, fun f hf => ?_, ?_⟩
    · show ∃ z, (st.sums.put s.b (x + s.c)).get? f = some z
      rw [Dic.get_put]
      split
      · exact ⟨_, rfl⟩
      · exact R.all f hf
    · show (st.sums.put s.b (x + s.c)).keys = F
      rw [Dic.keys_put_old (Dic.isSome_iff.mp (by rw [hy]; rfl))]
      exact R.ks
  · exact R
theorem LB.round {F : List Str} {k : Nat} (nd : (S.map (·.d)).Nodup) (hk : 1 ≤ k) (hF : ∀ s ∈ S, s.a ∈ F ∧ s.b ∈ F ∧ s.a ≠ s.b) : ∀ (U T : List StepV) {st : BF} {t : Str → Nat}, (∀ s ∈ U, s ∈ S) → RI S F st → LB k T U st t → ∃ t', RI S F (U.foldl TF.relax st) ∧ LB k (T ++ U) [] (U.foldl TF.relax st) t'
  | [], T, st, t, _, R, L => ⟨t, R, by rw [List.append_nil]; exact L⟩
  | s :: U, T, st, t, hU, R, L => by
    obtain ⟨f1, f2, f3⟩ := hF s (hU s List.mem_cons_self)
    obtain ⟨x, hx⟩ := R.all _ f1
    obtain ⟨y, hy⟩ := R.all _ f2
    obtain ⟨t1, L1⟩ := L.step hk f3 hx hy
    have := LB.round nd hk hF U (T ++ [s]) (fun s' h => hU s' (List.mem_cons_of_mem _ h)) (R.relax nd (hU s List.mem_cons_self) f3 hx hy) L1
    rw [List.append_assoc, List.singleton_append] at this
    exact this
theorem LB.next {k : Nat} {t : Str → Nat} (L : LB k S [] st t) : LB (k + 1) [] S ⟨st.sums, st.ways, none⟩ t :=
  ⟨L.ge, L.way, fun f => Nat.le_succ_of_le (L.tk f), fun _ h => (nomatch h), fun s hs h => L.done s hs (by omega), fun _ h => (nomatch h)⟩
/-- the walk back -/
def Pd (w : Dic Str WayV) : Str → List Str → Str → Prop
  | f, [], e => f = e
  | f, h :: l, e => h = f ∧ ∃ g d, w.get? f = some (g, d) ∧ Pd w g l e
theorem Pd.snoc {w : Dic Str WayV} : ∀ {l : List Str} {f e g : Str} {d : Str × Bool}, Pd w f l e → w.get? e = some (g, d) → Pd w f (l ++ [e]) g
  | [], f, e, g, d, h, hw => by
    obtain rfl : f = e := h
    exact ⟨rfl, g, d, hw, rfl⟩
  | h :: l, f, e, g, d, hp, hw => by
    obtain ⟨rfl, g', d', h1, h2⟩ := hp
    exact ⟨rfl, g', d', h1, Pd.snoc h2 hw⟩
theorem Pd.split {w : Dic Str WayV} : ∀ {p q : List Str} {f e : Str}, Pd w f (p ++ q) e → ∃ x, Pd w f p x ∧ Pd w x q e
  | [], q, f, e, h => ⟨f, rfl, h⟩
  | h :: p, q, f, e, hp => by
    obtain ⟨rfl, g, d, h1, h2⟩ := hp
    obtain ⟨x, a, b⟩ := Pd.split h2
    exact ⟨x, ⟨rfl, g, d, h1, a⟩, b⟩
theorem Pd.steps (N : NI S st) : ∀ {l : List Str} {f e : Str}, Pd st.ways f l e → ∃ m, Ch S e m f ∧ (∀ s ∈ m, Rec st.ways s) ∧ m.map (·.b) = l.reverse ∧ m.map (·.d) = (l.map (prOf st.ways)).reverse
  | [], f, e, h => ⟨[], h.symm, fun _ h => (nomatch h), rfl, rfl⟩
  | h :: l, f, e, hp => by
    obtain ⟨rfl, g, d, h1, h2⟩ := hp
    obtain ⟨m, c1, c2, c3, c4⟩ := Pd.steps N h2
    obtain ⟨s, hs, e1, e2, e3⟩ := N.wk _ _ _ h1
    have hr : Rec st.ways s := by unfold Rec; rw [e1, e2, e3]; exact h1
    subst e1
    refine ⟨m ++ [s], ?_, fun s' h' => ?_, ?_, ?_⟩
    · have := c1.snoc hs
      rw [e2] at this; exact this
    · rcases List.mem_append.mp h' with h' | h'
      · exact c2 s' h'
      · rw [List.mem_singleton.mp h']; exact hr
    · rw [List.map_append, c3, List.map_cons, List.map_nil, e2, List.reverse_cons]
    · have ep : prOf st.ways h = s.d := by unfold prOf; rw [h1, ← e3]
      rw [List.map_append, c4, List.map_cons, List.map_nil, List.map_cons, List.reverse_cons, ep]
/-- a ring of steps, its costs below nought -/
def RingT (S : List StepV) (c : List (Str × Bool)) : Prop := ∃ a m, Ch S a m a ∧ m ≠ [] ∧ (m.map (·.b)).Nodup ∧ costL m < 0 ∧ c = m.map (·.d)
end

/-! ### all places, or a ring -/
/-- what is asked of ties but that they hold -/
structure BookB (N C : Nat) (ts : List TieV) : Prop where
  ok : ∀ t ∈ ts, t.Ok ∧ t.Sm
  len : ts.length ≤ 100
  c : ∀ s ∈ stepsV ts, Gd N C s.c
  Np : 0 < N
  Nb : N ≤ 2 ^ 1500
  C0 : C ≤ 10 ^ 43
  fo : F_faces_of ts = .ok (facesV ts)
  fl : (facesV ts).length ≤ 20
theorem BookB.book {N C : Nat} {ts : List TieV} {pl : Str → Rat} (B : BookB N C ts) (P : Pot (stepsV ts) pl) : Book0 N C ts pl := ⟨B.ok, B.len, P, B.c, B.Np, B.Nb, B.C0, B.fo, B.fl⟩
theorem Book0.b {N C : Nat} {ts : List TieV} {pl : Str → Rat} (K : Book0 N C ts pl) : BookB N C ts := ⟨K.ok, K.len, K.c, K.Np, K.Nb, K.C0, K.fo, K.fl⟩
section
variable {N C : Nat} {ts : List TieV}
def valP (sums : Dic Str Rat) (f : Str) : Rat := (sums.get? f).getD 0
theorem Placed.pot {sums : Dic Str Rat} (P : Placed N ts sums) : Pot (stepsV ts) (valP sums) := fun s hs => by
  obtain ⟨x, hx⟩ := P.all _ (steps_mem hs).1
  obtain ⟨y, hy, le⟩ := P.fx s hs x hx
  unfold valP
  rw [hx, hy]
  show y - x ≤ s.c
  grind
theorem RingT.no {S : List StepV} {c : List (Str × Bool)} (h : RingT S c) {v : Str → Rat} (P : Pot S v) : False := by
  obtain ⟨a, m, hc, _, _, hl, _⟩ := h
  have := hc.ring P
  grind
end
end TF


/-! PKD: drawn ties that places need not keep; what a book tells of rings and placings. -/
namespace TF
open PySem PySem.Spec PyProof.Rows L2 DL FR
open Enc KeyT
section
variable {F : List Str} {pl : List Rat} {N B : Nat}
structure TiB (F : List Str) (n : Nat) (N B : Nat) (t : TieV) : Prop where
  ok : t.Ok
  s : t.start ∈ F.take n
  f : t.fin ∈ F.take n
  lo : ∀ q, t.low = some q → Gd N B q
  hi : ∀ q, t.high = some q → Gd N B q
theorem TiB.sm {n : Nat} {t : TieV} (h : TiB F n N B t) (hB : B ≤ 10 ^ 50) (Np : 0 < N) (Nb : N ≤ 2 ^ 1500) : t.Sm := ⟨fun q e => smW (h.lo q e) hB Np Nb, fun q e => smW (h.hi q e) hB Np Nb⟩
structure TisB (F : List Str) (n : Nat) (N B : Nat) (ts : List TieV) : Prop where
  ok : ∀ t ∈ ts, TiB F n N B t
  len : ts.length ≤ 100
  fl : F.length ≤ 20
  B0 : B ≤ 10 ^ 43
  Np : 0 < N
  Nb : N ≤ 2 ^ 1500
variable {ts : List TieV} {n : Nat}
theorem TisB.fn (T : TisB F n N B ts) : ∀ f ∈ faceL ts, f ∈ F.take n := fun f hf => by
  unfold faceL at hf
  rcases List.mem_append.mp hf with hf | hf
  · obtain ⟨t, ht, rfl⟩ := List.mem_map.mp hf; exact (T.ok t ht).s
  · obtain ⟨t, ht, rfl⟩ := List.mem_map.mp hf; exact (T.ok t ht).f
theorem TisB.gF (T : TisB F n N B ts) : ∀ f ∈ facesV ts, GdS f := fun f hf => by
  have hf := facesV_mem.mp hf
  unfold faceL at hf
  rcases List.mem_append.mp hf with hf | hf
  · obtain ⟨t, ht, rfl⟩ := List.mem_map.mp hf; exact (nameB_ok (T.ok t ht).ok.n2).1
  · obtain ⟨t, ht, rfl⟩ := List.mem_map.mp hf; exact (nameB_ok (T.ok t ht).ok.n3).1
theorem TisB.okSm (T : TisB F n N B ts) : ∀ t ∈ ts, t.Ok ∧ t.Sm := fun t ht => ⟨(T.ok t ht).ok, (T.ok t ht).sm (Nat.le_trans T.B0 (by decide)) T.Np T.Nb⟩
theorem TisB.book (T : TisB F n N B ts) : BookB N B ts where
  ok := T.okSm
  len := T.len
  c s hs := by
    obtain ⟨t, ht, ⟨u, hu, rfl⟩ | ⟨u, hu, rfl⟩⟩ := mem_steps.mp hs
    · exact (T.ok t ht).hi u hu
    · exact ((T.ok t ht).lo u hu).neg
  Np := T.Np
  Nb := T.Nb
  C0 := T.B0
  fo := faces_of_ok (F := F) (fun f hf => List.mem_of_mem_take (T.fn f hf)) (by have := T.fl; omega) (by have := T.len; omega)
  fl := Nat.le_trans (facesV_len' (F := F) fun f hf => List.mem_of_mem_take (T.fn f hf)) T.fl
end
section
variable {N C : Nat} {ts : List TieV}
noncomputable def B_ring (v_self : BookV) : R (Option (List (Str × Bool))) :=
  (((((((R.ok v_self)).map BookV.kept)).bind fun c_1 => F_least_places c_1)).map (fun t : ((Option (Dic Str Rat)) × (Option (List (Str × Bool)))) => t.2))
noncomputable def B_placing (v_self : BookV) : R (List (Str × Rat)) :=
  (((((R.ok v_self)).bind fun c_1 => F_Book_places c_1)).bind sortItR)
/-- what a book of ties tells of rings and placings -/
inductive Told3 (N : Nat) (ts : List TieV) : Prop
  | pl (v : Str → Rat) (sums : Dic Str Rat) : B_ring ⟨ts⟩ = .ok none → F_Book_places ⟨ts⟩ = .ok sums → B_placing ⟨ts⟩ = .ok (plV ts v) → Pot (stepsV ts) v → (∀ f ∈ facesV ts, Gd N (10 ^ 48) (v f)) → Told3 N ts
  | rg (c : List (Str × Bool)) : B_ring ⟨ts⟩ = .ok (some c) → F_Book_places ⟨ts⟩ = .exc "Impossible" [("around", enc c)] → RingT (stepsV ts) c → Told3 N ts
end
end TF


/-! PKE: ties that close to one loop: a ring below nought goes through all of them; just ties. -/
namespace TF
open PySem PySem.Spec PyProof.Rows L2 DL FR
open Enc KeyT
section
/-- ties of one loop, each just; without one of them places keep the others -/
structure Loop (ts : List TieV) (q : TieV → Rat) : Prop where
  nd : (ts.map (·.name)).Nodup
  lo : ∀ t ∈ ts, t.low = some (q t)
  hi : ∀ t ∈ ts, t.high = some (q t)
  fl : (facesV ts).length ≤ ts.length
  pot : ∀ u ∈ ts, ∃ pl : Str → Rat, ∀ t ∈ ts, t.name ≠ u.name → pl t.fin - pl t.start = q t
variable {ts : List TieV} {q : TieV → Rat}
end
end TF


/-! PKF: ties put and dropped. -/
namespace TF
open PySem PySem.Spec PyProof.Rows L2 DL FR
open Enc KeyT
section
/-- where the tie of a name stands -/
def placeV (l : List TieV) (n : Str) : Option Nat := l.findIdx? fun t => decide (t.name = n)
def putV (l : List TieV) (t : TieV) : List TieV := match placeV l t.name with
  | none => l ++ [t]
  | some i => l.set i t
theorem place_of_ok {l : List TieV} {n : Str} (gl : ∀ t ∈ l, GdS t.name) (gn : GdS n) : F_Book_place_of ⟨l⟩ n = .ok (Option.map (fun i : Nat => (i : Int)) (placeV l n)) := by
  unfold F_Book_place_of
  simp only [R.ok_bind, R.exc_bind, R.bad_bind, R.bind_assoc, R.noexc_ok, R.b2, R.map, R.cond, R.flow, addI, subI, andB, orB, unw_some, unw_none, few_nil, ofRat, isCls, Option.isNone_none, Option.isNone_some, Bool.not_true, Bool.not_false, Bool.false_eq_true, if_true, if_false]
  have key : ∀ (l : List TieV) (k : Nat), (∀ t ∈ l, GdS t.name) → forR ((l.zipIdx k).map fun p => (((p.2 : Nat) : Int), p.1)) () (fun (x : Int × TieV) (_ : Unit) => (eqR false x.2.name n).bind fun c => if c = true then R.ok (Fl.rt (some x.1) : Fl Unit (Option Int)) else R.ok (Fl.nx ())) =
      .ok (match placeV l n with | some i => .rt (some ((i + k : Nat) : Int)) | none => .nx ()) := by
    intro l
    induction l with
    | nil => intro k _; rfl
    | cons t l ih =>
      intro k hg
      rw [List.zipIdx_cons, List.map_cons]
      show R.bind ((eqR false t.name n).bind fun c => if c = true then R.ok (Fl.rt (some ((k : Nat) : Int)) : Fl Unit (Option Int)) else R.ok (Fl.nx ())) _ = _
      rw [eqR_ok (hg t List.mem_cons_self) gn, R.ok_bind]
      unfold placeV
      rw [List.findIdx?_cons]
      by_cases h : t.name = n
      · simp only [h, decide_true, Bool.xor_true, Bool.not_false, Bool.false_xor, if_true, R.ok_bind]
        simp
      · simp only [h, decide_false, Bool.xor_false, if_false, Bool.false_eq_true, R.ok_bind]
        refine (ih (k + 1) fun u hu => hg u (List.mem_cons_of_mem _ hu)).trans ?_
        unfold placeV
        cases l.findIdx? fun t => decide (t.name = n) with
        | none => rfl
        | some i => simp; omega
  have := key l 0 gl
  unfold enumL
  rw [this]
  cases placeV l n <;> rfl
variable {l : List TieV} {n : Str}
theorem placeV_some {i : Nat} (h : placeV l n = some i) : ∃ t, l[i]? = some t ∧ t.name = n ∧ i < l.length := by
  unfold placeV at h
  obtain ⟨hi, h2, _⟩ := List.findIdx?_eq_some_iff_getElem.mp h
  exact ⟨l[i], List.getElem?_eq_getElem hi, by simpa using h2, hi⟩
theorem put_ok {t : TieV} (gl : ∀ u ∈ l, GdS u.name) (o : t.Ok) (s : t.Sm) (hl : l.length ≤ 1000) : F_Book_put ⟨l⟩ (enc t) = .ok ⟨putV l t⟩ := by
  have e : F_Tie_plain ⟨t⟩ = .ok t := rfl
  unfold F_Book_put
  simp only [R.ok_bind, R.exc_bind, R.bad_bind, R.bind_assoc, R.noexc_ok, R.b2, R.map, R.cond, R.flow, addI, subI, andB, orB, unw_some, unw_none, few_nil, ofRat, isCls, Option.isNone_none, Option.isNone_some, Bool.not_true, Bool.not_false, Bool.false_eq_true, if_true, if_false]
  rw [tieof_ok o s, R.ok_bind, e, R.ok_bind, place_of_ok gl (nameB_ok o.n1).1, R.ok_bind]
  unfold putV
  cases h : placeV l t.name with
  | none =>
    simp only [Option.map_none, Option.isNone_none, if_true]
    rw [few_ok (by omega), R.ok_bind]
  | some i =>
    obtain ⟨_, _, _, hi⟩ := placeV_some h
    simp only [Option.map_some, Option.isNone_some, Bool.false_eq_true, if_false, unw, R.ok_bind]
    unfold setL
    have hx : ixN l.length (i : Int) = some i := ixN_in (by omega) (by omega)
    rw [hx]; rfl
end
end TF


/-! PKG: what a book refuses. -/
namespace TF
open PySem PySem.Spec PyProof.Rows L2 DL FR
open Enc KeyT
section
variable {N C : Nat} {ts : List TieV} {one other : Str} {k : String} {fs : List (String × D)}
end
end TF


namespace K23
open PySem PySem.Spec PyProof.Rows L2 DL FR TF
open TF.Enc

noncomputable def F__law_cell_at (v_script : (List Int)) (v_k : Int) : R Int :=
  R.cond (R.b2 (R.ok v_k) (((R.ok v_script)).bind fun l => .ok (l.length : Int)) fun i j => .ok (decide (i < j)))
  ((R.b2 (R.ok v_script) (R.ok v_k) ixL))
  ((R.ok (0 : Int)))
noncomputable def F__law_divisor (v_one : Int) (v_other : Int) : R Int :=
  ((((R.ok v_one)).bind fun i => .ok (i.natAbs : Int))).bind fun (one_1 : Int) =>
  ((((R.ok v_other)).bind fun i => .ok (i.natAbs : Int))).bind fun (other_2 : Int) =>
  R.flow (whileR (fun (st_3 : Int × Int) => (R.b2 (R.ok st_3.2) (R.ok (0 : Int)) fun i j => .ok (decide (j < i)))) (fun (st_3 : Int × Int) =>
  (R.b2 (R.ok st_3.2) (R.b2 (R.ok st_3.1) (R.ok st_3.2) modI) fun (one_13 : Int) (other_14 : Int) =>
  .ok (.nx (one_13, other_14)) : R (Fl (Int × Int) Int))) ((one_1, other_2) : Int × Int)) (fun (st_3 : Int × Int) =>
  (R.ok st_3.1)) (fun r_15 => .ok r_15)
noncomputable def F__law_lowest (v_top : Int) (v_bottom : Int) : R Rat :=
  ((((R.ok v_top)).bind fun c_1 => ((R.ok v_bottom)).bind fun c_2 => F__law_divisor c_1 c_2)).bind fun (by_3 : Int) =>
  (((((R.b2 (R.ok v_top) (R.ok by_3) divI)).bind fun t_8 => ((R.b2 (R.ok v_bottom) (R.ok by_3) divI)).bind fun t_9 => R.ok (t_8, t_9))).bind toRat)
noncomputable def F__law_plus (v_one : (Int × Int)) (v_other : (Int × Int)) : R Rat :=
  (((R.b2 (R.b2 (((R.ok v_one)).map (fun t : (Int × Int) => t.1)) (((R.ok v_other)).map (fun t : (Int × Int) => t.2)) mulI) (R.b2 (((R.ok v_other)).map (fun t : (Int × Int) => t.1)) (((R.ok v_one)).map (fun t : (Int × Int) => t.2)) mulI) addI)).bind fun c_9 => ((R.b2 (((R.ok v_one)).map (fun t : (Int × Int) => t.2)) (((R.ok v_other)).map (fun t : (Int × Int) => t.2)) mulI)).bind fun c_10 => F__law_lowest c_9 c_10)
noncomputable def F__law_less (v_one : Rat) (v_other : Rat) : R Bool :=
  (R.b2 (R.b2 (((R.ok v_one)).map fun q : Rat => q.num) (((R.ok v_other)).map fun q : Rat => (q.den : Int)) mulI) (R.b2 (((R.ok v_other)).map fun q : Rat => q.num) (((R.ok v_one)).map fun q : Rat => (q.den : Int)) mulI) fun i j => .ok (decide (i < j)))
noncomputable def F__law_places (v_script : (List Int)) (v_faces : Int) : R (List Rat) :=
  (((R.ok ([] : List Rat)).bind few)).bind fun (places_here_1 : (List Rat)) =>
  ((((R.ok v_faces)).bind rng1)).bind fun l_101 => (foldR l_101 (places_here_1 : (List Rat)) (fun (x_2 : Int) (st_3 : (List Rat)) =>
  ((((R.ok v_script)).bind fun c_56 => ((R.b2 (R.ok (2 : Int)) (R.ok x_2) addI)).bind fun c_57 => F__law_cell_at c_56 c_57)).bind fun (cell_58 : Int) =>
  ((((((((R.ok cell_58)).map fun a_59 => a_59 * 69621)).map fun a_61 => a_61 % 2147483629)).map fun a_63 => a_63 / 37)).bind fun (mixed_65 : Int) =>
  ((R.b2 (((R.ok mixed_65)).map fun a_66 => a_66 % 61) (R.ok (30 : Int)) subI)).bind fun (top_70 : Int) =>
  (R.cond (R.b2 (((((R.ok mixed_65)).map fun a_71 => a_71 / 61)).map fun a_73 => a_73 % 4) (R.ok (1 : Int)) fun i j => .ok (decide (i = j)))
  (((R.b2 (((R.ok cell_58)).map fun a_84 => a_84 % (10 ^ 40)) (((R.ok ((10 : Int) ^ 39))).map fun a_86 => 5 * a_86) subI)).bind fun (top_90 : Int) =>
  .ok top_90)
  (.ok top_70)).bind fun (st_82 : Int) =>
  ((((R.ok st_82)).bind fun c_98 => ((R.b2 (R.ok (1 : Int)) (((((R.ok mixed_65)).map fun a_92 => a_92 / 244)).map fun a_94 => a_94 % 6) addI)).bind fun c_99 => F__law_lowest c_98 c_99)).bind fun a_100 => (few st_3).bind fun _ => (R.ok (st_3 ++ [a_100])).bind fun (places_here_91 : (List Rat)) =>
  .ok places_here_91)).bind fun (st_3 : (List Rat)) =>
  (R.ok st_3)
noncomputable def F__law_face (v_k : Int) : R Str :=
  (R.b2 ((((R.ok ("p" : Str))).bind fun t_11 => (((R.ok ("pa" : Str))).bind fun t_9 => (((R.ok ("pab" : Str))).bind fun t_7 => (((R.ok ("qab" : Str))).bind fun t_5 => (((R.ok ("qa" : Str))).bind fun t_3 => (((R.ok ("apab" : Str))).bind fun t_1 => (R.ok ([] : List Str)).bind fun t_2 => R.ok (t_1 :: t_2)).bind fun t_4 => R.ok (t_3 :: t_4)).bind fun t_6 => R.ok (t_5 :: t_6)).bind fun t_8 => R.ok (t_7 :: t_8)).bind fun t_10 => R.ok (t_9 :: t_10)).bind fun t_12 => R.ok (t_11 :: t_12)).bind few) (R.ok v_k) ixL)
noncomputable def F__law_tie (v_cell : Int) (v_k : Int) (v_places_here : (List Rat)) : R TieV :=
  ((((((((R.ok v_cell)).map fun a_1 => a_1 * 48271)).map fun a_3 => a_3 % 2147483647)).map fun a_5 => a_5 / 37)).bind fun (mixed_7 : Int) =>
  ((R.b2 (R.ok mixed_7) (((R.ok v_places_here)).bind fun l => .ok (l.length : Int)) modI)).bind fun (start_10 : Int) =>
  ((R.b2 (R.b2 (R.b2 (R.ok start_10) (R.ok (1 : Int)) addI) (R.b2 (((R.ok mixed_7)).map fun a_13 => a_13 / 6) (R.b2 (((R.ok v_places_here)).bind fun l => .ok (l.length : Int)) (R.ok (1 : Int)) subI) modI) addI) (((R.ok v_places_here)).bind fun l => .ok (l.length : Int)) modI)).bind fun (end_23 : Int) =>
  ((((((R.b2 (R.ok v_places_here) (R.ok end_23) ixL)).map ofRat)).bind fun c_26 => ((((((((R.b2 (R.ok v_places_here) (R.ok start_10) ixL)).map fun q : Rat => q.num)).map fun a => -a)).bind fun t_24 => ((((R.b2 (R.ok v_places_here) (R.ok start_10) ixL)).map fun q : Rat => (q.den : Int))).bind fun t_25 => R.ok (t_24, t_25))).bind fun c_27 => F__law_plus c_26 c_27)).bind fun (apart_28 : Rat) =>
  ((((((((R.ok apart_28)).map ofRat)).bind fun c_41 => ((((((((((R.ok mixed_7)).map fun a_29 => a_29 / 36)).map fun a_31 => a_31 % 5)).map fun a => -a)).bind fun t_39 => ((R.b2 (R.ok (1 : Int)) (((((R.ok mixed_7)).map fun a_33 => a_33 / 180)).map fun a_35 => a_35 % 3) addI)).bind fun t_40 => R.ok (t_39, t_40))).bind fun c_42 => F__law_plus c_41 c_42)).map some)).bind fun (low_43 : (Option Rat)) =>
  ((((((((R.ok apart_28)).map ofRat)).bind fun c_56 => ((((((((R.ok mixed_7)).map fun a_44 => a_44 / 540)).map fun a_46 => a_46 % 5)).bind fun t_54 => ((R.b2 (R.ok (1 : Int)) (((((R.ok mixed_7)).map fun a_48 => a_48 / 2700)).map fun a_50 => a_50 % 3) addI)).bind fun t_55 => R.ok (t_54, t_55))).bind fun c_57 => F__law_plus c_56 c_57)).map some)).bind fun (high_58 : (Option Rat)) =>
  (R.cond (R.b2 (((((R.ok mixed_7)).map fun a_59 => a_59 / 3)).map fun a_61 => a_61 % 5) (R.ok (1 : Int)) fun i j => .ok (decide (i = j)))
  (((R.ok (none : Option Rat))).bind fun (low_66 : (Option Rat)) =>
  .ok low_66)
  (.ok low_43)).bind fun (st_64 : (Option Rat)) =>
  (R.cond (R.b2 (((((R.ok mixed_7)).map fun a_67 => a_67 / 5)).map fun a_69 => a_69 % 5) (R.ok (1 : Int)) fun i j => .ok (decide (i = j)))
  (((R.ok (none : Option Rat))).bind fun (high_74 : (Option Rat)) =>
  .ok high_74)
  (.ok high_58)).bind fun (st_72 : (Option Rat)) =>
  (((((R.b2 (R.ok ("abcdefghi" : Str)) (R.ok v_k) ixS)).bind fun t_77 => ((((R.ok start_10)).bind fun c_75 => F__law_face c_75)).bind fun t_78 => ((((R.ok end_23)).bind fun c_76 => F__law_face c_76)).bind fun t_79 => ((R.ok st_64)).bind fun t_80 => ((R.ok st_72)).bind fun t_81 => R.ok (T5.mk t_77 t_78 t_79 t_80 t_81))).map (fun t : (T5 Str Str Str (Option Rat) (Option Rat)) => ({ name := t.a, start := t.b, fin := t.c, low := t.d, high := t.e } : TieV)))
noncomputable def F__law_steps (v_ties : (List TieV)) : R (List (T4 Str Str Rat (Str × Bool))) :=
  (((R.ok ([] : List (T4 Str Str Rat (Str × Bool)))).bind few)).bind fun (steps_here_1 : (List (T4 Str Str Rat (Str × Bool)))) =>
  ((R.ok v_ties)).bind fun l_83 => (foldR l_83 (steps_here_1 : (List (T4 Str Str Rat (Str × Bool)))) (fun (x_2 : TieV) (st_3 : (List (T4 Str Str Rat (Str × Bool)))) =>
  (R.cond (((R.ok x_2.high)).map fun o => !o.isNone)
  (((((R.ok x_2.start)).bind fun t_58 => ((R.ok x_2.fin)).bind fun t_59 => ((((R.ok x_2.high)).bind unw)).bind fun t_60 => ((((R.ok x_2.name)).bind fun t_56 => ((R.ok true)).bind fun t_57 => R.ok (t_56, t_57))).bind fun t_61 => R.ok (T4.mk t_58 t_59 t_60 t_61))).bind fun a_62 => (few st_3).bind fun _ => (R.ok (st_3 ++ [a_62])).bind fun (steps_here_55 : (List (T4 Str Str Rat (Str × Bool)))) =>
  .ok steps_here_55)
  (.ok st_3)).bind fun (st_53 : (List (T4 Str Str Rat (Str × Bool)))) =>
  R.cond (((R.ok x_2.low)).map fun o => !o.isNone)
  (((((R.ok x_2.fin)).bind fun t_78 => ((R.ok x_2.start)).bind fun t_79 => ((((((((((((R.ok x_2.low)).bind unw)).map fun q : Rat => q.num)).map fun a => -a)).bind fun t_74 => ((((((R.ok x_2.low)).bind unw)).map fun q : Rat => (q.den : Int))).bind fun t_75 => R.ok (t_74, t_75))).bind toRat)).bind fun t_80 => ((((R.ok x_2.name)).bind fun t_76 => ((R.ok false)).bind fun t_77 => R.ok (t_76, t_77))).bind fun t_81 => R.ok (T4.mk t_78 t_79 t_80 t_81))).bind fun a_82 => (few st_53).bind fun _ => (R.ok (st_53 ++ [a_82])).bind fun (steps_here_73 : (List (T4 Str Str Rat (Str × Bool)))) =>
  .ok steps_here_73)
  (.ok st_53))).bind fun (st_3 : (List (T4 Str Str Rat (Str × Bool)))) =>
  (R.ok st_3)
noncomputable def F__law_chain (v_steps_here : (List (T4 Str Str Rat (Str × Bool)))) (v_face_here : Str) (v_told : (T3 Str Rat (List (Str × Bool)))) : R Bool :=
  ((R.ok v_told)).bind fun (p_1 : (T3 Str Rat (List (Str × Bool)))) =>
  (((((R.ok v_face_here)).bind fun t_2 => (R.ok ([] : List Str)).bind fun t_3 => R.ok (t_2 :: t_3)).bind few)).bind fun (seen_4 : (List Str)) =>
  ((((((R.ok (0 : Int))).bind fun t_5 => ((R.ok (1 : Int))).bind fun t_6 => R.ok (t_5, t_6))).bind toRat)).bind fun (here_7 : Rat) =>
  ((R.ok p_1.c)).bind fun l_33 => R.flow (forR l_33 ((seen_4, here_7) : (List Str) × Rat) (fun (x_8 : (Str × Bool)) (st_9 : (List Str) × Rat) =>
  ((((R.ok v_steps_here)).bind fun l_24 => (compR (fun (x_23 : (T4 Str Str Rat (Str × Bool))) => (R.b2 (((R.ok x_23)).map (fun t : (T4 Str Str Rat (Str × Bool)) => t.d)) (R.ok x_8) (eqR false))) (fun (x_23 : (T4 Str Str Rat (Str × Bool))) => (R.ok x_23)) l_24 []).noexc)).bind fun (found_25 : (List (T4 Str Str Rat (Str × Bool)))) =>
  R.cond (orB (R.b2 (((R.ok found_25)).bind fun l => .ok (l.length : Int)) (R.ok (1 : Int)) fun i j => .ok (!decide (i = j))) (orB (R.b2 (((R.b2 (R.ok found_25) (R.ok (0 : Int)) ixL)).map (fun t : (T4 Str Str Rat (Str × Bool)) => t.a)) (R.b2 (R.ok st_9.1) (((R.ok (1 : Int))).map fun a => -a) ixL) (eqR true)) (R.b2 (((R.b2 (R.ok found_25) (R.ok (0 : Int)) ixL)).map (fun t : (T4 Str Str Rat (Str × Bool)) => t.b)) (R.ok st_9.1) (inR false))))
  (((R.ok false)).bind fun r_27 => .ok (.rt r_27))
  (((((R.b2 (R.ok found_25) (R.ok (0 : Int)) ixL)).map (fun t : (T4 Str Str Rat (Str × Bool)) => t.b))).bind fun a_29 => (few st_9.1).bind fun _ => (R.ok (st_9.1 ++ [a_29])).bind fun (seen_28 : (List Str)) =>
  ((((((R.ok st_9.2)).map ofRat)).bind fun c_30 => ((((((R.b2 (R.ok found_25) (R.ok (0 : Int)) ixL)).map (fun t : (T4 Str Str Rat (Str × Bool)) => t.c))).map ofRat)).bind fun c_31 => F__law_plus c_30 c_31)).bind fun (here_32 : Rat) =>
  .ok (.nx (seen_28, here_32)))) : R (Fl ((List Str) × Rat) Bool)) (fun (st_9 : (List Str) × Rat) =>
  (andB (R.b2 (R.b2 (R.ok st_9.1) (((R.ok (1 : Int))).map fun a => -a) ixL) (R.ok p_1.a) (eqR false)) (andB (R.b2 (R.ok st_9.2) (R.ok p_1.b) fun i j => .ok (decide (i = j))) (andB (((R.ok p_1.b)).bind fun _ => .ok true) (((R.ok p_1.c)).bind fun _ => .ok true))))) (fun r_34 => .ok r_34)
noncomputable def F__law_least (v_steps_here : (List (T4 Str Str Rat (Str × Bool)))) (v_found : (List (T3 Str Rat (List (Str × Bool))))) : R Bool :=
  ((R.ok (⟨[]⟩ : (Dic Str Rat)))).bind fun (sums_1 : (Dic Str Rat)) =>
  ((R.ok v_found)).bind fun l_13 => (foldR l_13 (sums_1 : (Dic Str Rat)) (fun (x_2 : (T3 Str Rat (List (Str × Bool)))) (st_3 : (Dic Str Rat)) =>
  ((R.ok x_2.b)).bind fun a_11 => ((R.ok x_2.a)).bind fun k_12 => (fewD st_3).bind fun _ => (R.ok (st_3.put k_12 a_11)).bind fun (sums_10 : (Dic Str Rat)) =>
  .ok sums_10)).bind fun (st_3 : (Dic Str Rat)) =>
  ((R.ok v_steps_here)).bind fun l_43 => R.flow (forR l_43 (() : Unit) (fun (x_14 : (T4 Str Str Rat (Str × Bool))) (st_15 : Unit) =>
  R.cond (R.b2 (R.ok x_14.a) (R.ok st_3) fun k d => .ok ((d.get? k).isSome))
  (R.cond (orB (R.b2 (R.ok x_14.b) (R.ok st_3) fun k d => .ok (!(d.get? k).isSome)) (((((((R.b2 (R.ok st_3) (R.ok x_14.a) getR)).map ofRat)).bind fun c_37 => ((((R.ok x_14.c)).map ofRat)).bind fun c_38 => F__law_plus c_37 c_38)).bind fun c_39 => ((R.b2 (R.ok st_3) (R.ok x_14.b) getR)).bind fun c_40 => F__law_less c_39 c_40))
  (((R.ok false)).bind fun r_42 => .ok (.rt r_42))
  (.ok (.nx ())))
  (.ok (.nx ()))) : R (Fl (Unit) Bool)) (fun (st_15 : Unit) =>
  (R.ok true)) (fun r_44 => .ok r_44)
noncomputable def F__law_from (v_ties : (List TieV)) (v_steps_here : (List (T4 Str Str Rat (Str × Bool)))) (v_face_here : Str) : R Bool :=
  ((((((R.ok v_ties)).bind fun l => .ok l)).bind fun c_1 => ((R.ok v_face_here)).bind fun c_2 => F_reached c_1 c_2)).bind fun (found_3 : (List (T3 Str Rat (List (Str × Bool))))) =>
  R.cond (orB (((((R.ok found_3)).bind fun _ => .ok true)).map (!·)) (R.b2 (((R.ok v_face_here)).bind fun t_11 => ((((((R.ok (0 : Int))).bind fun t_9 => ((R.ok (1 : Int))).bind fun t_10 => R.ok (t_9, t_10))).bind toRat)).bind fun t_12 => (((R.ok ([] : List (Str × Bool))).bind few)).bind fun t_13 => R.ok (T3.mk t_11 t_12 t_13)) (R.ok found_3) (inR true)))
  ((R.ok false))
  (((((R.ok found_3)).bind fun l_15 => (compR (fun (x_14 : (T3 Str Rat (List (Str × Bool)))) => (R.ok true)) (fun (x_14 : (T3 Str Rat (List (Str × Bool)))) => (((R.ok x_14)).map (fun t : (T3 Str Rat (List (Str × Bool))) => t.a))) l_15 []).noexc)).bind fun (names_16 : (List Str)) =>
  R.cond (R.b2 (R.ok names_16) (((R.ok names_16)).bind sortSetR) (eqR true))
  ((R.ok false))
  (((R.ok found_3)).bind fun l_32 => R.flow (forR l_32 (() : Unit) (fun (x_17 : (T3 Str Rat (List (Str × Bool)))) (st_18 : Unit) =>
  R.cond (orB (((((R.ok x_17)).bind fun _ => .ok true)).map (!·)) (orB (R.b2 (((R.ok x_17)).bind fun _ => .ok (3 : Int)) (R.ok (3 : Int)) fun i j => .ok (!decide (i = j))) (((((R.ok v_steps_here)).bind fun c_27 => ((R.ok v_face_here)).bind fun c_28 => ((R.ok x_17)).bind fun c_29 => F__law_chain c_27 c_28 c_29)).map (!·))))
  (((R.ok false)).bind fun r_31 => .ok (.rt r_31))
  (.ok (.nx ()))) : R (Fl (Unit) Bool)) (fun (st_18 : Unit) =>
  R.cond (((((R.ok v_steps_here)).bind fun c_33 => ((R.ok found_3)).bind fun c_34 => F__law_least c_33 c_34)).map (!·))
  ((R.ok false))
  ((thNR found_3).bind fun kept_35 =>
  (R.b2 (((((R.ok v_ties)).bind fun l => .ok l)).bind fun c_41 => ((R.ok v_face_here)).bind fun c_42 => F_reached c_41 c_42) (R.ok kept_35) (eqR false)))) (fun r_43 => .ok r_43)))
noncomputable def F_law (v_script : (List Int)) : R Bool :=
  ((R.b2 (R.ok (2 : Int)) (((((R.ok v_script)).bind fun c_1 => ((R.ok (0 : Int))).bind fun c_2 => F__law_cell_at c_1 c_2)).map fun a_3 => a_3 % 5) addI)).bind fun (faces_7 : Int) =>
  ((((R.ok v_script)).bind fun c_8 => ((R.ok faces_7)).bind fun c_9 => F__law_places c_8 c_9)).bind fun (places_here_10 : (List Rat)) =>
  (((R.ok ([] : List TieV)).bind few)).bind fun (ties_11 : (List TieV)) =>
  ((((R.b2 (R.ok (1 : Int)) (((((((R.ok v_script)).bind fun c_12 => ((R.ok (0 : Int))).bind fun c_13 => F__law_cell_at c_12 c_13)).map fun a_14 => a_14 / 5)).map fun a_16 => a_16 % 9) addI)).bind rng1)).bind fun l_43 => (foldR l_43 (ties_11 : (List TieV)) (fun (x_20 : Int) (st_21 : (List TieV)) =>
  ((((((R.ok v_script)).bind fun c_37 => ((R.b2 (R.ok (8 : Int)) (R.ok x_20) addI)).bind fun c_38 => F__law_cell_at c_37 c_38)).bind fun c_39 => ((R.ok x_20)).bind fun c_40 => ((R.ok places_here_10)).bind fun c_41 => F__law_tie c_39 c_40 c_41)).bind fun a_42 => (few st_21).bind fun _ => (R.ok (st_21 ++ [a_42])).bind fun (ties_34 : (List TieV)) =>
  .ok ties_34)).bind fun (st_21 : (List TieV)) =>
  ((((R.ok st_21)).bind fun c_44 => F__law_steps c_44)).bind fun (steps_here_45 : (List (T4 Str Str Rat (Str × Bool)))) =>
  (((((R.b2 (((R.ok st_21)).bind fun l_47 => (compR (fun (x_46 : TieV) => (R.ok true)) (fun (x_46 : TieV) => (((R.ok x_46)).map (fun t : TieV => t.start))) l_47 []).noexc) (((R.ok st_21)).bind fun l_49 => (compR (fun (x_48 : TieV) => (R.ok true)) (fun (x_48 : TieV) => (((R.ok x_48)).map (fun t : TieV => t.fin))) l_49 []).noexc) fun a b => few (a ++ b))).bind sortSetR)).bind fun l_52 => (guardR (∀ x ∈ l_52, F__law_from st_21 steps_here_45 x = .ok true)).bind fun _ =>
  (R.ok true))
end K23


namespace K23
open PySem PySem.Spec PyProof.Rows L2 DL FR TF
open TF.Enc
theorem cell_eq : F__law_cell_at = LC_at := rfl
theorem plus_eq : F__law_plus = LD_plus := rfl
theorem less_eq : F__law_less = LD_less := rfl
theorem places_eq : F__law_places = LC_places := rfl
theorem steps_eq : F__law_steps = LC_steps := rfl
theorem FN_nd : FN.Nodup := by decide +kernel
theorem FN_ok : ∀ f ∈ FN, nameB f = true := by decide +kernel
theorem face_ok {k : Int} (h0 : 0 ≤ k) (h1 : k < 6) : F__law_face k = .ok (FN[k.toNat]'(by show _ < 6; omega)) := by
  unfold F__law_face
  simp only [R.ok_bind, R.exc_bind, R.bad_bind, R.bind_assoc, R.noexc_ok, R.b2, R.map, R.cond, R.flow, addI, subI, andB, orB, unw_some, unw_none, few_nil, ofRat, isCls, Option.isNone_none, Option.isNone_some, Bool.not_true, Bool.not_false, Bool.false_eq_true, if_true, if_false]
  rw [few_ok (by simp), R.ok_bind]
  exact ixL_ok (l := FN) h0 h1
abbrev TB : Nat := 4 * PLQ
theorem abc9 : (Str.ofString "abcdefghi") = sl ((List.range 9).map (97 + ·)) := by decide +kernel
def nm (k : Nat) : Str := sl [97 + k]
theorem tie_ok {pl : List Rat} (hl : 2 ≤ pl.length ∧ pl.length ≤ 6) (g : ∀ q ∈ pl, Gd 60 PLQ q) (c : Int) {k : Int} (k0 : 0 ≤ k) (k1 : k < 9) : (F__law_tie c k pl).sat fun t => TiG FN pl 60 TB t ∧ t.name = nm k.toNat := by
  unfold F__law_tie
  simp only [R.ok_bind, R.exc_bind, R.bad_bind, R.bind_assoc, R.noexc_ok, R.b2, R.map, R.cond, R.flow, addI, subI, andB, orB, unw_some, unw_none, few_nil, ofRat, isCls, Option.isNone_none, Option.isNone_some, Bool.not_true, Bool.not_false, Bool.false_eq_true, if_true, if_false]
  have hmx : 0 ≤ c * 48271 % 2147483647 / 37 := by omega
  generalize c * 48271 % 2147483647 / 37 = mx at hmx
  have hL : (0 : Int) < (pl.length : Int) := by omega
  have hL1 : (0 : Int) < (pl.length : Int) - 1 := by omega
  rw [modI_pos hL, R.ok_bind, modI_pos hL1, R.ok_bind, modI_pos hL, R.ok_bind]
  have a0 := Int.emod_nonneg mx (show (pl.length : Int) ≠ 0 by omega)
  have a1 := Int.emod_lt_of_pos mx hL
  generalize mx % (pl.length : Int) = a at a0 a1
  have m0 := Int.emod_nonneg (mx / 6) (show (pl.length : Int) - 1 ≠ 0 by omega)
  have m1 := Int.emod_lt_of_pos (mx / 6) hL1
  generalize mx / 6 % ((pl.length : Int) - 1) = m at m0 m1
  have ne := other_ne hL ⟨a0, a1⟩ ⟨m0, m1⟩
  have b0 := Int.emod_nonneg (a + 1 + m) (show (pl.length : Int) ≠ 0 by omega)
  have b1 := Int.emod_lt_of_pos (a + 1 + m) hL
  generalize (a + 1 + m) % (pl.length : Int) = b at ne b0 b1
  have ep : ixL pl b = .ok (pl[b.toNat]'(by omega)) := ixL_ok b0 b1
  have eq : ixL pl a = .ok (pl[a.toNat]'(by omega)) := ixL_ok a0 a1
  have gp := g (pl[b.toNat]'(by omega)) (List.getElem_mem _)
  have gq := g (pl[a.toNat]'(by omega)) (List.getElem_mem _)
  have ga := gp.sub gq
  rw [ep, R.ok_bind, eq, R.ok_bind, R.ok_bind, plus_eq, ld_minus (sm60 gp (by decide)) (sm60 gq (by decide)), R.ok_bind]
  generalize eap : pl[b.toNat]'(by omega) - pl[a.toNat]'(by omega) = ap at ga
  have sa := sm60 ga (by decide)
  have hb1 : 0 < 1 + mx / 180 % 3 ∧ 1 ≤ 1 + mx / 180 % 3 ∧ 1 + mx / 180 % 3 ≤ 6 := by omega
  have hb2 : 0 < 1 + mx / 2700 % 3 ∧ 1 ≤ 1 + mx / 2700 % 3 ∧ 1 + mx / 2700 % 3 ≤ 6 := by omega
  have n1 : -4 ≤ -(mx / 36 % 5) ∧ -(mx / 36 % 5) ≤ 0 := by omega
  have n2 : 0 ≤ mx / 540 % 5 ∧ mx / 540 % 5 ≤ 4 := by omega
  generalize 1 + mx / 180 % 3 = d1 at hb1
  generalize 1 + mx / 2700 % 3 = d2 at hb2
  generalize -(mx / 36 % 5) = x1 at n1
  generalize mx / 540 % 5 = x2 at n2
  rw [ld_plus1 sa hb1.1 (Nat.lt_of_le_of_lt (show x1.natAbs ≤ 4 by omega) (by decide)) (Nat.lt_of_le_of_lt (show d1.natAbs ≤ 6 by omega) (by decide)), R.ok_bind, ld_plus1 sa hb2.1 (Nat.lt_of_le_of_lt (show x2.natAbs ≤ 4 by omega) (by decide)) (Nat.lt_of_le_of_lt (show d2.natAbs ≤ 6 by omega) (by decide)), R.ok_bind]
  have g1 : Gd 60 4 (Rat.divInt x1 d1) := gd_div hb1.1 (d60 hb1.2).2 (by omega)
  have g2 : Gd 60 4 (Rat.divInt x2 d2) := gd_div hb2.1 (d60 hb2.2).2 (by omega)
  have v2 : 0 ≤ Rat.divInt x2 d2 := divI_nonneg n2.1 hb2.1
  have v1 : Rat.divInt x1 d1 ≤ 0 := by
    have h := divI_nonneg (a := -x1) (by omega) hb1.1
    rw [← Rat.neg_divInt] at h
    grind
  generalize Rat.divInt x1 d1 = y1 at g1 v1
  generalize Rat.divInt x2 d2 = y2 at g2 v2
  have lo' : Gd 60 TB (ap + y1) := (ga.add g1).mono (by decide)
  have hi' : Gd 60 TB (ap + y2) := (ga.add g2).mono (by decide)
  have leL : ap + y1 ≤ ap := by grind
  have leU : ap ≤ ap + y2 := by grind
  generalize ap + y1 = L at lo' leL
  generalize ap + y2 = U at hi' leU
  have h1 : ∃ o : Option Rat, ((if decide (mx / 3 % 5 = 1) = true then R.ok none else R.ok (some L)) : R (Option Rat)) = .ok o ∧ (o = none ∨ o = some L) := by
    split
    · exact ⟨_, rfl, .inl rfl⟩
    · exact ⟨_, rfl, .inr rfl⟩
  have h2 : ∃ o : Option Rat, ((if decide (mx / 5 % 5 = 1) = true then R.ok none else R.ok (some U)) : R (Option Rat)) = .ok o ∧ (o = none ∨ o = some U) := by
    split
    · exact ⟨_, rfl, .inl rfl⟩
    · exact ⟨_, rfl, .inr rfl⟩
  obtain ⟨o1, e1, c1⟩ := h1
  obtain ⟨o2, e2, c2⟩ := h2
  have F6l : FN.length = 6 := rfl
  rw [e1, R.ok_bind, e2, R.ok_bind, ixS_run abc9 (by decide) k0 k1, R.ok_bind, face_ok a0 (by omega), R.ok_bind, face_ok b0 (by omega), R.ok_bind]
  refine sat_ok ⟨tie_drawn FN_nd FN_ok a0 a1 b0 b1 (by omega) ne ?_ lo' hi' rfl rfl c1 c2 (by rw [eap]; exact leL) (by rw [eap]; exact leU), rfl⟩
  show nameB (sl [97 + k.toNat]) = true
  rw [nameB_sl]
  exact ⟨by simp, fun x hx => by rw [List.mem_singleton.mp hx]; omega⟩
/-! ### chains told -/
theorem at_last {α : Type} {l : List α} {x : α} : atI (l ++ [x]) (-1) = some x := by
  unfold atI ixN
  have h : (l ++ [x]).length = l.length + 1 := by simp
  have e : ((-1 : Int) + ((l.length + 1 : Nat) : Int)).toNat = l.length := by omega
  rw [h, if_neg (by decide), if_pos (by omega), e]
  simp
theorem ix_last {α : Type} {l : List α} {x : α} : ixL (l ++ [x]) (-1) = .ok x := by
  unfold ixL
  rw [at_last]
section
variable {N C : Nat} {ts : List TieV} {pl : Str → Rat} {one : Str}
theorem chain_seen {S : List StepV} {ρ : Type} {body : Str × Bool → List Str × Rat → R (Fl (List Str × Rat) ρ)} (Np : 0 < N) (Nb : N ≤ 2 ^ 1500) (hc : ∀ s ∈ S, Gd N C s.c)
    (hG : ∀ s ∈ S, GdS s.b) (hb : ∀ s ∈ S, ∀ (l : List Str) tot, (∀ y ∈ l ++ [s.a], GdS y) → Sm tot → Sm s.c → s.b ∉ l ++ [s.a] → l.length < 1000 → body s.d (l ++ [s.a], tot) = .ok (.nx (l ++ [s.a] ++ [s.b], tot + s.c))) :
    ∀ (m : List StepV) {a f : Str} {l : List Str} {tot : Rat} {B : Nat}, Ch S a m f → (∀ y ∈ l ++ [a], GdS y) → (l ++ [a] ++ m.map (·.b)).Nodup → l.length + m.length < 1000 → Gd N B tot → B + m.length * C ≤ 10 ^ 50 → C ≤ 10 ^ 50 →
      (forR (m.map (·.d)) (l ++ [a], tot) body).sat fun r => ∃ l', r = .nx (l' ++ [f], tot + costL m)
  | [], a, f, l, tot, B, h, _, _, _, g, hB, hC => by
    obtain rfl : a = f := h
    rw [costL_nil]
    have : tot + 0 = tot := by grind
    rw [this]
    exact sat_ok ⟨l, rfl⟩
  | s :: m, a, f, l, tot, B, h, hy, nd, hl, g, hB, hC => by
    obtain ⟨hs, rfl, hm⟩ := h
    rw [List.length_cons, Nat.succ_mul] at hB
    rw [List.length_cons] at hl
    rw [List.map_cons] at nd ⊢
    unfold forR
    have hn : s.b ∉ l ++ [s.a] := fun h => (List.nodup_append.mp nd).2.2 _ h _ List.mem_cons_self rfl
    rw [hb s hs l tot hy (smW g (by omega) Np Nb) (smW (hc s hs) hC Np Nb) hn (by omega), R.ok_bind]
    have nd' : (l ++ [s.a] ++ [s.b] ++ m.map (·.b)).Nodup := by rw [List.append_assoc (l ++ [s.a])]; exact nd
    have e := chain_seen Np Nb hc hG hb m hm (fun y hy' => by
      rcases List.mem_append.mp hy' with h | h
      · exact hy y h
      · rw [List.mem_singleton.mp h]; exact hG s hs) nd' (by simp; omega) (g.add (hc s hs)) (by omega) hC
    have e2 : tot + s.c + costL m = tot + costL (s :: m) := by rw [costL_cons]; grind
    rw [e2] at e
    exact e
theorem chain_ok (K : Book0 N C ts pl) (gF : ∀ f ∈ facesV ts, GdS f) (nd : (ts.map (·.name)).Nodup) (h1 : one ∈ facesV ts) {other : Str} {x : Rat} {c : List (Str × Bool)} (h : Told (stepsV ts) one other x c) : F__law_chain (stepsV ts) one (T3.mk other x c) = .ok true := by
  obtain ⟨m, hm, ec, rfl, ndm⟩ := h
  have tl := K.len
  have okT : ∀ t ∈ ts, t.Ok := fun t ht => (K.ok t ht).1
  have lm : m.length ≤ 20 := told_len K (x := x) h1 hm ndm
  have fo : other ∈ facesV ts := Ch.end_ (fun s hs => (steps_mem hs).2) h1 hm
  have CB : m.length * C ≤ 20 * 10 ^ 43 := Nat.mul_le_mul lm K.C0
  apply sat_true
  unfold F__law_chain
  simp only [R.ok_bind, R.exc_bind, R.bad_bind, R.bind_assoc, R.noexc_ok, R.b2, R.map, R.cond, R.flow, addI, subI, andB, orB, unw_some, unw_none, few_nil, ofRat, isCls, Option.isNone_none, Option.isNone_some, Bool.not_true, Bool.not_false, Bool.false_eq_true, if_true, if_false]
  rw [few_ok (by simp), R.ok_bind, toRat01, R.ok_bind]
  refine sat_bind (chain_seen (l := []) (a := one) (tot := 0) (B := 0) K.Np K.Nb K.c (fun s hs => gF _ (steps_mem hs).2) (fun s hs l tot hy st sc hn hl => ?_) m hm (fun y hy => by simp at hy; rw [hy]; exact gF _ h1) (by simpa using ndm) (by simp; omega) Gd.zero (by omega) (Nat.le_trans K.C0 (by decide))) ?_
  · obtain ⟨ga, gb⟩ := steps_mem hs
    have i0 : ixL [s] 0 = .ok s := rfl
    rw [steps_find okT nd (by omega) hs, R.noexc_ok, R.ok_bind, decide_eq_true (show (([s].length : Nat) : Int) = 1 from rfl), Bool.not_true, if_neg (by decide), i0, R.ok_bind, ix_last, R.ok_bind, eqR_ok (gF _ ga) (gF _ ga), decide_eq_true rfl, R.ok_bind]
    simp only [Bool.xor_self, Bool.false_eq_true, if_false]
    rw [R.ok_bind, inR_ok (gF _ gb) hy, decide_eq_false hn, R.ok_bind]
    simp only [Bool.xor_self, Bool.false_eq_true, if_false]
    rw [R.ok_bind, few_ok (by simp; omega), R.ok_bind, R.ok_bind, plus_eq, ld_plusQ st sc, R.ok_bind]
  · rintro r ⟨l', rfl⟩
    simp only
    rw [ix_last, R.ok_bind, eqR_ok (gF _ fo) (gF _ fo), decide_eq_true rfl, R.ok_bind]
    have e0 : (0 : Rat) + costL m = x := by rw [ec]; grind
    rw [e0, decide_eq_true rfl]
    exact sat_ok rfl
theorem least_ok (K : Book0 N C ts pl) (h1 : one ∈ facesV ts) {D : Dic Str Rat} {g : Str → List (Str × Bool)} (Rc : Reach N ts one D) : F__law_least (stepsV ts) ((sortS (D.l.map (·.1))).map fun f => T3.mk f ((D.get? f).getD 0) (g f)) = .ok true := by
  have hk : ∀ f, f ∈ sortS (D.l.map (·.1)) ↔ f ∈ D.keys := fun f => sortS_mem
  have klen : D.keys.length ≤ 20 := Nat.le_trans (nodup_sub_len Rc.nd fun f hf => by
    obtain ⟨v, hv⟩ := Option.isSome_iff_exists.mp (Dic.isSome_iff.mpr hf)
    exact Rc.face h1 hv) K.fl
  have slen : (sortS (D.l.map (·.1))).length ≤ 20 := by
    rw [sortS_len, List.length_map]
    have : D.keys.length = D.l.length := List.length_map _
    omega
  generalize sortS (D.l.map (·.1)) = ks at hk slen
  apply sat_true
  unfold F__law_least
  simp only [R.ok_bind, R.exc_bind, R.bad_bind, R.bind_assoc, R.noexc_ok, R.b2, R.map, R.cond, R.flow, addI, subI, andB, orB, unw_some, unw_none, few_nil, ofRat, isCls, Option.isNone_none, Option.isNone_some, Bool.not_true, Bool.not_false, Bool.false_eq_true, if_true, if_false]
  refine sat_bind (foldR_ind (fun (pre : List FndV) (e : Dic Str Rat) => (∀ f, e.get? f = if f ∈ pre.map (·.a) then D.get? f else none) ∧ e.l.length ≤ pre.length) ?_ ⟨fun f => rfl, Nat.le_refl _⟩) ?_
  · rintro pre x post e eq ⟨i1, i2⟩
    have hx : x ∈ ks.map fun f => T3.mk f ((D.get? f).getD 0) (g f) := by rw [eq]; simp
    obtain ⟨f, hf, rfl⟩ := List.mem_map.mp hx
    have hl := congrArg List.length eq
    rw [List.length_map, List.length_append, List.length_cons] at hl
    obtain ⟨v, hv⟩ := Option.isSome_iff_exists.mp (Dic.isSome_iff.mpr ((hk f).mp hf))
    rw [fewD_ok (by omega), R.ok_bind]
    refine sat_ok ⟨fun z => ?_, ?_⟩
    · show (e.put f ((D.get? f).getD 0)).get? z = _
      rw [Dic.get_put, i1 z]
      by_cases hz : z = f
      · subst hz
        rw [if_pos rfl, if_pos (by simp), hv]; rfl
      · rw [if_neg hz]
        by_cases hp : z ∈ pre.map (·.a)
        · rw [if_pos hp, if_pos (by rw [List.map_append]; exact List.mem_append_left _ hp)]
        · rw [if_neg hp, if_neg (by
            rw [List.map_append, List.map_cons, List.map_nil]
            intro h
            rcases List.mem_append.mp h with h | h
            · exact hp h
            · exact hz (List.mem_singleton.mp h))]
    · have := put_len (d := e) (k := f) (a := (D.get? f).getD 0)
      rw [List.length_append, List.length_singleton]
      show (e.put f ((D.get? f).getD 0)).l.length ≤ _
      omega
  · rintro e ⟨i1, i2⟩
    have he : ∀ f, e.get? f = D.get? f := fun f => by
      rw [i1 f, List.map_map]
      by_cases hf : f ∈ D.keys
      · rw [if_pos]
        exact List.mem_map.mpr ⟨f, (hk f).mpr hf, rfl⟩
      · rw [if_neg]
        · cases hq : D.get? f with
          | none => rfl
          | some v => exact absurd (Dic.isSome_iff.mp (show (D.get? f).isSome = true by rw [hq]; rfl)) hf
        · intro h
          obtain ⟨z, hz, ez⟩ := List.mem_map.mp h
          have ez' : z = f := ez
          exact hf ((hk f).mp (ez' ▸ hz))
    have hC := K.C0
    refine sat_bindE (forR_unit fun s hs => ?_) (sat_ok rfl)
    have hg : ∀ f, getR e f = getR D f := fun f => by unfold getR; rw [he]
    rw [he s.a, he s.b, hg s.a, hg s.b]
    cases hx : D.get? s.a with
    | none => simp
    | some x =>
      obtain ⟨y, hy, le⟩ := Rc.fx s hs x hx
      have g1 := Rc.bnd _ _ hx
      have g2 := Rc.bnd _ _ hy
      have gc := K.c s hs
      have s1 := smW g1 (by decide) K.Np K.Nb
      have s2 := smW g2 (by decide) K.Np K.Nb
      have s3 := smW gc (Nat.le_trans hC (by decide)) K.Np K.Nb
      have s4 := smW (g1.add gc) (Nat.le_trans (Nat.add_le_add_left hC _) (by decide)) K.Np K.Nb
      rw [hy]
      simp only [Option.isSome_some, Bool.not_true, Bool.false_eq_true, if_false, if_true]
      rw [getR_ok hx, R.ok_bind, plus_eq, ld_plusQ s1 s3, R.ok_bind, getR_ok hy, R.ok_bind, less_eq, ld_less s4 s2, decide_eq_false (Rat.not_lt.mpr le), R.ok_bind]
      rfl
theorem ch_end_mem {S : List StepV} : ∀ {m : List StepV} {a f : Str}, Ch S a m f → m ≠ [] → f ∈ m.map (·.b)
  | [], _, _, _, h => absurd rfl h
  | [s], a, f, h, _ => by
    obtain ⟨_, _, h3⟩ := h
    have : s.b = f := h3
    rw [← this]; simp
  | s :: t :: m, a, f, h, _ => by
    have := ch_end_mem (m := t :: m) h.2.2 (by simp)
    rw [List.map_cons]
    exact List.mem_cons_of_mem _ this
theorem sortSet_sorted {ks : List Str} (nd : ks.Nodup) (hl : ks.length ≤ 60) : sortSetR (sortS ks) = .ok (sortS ks) := by
  have hn : (sortS ks).Nodup := (sortS_perm ks).nodup_iff.mpr nd
  have hp := ded_perm (l := sortS ks) hn fun _ => Iff.rfl
  have h1 := hp.length_eq
  rw [sortS_len] at h1
  unfold sortSetR
  rw [if_pos ⟨by rw [sortS_len]; omega, by omega⟩, sorted_unique ((sortS_perm _).trans hp.symm) (sortS_pw _) (sortS_pw _)]
theorem from_ok (K : Book0 N C ts pl) (gF : ∀ f ∈ facesV ts, GdS f) (nd : (ts.map (·.name)).Nodup) (h1 : one ∈ facesV ts) : F__law_from ts (stepsV ts) one = .ok true := by
  obtain ⟨r, er, D, g, Rc, hT, hr⟩ := reached_ok K h1 gF
  have okT : ∀ t ∈ ts, t.Ok := fun t ht => (K.ok t ht).1
  have zero := Rc.zero K.P
  have hone : one ∈ D.keys := Dic.isSome_iff.mp (by rw [zero]; rfl)
  have g0 : g one = [] := by
    obtain ⟨m, hm, _, ec, ndm⟩ := hT one 0 zero
    cases m with
    | nil => exact ec
    | cons s m => exact absurd (ch_end_mem hm (by simp)) (List.nodup_cons.mp ndm).1
  have kv : ∀ f ∈ D.keys, ∃ v, D.get? f = some v := fun f hf => Option.isSome_iff_exists.mp (Dic.isSome_iff.mpr hf)
  have klen : D.keys.length ≤ 20 := Nat.le_trans (nodup_sub_len Rc.nd fun f hf => by
    obtain ⟨v, hv⟩ := kv f hf
    exact Rc.face h1 hv) K.fl
  have hk : ∀ f, f ∈ sortS (D.l.map (·.1)) ↔ f ∈ D.keys := fun f => sortS_mem
  have rlen : r.length ≤ 20 := by
    rw [hr, List.length_map, sortS_len]
    exact klen
  have hmem : T3.mk one (0 : Rat) ([] : List (Str × Bool)) ∈ r := by
    rw [hr]
    refine List.mem_map.mpr ⟨one, (hk one).mpr hone, ?_⟩
    rw [zero, g0]; rfl
  have gS : EqD.good (T3.mk one (0 : Rat) ([] : List (Str × Bool))) := ⟨gF one h1, trivial, fun _ h => (nomatch h)⟩
  have good1 : ∀ b ∈ r, EqD.good b := fun b hb => by
    rw [hr] at hb
    obtain ⟨f, hf, rfl⟩ := List.mem_map.mp hb
    obtain ⟨v, hv⟩ := kv f ((hk f).mp hf)
    refine ⟨gF f (Rc.face h1 hv), trivial, fun d hd => ?_⟩
    obtain ⟨m, hm, _, ec, _⟩ := hT f v hv
    rw [show (T3.mk f ((D.get? f).getD 0) (g f)).c = m.map (·.d) from ec] at hd
    obtain ⟨s, hs, rfl⟩ := List.mem_map.mp hd
    exact good_pair okT (hm.sub s hs)
  have rne : r ≠ [] := fun e => by rw [e] at hmem; cases hmem
  have names : r.map (fun t => t.a) = sortS (D.l.map (·.1)) := by
    rw [hr, List.map_map]
    exact List.map_id _
  have gn : EqD.good (sortS (D.l.map (·.1))) := fun f hf => by
    obtain ⟨v, hv⟩ := kv f ((hk f).mp hf)
    exact gF f (Rc.face h1 hv)
  unfold F__law_from
  simp only [R.ok_bind, R.exc_bind, R.bad_bind, R.bind_assoc, R.noexc_ok, R.b2, R.map, R.cond, R.flow, addI, subI, andB, orB, unw_some, unw_none, few_nil, ofRat, isCls, Option.isNone_none, Option.isNone_some, Bool.not_true, Bool.not_false, Bool.false_eq_true, if_true, if_false]
  rw [er, R.ok_bind, toRat01, R.ok_bind, inR_ok gS good1, decide_eq_true hmem, R.ok_bind]
  simp only [Bool.xor_self, Bool.false_eq_true, if_false]
  rw [compR_map (fun t : FndV => t.a) r (fun _ _ => rfl) (by omega), R.noexc_ok, R.ok_bind, names, sortSet_sorted Rc.nd (by show D.keys.length ≤ _; omega), R.ok_bind, eqR_ok gn gn, decide_eq_true rfl, R.ok_bind]
  simp only [Bool.xor_self, Bool.false_eq_true, if_false]
  refine bind_ofE (forR_unit fun x hx => ?_) ?_
  · rw [hr] at hx
    obtain ⟨f, hf, rfl⟩ := List.mem_map.mp hx
    obtain ⟨v, hv⟩ := kv f ((hk f).mp hf)
    have hc := chain_ok K gF nd h1 (hT f v hv)
    have ev : (D.get? f).getD 0 = v := by rw [hv]; rfl
    rw [ev, hc]
    simp
  · simp only
    have hl := least_ok (g := g) K h1 Rc
    rw [← hr] at hl
    rw [hl, R.ok_bind]
    simp only [Bool.not_true, Bool.false_eq_true, if_false]
    have gr : EqD.good r := good1
    rw [thNR_ok rne (by omega), R.ok_bind, R.ok_bind, eqR_ok gr gr, decide_eq_true rfl]
    rfl
end
theorem law_ok (ns : List Int) (hn : ns.length ≤ 63) : F_law ns = .ok true := by
  apply sat_true
  unfold F_law
  simp only [R.ok_bind, R.exc_bind, R.bad_bind, R.bind_assoc, R.noexc_ok, R.b2, R.map, R.cond, R.flow, addI, subI, andB, orB, unw_some, unw_none, few_nil, ofRat, isCls, Option.isNone_none, Option.isNone_some, Bool.not_true, Bool.not_false, Bool.false_eq_true, if_true, if_false]
  rw [cell_eq, places_eq]
  refine sat_bind (lc_at (by omega)) fun c0 _ => ?_
  refine sat_bind (places_ok ns (by omega) (by omega)) fun pl ⟨hl, gp⟩ => ?_
  have hl2 : 2 ≤ pl.length ∧ pl.length ≤ 6 := by omega
  refine sat_bind (lc_at (by omega)) fun c1 _ => ?_
  have m9 : 1 ≤ 1 + c1 / 5 % 9 ∧ 1 + c1 / 5 % 9 ≤ 9 := by omega
  generalize 1 + c1 / 5 % 9 = m at m9
  rw [rng1_ok (by omega), R.ok_bind]
  refine sat_bind (foldR_ind (fun pre (s : List TieV) => s.map (·.name) = (List.range pre.length).map nm ∧ ∀ t ∈ s, TiG FN pl 60 TB t) ?_ ⟨rfl, fun _ h => (nomatch h)⟩) fun ts ⟨lt, ht⟩ => ?_
  · rintro pre x post s e ⟨h1, h2⟩
    obtain ⟨rfl, hk⟩ := rngL_at e
    have hs : s.length = pre.length := by have := congrArg List.length h1; simpa using this
    refine sat_bind (lc_at (by omega)) fun c _ => ?_
    refine sat_bind (tie_ok hl2 gp c (by omega) (by omega)) fun t ⟨hti, hnm⟩ => ?_
    rw [few_ok (by omega), R.ok_bind]
    refine sat_ok ⟨?_, fun z hz => ?_⟩
    · rw [List.map_append, h1, List.length_append, List.length_singleton, List.range_succ, List.map_append, List.map_cons, List.map_nil, hnm, List.map_cons, List.map_nil]
      congr 3
      omega
    · rcases List.mem_append.mp hz with hz | hz
      · exact h2 z hz
      · rw [List.mem_singleton.mp hz]; exact hti
  rw [rngL_len] at lt
  have lts : ts.length = m.toNat := by have := congrArg List.length lt; simpa using this
  have T : TisG FN pl 60 TB ts := ⟨ht, by omega, by decide, by decide, by decide, by decide⟩
  have K := T.book
  have gF := T.gF
  have nd : (ts.map (·.name)).Nodup := by
    rw [lt]
    refine List.pairwise_map.mpr (List.nodup_range.imp_of_mem fun {a b} ha hb hab e => hab ?_)
    have := sl_inj e
    simp at this
    exact this
  rw [steps_eq, lsteps_ok (by omega), R.ok_bind, compR_map (fun t : TieV => t.start) ts (fun _ _ => rfl) (by omega), R.noexc_ok, R.ok_bind, compR_map (fun t : TieV => t.fin) ts (fun _ _ => rfl) (by omega), R.noexc_ok, R.ok_bind, few_ok (by rw [List.length_append, List.length_map, List.length_map]; omega), R.ok_bind]
  have hss : sortSetR (ts.map (fun t : TieV => t.start) ++ ts.map fun t : TieV => t.fin) = .ok (facesV ts) := sortSet_ok' (F := FN) (fun f hf => List.mem_of_mem_take (T.fn f hf)) (by decide) (by omega)
  rw [hss, R.ok_bind, guardR_ok (fun x hx => from_ok K gF nd hx), R.ok_bind]
  exact sat_ok rfl
end K23


namespace K23
open PySem PySem.Spec PyProof.Rows L2 DL FR TF
open TF.Enc
def sp_divisor : DSp := fun ds A Q _ => match ds with
  | [.int a, .int b] => Q (.int (Int.gcd a b)) A
  | _ => False
@[simp ↓] theorem sp_divisor_eq {A : AH} {Q : DK} {E : DX} {a b : Int} : sp_divisor [.int a, .int b] A Q E = Q (.int (Int.gcd a b)) A := rfl
theorem hs_divisor : ∀ (A : AH) (d0 d1 : D) (x y : Int) (Q : DK) (E : DX), vw A d0 x → vw A d1 y → (F_divisor x y).wp (fun r => Q (enc r) A) (fun c fs => E c fs A) → sp_divisor ([d0, d1] ++ []) A Q E := by
  intro A d0 d1 x y Q E h0 h1 h
  have e0 : d0 = .int x := h0
  have e1 : d1 = .int y := h1
  subst e0 e1
  exact h
def sp_fraction : DSp := fun ds A Q E => match ds with
  | [.int a, .int b] => (b = 0 → E "NoNumber" [] A) ∧ (b ≠ 0 → (Wd a ∧ Wd b) ∧ Q (frD (Rat.divInt a b)) A)
  | _ => False
@[simp ↓] theorem sp_fraction_eq {A : AH} {Q : DK} {E : DX} {a b : Int} : sp_fraction [.int a, .int b] A Q E = ((b = 0 → E "NoNumber" [] A) ∧ (b ≠ 0 → (Wd a ∧ Wd b) ∧ Q (frD (Rat.divInt a b)) A)) := rfl
theorem hs_fraction : ∀ (A : AH) (d0 d1 : D) (x y : Int) (Q : DK) (E : DX), vw A d0 x → vw A d1 y → (F_fraction x y).wp (fun r => Q (enc r) A) (fun c fs => E c fs A) → sp_fraction ([d0, d1] ++ []) A Q E := by
  intro A d0 d1 x y Q E h0 h1 h
  have e0 : d0 = .int x := h0
  have e1 : d1 = .int y := h1
  subst e0 e1
  show sp_fraction [.int x, .int y] A Q E
  rw [sp_fraction_eq]
  unfold F_fraction at h
  split at h
  · rename_i hz; exact ⟨fun _ => h, fun q => absurd hz q⟩
  · rename_i hz
    split at h
    · rename_i g; exact ⟨fun q => absurd q hz, fun _ => ⟨g, h⟩⟩
    · exact h.elim
def sp_plus : DSp := fun ds A Q _ => match ds with
  | [x, y] => (match deFr x, deFr y with
    | some q, some r => (Sm q ∧ Sm r) ∧ Q (frD (q + r)) A
    | _, _ => False)
  | _ => False
@[simp ↓] theorem sp_plus_eq {A : AH} {Q : DK} {E : DX} {q r : Rat} : sp_plus [frD q, frD r] A Q E = ((Sm q ∧ Sm r) ∧ Q (frD (q + r)) A) := by
  simp [sp_plus]
theorem hs_plus : ∀ (A : AH) (d0 d1 : D) (x y : Rat) (Q : DK) (E : DX), vw A d0 x → vw A d1 y → (F_plus x y).wp (fun r => Q (enc r) A) (fun c fs => E c fs A) → sp_plus ([d0, d1] ++ []) A Q E := by
  intro A d0 d1 x y Q E h0 h1 h
  have e0 : d0 = frD x := h0
  have e1 : d1 = frD y := h1
  subst e0 e1
  show sp_plus [frD x, frD y] A Q E
  rw [sp_plus_eq]
  unfold F_plus at h
  split at h
  · rename_i g; exact ⟨g, h⟩
  · exact h.elim
def sp_minus : DSp := fun ds A Q _ => match ds with
  | [x, y] => (match deFr x, deFr y with
    | some q, some r => (Sm q ∧ Sm r) ∧ Q (frD (q - r)) A
    | _, _ => False)
  | _ => False
@[simp ↓] theorem sp_minus_eq {A : AH} {Q : DK} {E : DX} {q r : Rat} : sp_minus [frD q, frD r] A Q E = ((Sm q ∧ Sm r) ∧ Q (frD (q - r)) A) := by
  simp [sp_minus]
theorem hs_minus : ∀ (A : AH) (d0 d1 : D) (x y : Rat) (Q : DK) (E : DX), vw A d0 x → vw A d1 y → (F_minus x y).wp (fun r => Q (enc r) A) (fun c fs => E c fs A) → sp_minus ([d0, d1] ++ []) A Q E := by
  intro A d0 d1 x y Q E h0 h1 h
  have e0 : d0 = frD x := h0
  have e1 : d1 = frD y := h1
  subst e0 e1
  show sp_minus [frD x, frD y] A Q E
  rw [sp_minus_eq]
  unfold F_minus at h
  split at h
  · rename_i g; exact ⟨g, h⟩
  · exact h.elim
def sp_under : DSp := fun ds A Q _ => match ds with
  | [x, y] => (match deFr x, deFr y with
    | some q, some r => (Sm q ∧ Sm r) ∧ Q (.bl (decide (q < r))) A
    | _, _ => False)
  | _ => False
@[simp ↓] theorem sp_under_eq {A : AH} {Q : DK} {E : DX} {q r : Rat} : sp_under [frD q, frD r] A Q E = ((Sm q ∧ Sm r) ∧ Q (.bl (decide (q < r))) A) := by
  simp [sp_under]
theorem hs_under : ∀ (A : AH) (d0 d1 : D) (x y : Rat) (Q : DK) (E : DX), vw A d0 x → vw A d1 y → (F_under x y).wp (fun r => Q (enc r) A) (fun c fs => E c fs A) → sp_under ([d0, d1] ++ []) A Q E := by
  intro A d0 d1 x y Q E h0 h1 h
  have e0 : d0 = frD x := h0
  have e1 : d1 = frD y := h1
  subst e0 e1
  show sp_under [frD x, frD y] A Q E
  rw [sp_under_eq]
  unfold F_under at h
  split at h
  · rename_i g; exact ⟨g, h⟩
  · exact h.elim
def sp_is_whole : DSp := fun ds A Q _ => match ds with
  | [d] => (tyD A d).isSome = true ∧ Q (.bl (isIntD d)) A
  | _ => False
@[simp ↓] theorem sp_is_whole_eq {A : AH} {Q : DK} {E : DX} {d : D} : sp_is_whole [d] A Q E = ((tyD A d).isSome = true ∧ Q (.bl (isIntD d)) A) := rfl
theorem hs_is_whole : ∀ (A : AH) (d0 : D) (x : D) (Q : DK) (E : DX), vw A d0 x → (F_is_whole x).wp (fun r => Q (enc r) A) (fun c fs => E c fs A) → sp_is_whole ([d0] ++ []) A Q E := by
  intro A d0 x Q E h0 h
  have ty : ∀ d : D, (tyD noHeap d).isSome = true → (tyD A d).isSome = true := fun d h => by
    cases d with
    | ref a => exact absurd h (by show ¬ (Option.isSome (none : Option String) = true); decide)
    | _ => exact h
  have e0 : x = d0 := h0.symm
  subst e0
  unfold F_is_whole at h
  split at h
  · rename_i g
    show sp_is_whole [x] A Q E
    exact ⟨ty x g, h⟩
  · exact h.elim
def sp_is_name : DSp := fun ds A Q _ => match ds with
  | [.str z] => Few z.length ∧ Q (.bl (nameB z)) A
  | [d] => ((tyD A d).isSome = true ∧ tyD A d ≠ some "str") ∧ Q (.bl false) A
  | _ => False
@[simp ↓] theorem sp_is_name_str {A : AH} {Q : DK} {E : DX} {z : Str} : sp_is_name [.str z] A Q E = (Few z.length ∧ Q (.bl (nameB z)) A) := rfl
@[simp ↓] theorem sp_is_name_tup {A : AH} {Q : DK} {E : DX} {l : List D} : sp_is_name [.tup l] A Q E = Q (.bl false) A := by simp [sp_is_name]
@[simp ↓] theorem sp_is_name_lst {A : AH} {Q : DK} {E : DX} {l : List D} : sp_is_name [.lst l] A Q E = Q (.bl false) A := by simp [sp_is_name]
@[simp ↓] theorem sp_is_name_int {A : AH} {Q : DK} {E : DX} {i : Int} : sp_is_name [.int i] A Q E = Q (.bl false) A := by simp [sp_is_name]
@[simp ↓] theorem sp_is_name_non {A : AH} {Q : DK} {E : DX} : sp_is_name [.non] A Q E = Q (.bl false) A := by simp [sp_is_name]
theorem hs_is_name : ∀ (A : AH) (d0 : D) (x : D) (Q : DK) (E : DX), vw A d0 x → (F_is_name x).wp (fun r => Q (enc r) A) (fun c fs => E c fs A) → sp_is_name ([d0] ++ []) A Q E := by
  intro A d0 x Q E h0 h
  have e0 : x = d0 := h0.symm
  subst e0
  unfold F_is_name at h
  split at h
  · rename_i z
    split at h
    · rename_i g
      exact ⟨g, h⟩
    · exact h.elim
  · exact h.elim
def sp_is_fraction : DSp := fun ds A Q _ => match ds with
  | [d] => tyOk A d = true ∧ Q (.bl (fracB d)) A
  | _ => False
@[simp ↓] theorem sp_is_fraction_eq {A : AH} {Q : DK} {E : DX} {d : D} : sp_is_fraction [d] A Q E = (tyOk A d = true ∧ Q (.bl (fracB d)) A) := rfl
theorem hs_is_fraction : ∀ (A : AH) (d0 : D) (x : D) (Q : DK) (E : DX), vw A d0 x → (F_is_fraction x).wp (fun r => Q (enc r) A) (fun c fs => E c fs A) → sp_is_fraction ([d0] ++ []) A Q E := by
  intro A d0 x Q E h0 h
  have ty : ∀ d : D, (tyD noHeap d).isSome = true → (tyD A d).isSome = true := fun d h => by
    cases d with
    | ref a => exact absurd h (by show ¬ (Option.isSome (none : Option String) = true); decide)
    | _ => exact h
  have e0 : x = d0 := h0.symm
  subst e0
  unfold F_is_fraction at h
  split at h
  · rename_i g
    show sp_is_fraction [x] A Q E
    refine ⟨?_, h⟩
    cases x with
    | tup m =>
      have h1' : (m.all fun d => (tyD noHeap d).isSome) = true := g
      show (m.all fun d => (tyD A d).isSome) = true
      rw [List.all_eq_true] at h1' ⊢
      exact fun y hy => ty y (h1' y hy)
    | ref a => exact absurd g (by show ¬ (Option.isSome (none : Option String) = true); decide)
    | _ => exact g
  · exact h.elim
def sp_Tie___init__ : DSp := fun ds A Q _ => match ds with
  | [.ref x, a, b, c] => (match A x with
    | some (.obj k []) => k ∈ ["AtLeast", "AtMost", "Between", "Free", "Just"] ∧ Q .non (A.put x (.obj k [("name", a), ("start", b), ("end", c)]))
    | _ => False)
  | _ => False
@[simp ↓] theorem sp_Tie___init___eq {A : AH} {Q : DK} {E : DX} {x : Addr} {a b c : D} : sp_Tie___init__ [.ref x, a, b, c] A Q E = match A x with
    | some (.obj k []) => k ∈ ["AtLeast", "AtMost", "Between", "Free", "Just"] ∧ Q .non (A.put x (.obj k [("name", a), ("start", b), ("end", c)]))
    | _ => False := rfl
def sp_Tie_low : DSp := fun ds A Q _ => ∃ t : TieV, ds = [tieO t] ∧ (t.cls = "Free" ∨ t.cls = "AtMost") ∧ Q (obD t.low) A
theorem sp_Tie_low_eq {A : AH} {Q : DK} {E : DX} {t : TieV} (h : t.cls = "Free" ∨ t.cls = "AtMost") : sp_Tie_low [tieO t] A Q E = Q (obD t.low) A :=
  propext ⟨fun ⟨u, e, _, q⟩ => by rw [tieO_inj (List.cons.inj e).1]; exact q, fun q => ⟨t, rfl, h, q⟩⟩
def sp_Tie_high : DSp := fun ds A Q _ => ∃ t : TieV, ds = [tieO t] ∧ (t.cls = "Free" ∨ t.cls = "AtLeast") ∧ Q (obD t.high) A
theorem sp_Tie_high_eq {A : AH} {Q : DK} {E : DX} {t : TieV} (h : t.cls = "Free" ∨ t.cls = "AtLeast") : sp_Tie_high [tieO t] A Q E = Q (obD t.high) A :=
  propext ⟨fun ⟨u, e, _, q⟩ => by rw [tieO_inj (List.cons.inj e).1]; exact q, fun q => ⟨t, rfl, h, q⟩⟩
def sp_AtMost_high : DSp := fun ds A Q _ => ∃ t : TieV, ds = [tieO t] ∧ t.cls = "AtMost" ∧ Q (obD t.high) A
theorem sp_AtMost_high_eq {A : AH} {Q : DK} {E : DX} {t : TieV} (h : t.cls = "AtMost") : sp_AtMost_high [tieO t] A Q E = Q (obD t.high) A :=
  propext ⟨fun ⟨u, e, _, q⟩ => by rw [tieO_inj (List.cons.inj e).1]; exact q, fun q => ⟨t, rfl, h, q⟩⟩
def sp_Between_high : DSp := fun ds A Q _ => ∃ t : TieV, ds = [tieO t] ∧ t.cls = "Between" ∧ Q (obD t.high) A
theorem sp_Between_high_eq {A : AH} {Q : DK} {E : DX} {t : TieV} (h : t.cls = "Between") : sp_Between_high [tieO t] A Q E = Q (obD t.high) A :=
  propext ⟨fun ⟨u, e, _, q⟩ => by rw [tieO_inj (List.cons.inj e).1]; exact q, fun q => ⟨t, rfl, h, q⟩⟩
def sp_Just_high : DSp := fun ds A Q _ => ∃ t : TieV, ds = [tieO t] ∧ t.cls = "Just" ∧ Q (obD t.high) A
theorem sp_Just_high_eq {A : AH} {Q : DK} {E : DX} {t : TieV} (h : t.cls = "Just") : sp_Just_high [tieO t] A Q E = Q (obD t.high) A :=
  propext ⟨fun ⟨u, e, _, q⟩ => by rw [tieO_inj (List.cons.inj e).1]; exact q, fun q => ⟨t, rfl, h, q⟩⟩
def sp_AtLeast_low : DSp := fun ds A Q _ => ∃ t : TieV, ds = [tieO t] ∧ t.cls = "AtLeast" ∧ Q (obD t.low) A
theorem sp_AtLeast_low_eq {A : AH} {Q : DK} {E : DX} {t : TieV} (h : t.cls = "AtLeast") : sp_AtLeast_low [tieO t] A Q E = Q (obD t.low) A :=
  propext ⟨fun ⟨u, e, _, q⟩ => by rw [tieO_inj (List.cons.inj e).1]; exact q, fun q => ⟨t, rfl, h, q⟩⟩
def sp_Between_low : DSp := fun ds A Q _ => ∃ t : TieV, ds = [tieO t] ∧ t.cls = "Between" ∧ Q (obD t.low) A
theorem sp_Between_low_eq {A : AH} {Q : DK} {E : DX} {t : TieV} (h : t.cls = "Between") : sp_Between_low [tieO t] A Q E = Q (obD t.low) A :=
  propext ⟨fun ⟨u, e, _, q⟩ => by rw [tieO_inj (List.cons.inj e).1]; exact q, fun q => ⟨t, rfl, h, q⟩⟩
def sp_Just_low : DSp := fun ds A Q _ => ∃ t : TieV, ds = [tieO t] ∧ t.cls = "Just" ∧ Q (obD t.low) A
theorem sp_Just_low_eq {A : AH} {Q : DK} {E : DX} {t : TieV} (h : t.cls = "Just") : sp_Just_low [tieO t] A Q E = Q (obD t.low) A :=
  propext ⟨fun ⟨u, e, _, q⟩ => by rw [tieO_inj (List.cons.inj e).1]; exact q, fun q => ⟨t, rfl, h, q⟩⟩
/-- the steps of a tie -/
def stepsD (t : TieV) : List D := (match t.high with | some h => [.tup [.str t.start, .str t.fin, frD h, .bl true]] | none => []) ++ (match t.low with | some l => [.tup [.str t.fin, .str t.start, frD (0 - l), .bl false]] | none => [])
def sp_Tie_steps : DSp := fun ds A Q _ => ∃ t : TieV, ds = [tieO t] ∧ t.Sm ∧ ∀ p, A p = none → Q (.ref p) (A.put p (.lst (stepsD t)))
@[simp] theorem sp_Tie_steps_eq {A : AH} {Q : DK} {E : DX} {t : TieV} : sp_Tie_steps [tieO t] A Q E = (t.Sm ∧ ∀ p, A p = none → Q (.ref p) (A.put p (.lst (stepsD t)))) :=
  propext ⟨fun ⟨u, e, q⟩ => by rw [tieO_inj (List.cons.inj e).1]; exact q, fun q => ⟨t, rfl, q⟩⟩
def sp_AtLeast___init__ : DSp := fun ds A Q _ => match ds with
  | [.ref x, a, b, c, d0] => (match A x with
    | some (.obj k []) => k = "AtLeast" ∧ Q .non (A.put x (.obj k [("name", a), ("start", b), ("end", c), ("least", d0)]))
    | _ => False)
  | _ => False
@[simp ↓] theorem sp_AtLeast___init___eq {A : AH} {Q : DK} {E : DX} {x : Addr} {a b c d0 : D} : sp_AtLeast___init__ [.ref x, a, b, c, d0] A Q E = match A x with
    | some (.obj k []) => k = "AtLeast" ∧ Q .non (A.put x (.obj k [("name", a), ("start", b), ("end", c), ("least", d0)]))
    | _ => False := rfl
def sp_AtMost___init__ : DSp := fun ds A Q _ => match ds with
  | [.ref x, a, b, c, d0] => (match A x with
    | some (.obj k []) => k = "AtMost" ∧ Q .non (A.put x (.obj k [("name", a), ("start", b), ("end", c), ("greatest", d0)]))
    | _ => False)
  | _ => False
@[simp ↓] theorem sp_AtMost___init___eq {A : AH} {Q : DK} {E : DX} {x : Addr} {a b c d0 : D} : sp_AtMost___init__ [.ref x, a, b, c, d0] A Q E = match A x with
    | some (.obj k []) => k = "AtMost" ∧ Q .non (A.put x (.obj k [("name", a), ("start", b), ("end", c), ("greatest", d0)]))
    | _ => False := rfl
def sp_Just___init__ : DSp := fun ds A Q _ => match ds with
  | [.ref x, a, b, c, d0] => (match A x with
    | some (.obj k []) => k = "Just" ∧ Q .non (A.put x (.obj k [("name", a), ("start", b), ("end", c), ("size", d0)]))
    | _ => False)
  | _ => False
@[simp ↓] theorem sp_Just___init___eq {A : AH} {Q : DK} {E : DX} {x : Addr} {a b c d0 : D} : sp_Just___init__ [.ref x, a, b, c, d0] A Q E = match A x with
    | some (.obj k []) => k = "Just" ∧ Q .non (A.put x (.obj k [("name", a), ("start", b), ("end", c), ("size", d0)]))
    | _ => False := rfl
def sp_Between___init__ : DSp := fun ds A Q _ => match ds with
  | [.ref x, a, b, c, d0, d1] => (match A x with
    | some (.obj k []) => k = "Between" ∧ Q .non (A.put x (.obj k [("name", a), ("start", b), ("end", c), ("least", d0), ("greatest", d1)]))
    | _ => False)
  | _ => False
@[simp ↓] theorem sp_Between___init___eq {A : AH} {Q : DK} {E : DX} {x : Addr} {a b c d0 d1 : D} : sp_Between___init__ [.ref x, a, b, c, d0, d1] A Q E = match A x with
    | some (.obj k []) => k = "Between" ∧ Q .non (A.put x (.obj k [("name", a), ("start", b), ("end", c), ("least", d0), ("greatest", d1)]))
    | _ => False := rfl
theorem is_name_any {A : AH} {Q : DK} {E : DX} {x : D} (h1 : (tyD A x).isSome = true) (h2 : ∀ z, x = .str z → Few z.length) : sp_is_name [x] A Q E = Q (.bl (nameD x)) A := by
  cases x with
  | str z => exact propext ⟨fun h => h.2, fun h => ⟨h2 z rfl, h⟩⟩
  | ref a =>
    have hn : tyD A (.ref a) ≠ some "str" := fun e => by
      have e' : (match A a with | some (.lst _) => some "list" | some (.dic _) => some "dict" | _ => none) = some "str" := e
      split at e' <;> simp at e'
    exact propext ⟨fun h => h.2, fun h => ⟨⟨h1, hn⟩, h⟩⟩
  | obj _ _ _ => cases h1
  | _ => exact propext ⟨fun h => h.2, fun h => ⟨⟨rfl, by simp⟩, h⟩⟩
def sp_check_tie : DSp := fun ds A Q E => match ds with
  | [d] => TieIn A d ∧ (match deTie d with
    | some _ => Q .non A
    | none => E "NoTie" [] A)
  | _ => False
@[simp ↓] theorem sp_check_tie_eq {A : AH} {Q : DK} {E : DX} {d : D} : sp_check_tie [d] A Q E = (TieIn A d ∧ (match deTie d with
    | some _ => Q .non A
    | none => E "NoTie" [] A)) := rfl
def sp_tie_of : DSp := fun ds A Q E => match ds with
  | [d] => TieIn A d ∧ (match deTie d with
    | some t => Q (tieO t) A
    | none => E "NoTie" [] A)
  | _ => False
@[simp ↓] theorem sp_tie_of_eq {A : AH} {Q : DK} {E : DX} {d : D} : sp_tie_of [d] A Q E = (TieIn A d ∧ (match deTie d with
    | some t => Q (tieO t) A
    | none => E "NoTie" [] A)) := rfl
theorem tieIn_any {A : AH} {d : D} (h : TieIn noHeap d) : TieIn A d := by
  have ty : ∀ d : D, (tyD noHeap d).isSome = true → (tyD A d).isSome = true := fun d h => by
    cases d with
    | ref a => exact absurd h (by show ¬ (Option.isSome (none : Option String) = true); decide)
    | _ => exact h
  refine ⟨ty d h.1, fun l e hl x hx => ?_⟩
  obtain ⟨h1, h2, h3⟩ := h.2 l e hl x hx
  refine ⟨?_, h2, h3⟩
  cases x with
  | tup m =>
    have h1' : (m.all fun d => (tyD noHeap d).isSome) = true := h1
    show (m.all fun d => (tyD A d).isSome) = true
    rw [List.all_eq_true] at h1' ⊢
    exact fun y hy => ty y (h1' y hy)
  | ref a => exact absurd h1 (by show ¬ (Option.isSome (none : Option String) = true); decide)
  | _ => exact h1
theorem hs_tie_of : ∀ (A : AH) (d0 : D) (x : D) (Q : DK) (E : DX), vw A d0 x → (F_tie_of x).wp (fun r => Q (enc r) A) (fun c fs => E c fs A) → sp_tie_of ([d0] ++ []) A Q E := by
  intro A d0 x Q E h0 h
  have e0 : x = d0 := h0.symm
  subst e0
  show sp_tie_of [x] A Q E
  rw [sp_tie_of_eq]
  unfold F_tie_of at h
  split at h
  · rename_i g
    refine ⟨tieIn_any g, ?_⟩
    cases hd : deTie x with
    | none => rw [hd] at h; exact h
    | some t => rw [hd] at h; exact h
  · exact h.elim
def sp_all_steps : DSp := fun ds A Q E => ∃ (d0 : D) (v_ties : (List TieV)), ds = [d0] ∧ vw A d0 v_ties ∧ (F_all_steps v_ties).wp (fun r => Q (enc r) A) (fun c fs => E c fs A)
theorem hs_all_steps : ∀ (A : AH) (d0 : D) (v_ties : (List TieV)) (Q : DK) (E : DX), vw A d0 v_ties → (F_all_steps v_ties).wp (fun r => Q (enc r) A) (fun c fs => E c fs A) → sp_all_steps ([d0] ++ []) A Q E :=
  fun A d0 v_ties Q E h0 h => ⟨d0, v_ties, rfl, h0, h⟩
def sp_one_round : DSp := fun ds A Q E => ∃ (A0 : AH) (d0 : D) (p1 : Addr) (p2 : Addr) (v_steps : (List (T4 Str Str Rat (Str × Bool)))) (v_sums : (Dic Str Rat)) (v_ways : (Dic Str (Str × (Str × Bool)))), ds = [d0, .ref p1, .ref p2] ∧ NewL A0 [(p1, .dic (encKV v_sums.l)), (p2, .dic (encKV v_ways.l))] A ∧ vw A0 d0 v_steps ∧ (F_one_round v_steps v_sums v_ways).wp (fun r => ∀ A', NewL A0 [(p1, .dic (encKV r.2.1.l)), (p2, .dic (encKV r.2.2.l))] A' → Q (enc r.1) A') (fun _ _ => False)
theorem hs_one_round {v_sums : (Dic Str Rat)} {v_ways : (Dic Str (Str × (Str × Bool)))} : ∀ (A0 A : AH) (p1 : Addr) (p2 : Addr) (v_steps : (List (T4 Str Str Rat (Str × Bool)))) (Q : DK) (E : DX), NewL A0 [(p1, .dic (encKV v_sums.l)), (p2, .dic (encKV v_ways.l))] A → (F_one_round v_steps v_sums v_ways).wp (fun r => ∀ A', NewL A0 [(p1, .dic (encKV r.2.1.l)), (p2, .dic (encKV r.2.2.l))] A' → Q (enc r.1) A') (fun _ _ => False) → sp_one_round [enc v_steps, .ref p1, .ref p2] A Q E :=
  fun A0 A p1 p2 v_steps Q E hn h => ⟨A0, enc v_steps, p1, p2, v_steps, v_sums, v_ways, rfl, hn, vw_enc A0 v_steps, h⟩
def sp_way_back : DSp := fun ds A Q E => ∃ (d0 : D) (d1 : D) (d2 : D) (v_ways : (Dic Str (Str × (Str × Bool)))) (v_face : Str) (v_stop : Str), ds = [d0, d1, d2] ∧ vw A d0 v_ways ∧ vw A d1 v_face ∧ vw A d2 v_stop ∧ (F_way_back v_ways v_face v_stop).wp (fun r => ∀ p A', New A (oL r) p A' → Q (.ref p) A') (fun c fs => E c fs A)
theorem hs_way_back : ∀ (A : AH) (d0 : D) (d1 : D) (d2 : D) (v_ways : (Dic Str (Str × (Str × Bool)))) (v_face : Str) (v_stop : Str) (Q : DK) (E : DX), vw A d0 v_ways → vw A d1 v_face → vw A d2 v_stop → (F_way_back v_ways v_face v_stop).wp (fun r => ∀ p A', New A (oL r) p A' → Q (.ref p) A') (fun c fs => E c fs A) → sp_way_back ([d0, d1, d2] ++ []) A Q E :=
  fun A d0 d1 d2 v_ways v_face v_stop Q E h0 h1 h2 h => ⟨d0, d1, d2, v_ways, v_face, v_stop, rfl, h0, h1, h2, h⟩
def sp_reached : DSp := fun ds A Q E => ∃ (d0 : D) (d1 : D) (v_ties : (List TieV)) (v_face : Str), ds = [d0, d1] ∧ vw A d0 v_ties ∧ vw A d1 v_face ∧ (F_reached v_ties v_face).wp (fun r => Q (enc r) A) (fun c fs => E c fs A)
theorem hs_reached : ∀ (A : AH) (d0 : D) (d1 : D) (v_ties : (List TieV)) (v_face : Str) (Q : DK) (E : DX), vw A d0 v_ties → vw A d1 v_face → (F_reached v_ties v_face).wp (fun r => Q (enc r) A) (fun c fs => E c fs A) → sp_reached ([d0, d1] ++ []) A Q E :=
  fun A d0 d1 v_ties v_face Q E h0 h1 h => ⟨d0, d1, v_ties, v_face, rfl, h0, h1, h⟩
def sp__law_cell_at : DSp := fun ds A Q E => ∃ (d0 : D) (d1 : D) (v_script : (List Int)) (v_k : Int), ds = [d0, d1] ∧ vw A d0 v_script ∧ vw A d1 v_k ∧ (F__law_cell_at v_script v_k).wp (fun r => Q (enc r) A) (fun c fs => E c fs A)
theorem hs__law_cell_at : ∀ (A : AH) (d0 : D) (d1 : D) (v_script : (List Int)) (v_k : Int) (Q : DK) (E : DX), vw A d0 v_script → vw A d1 v_k → (F__law_cell_at v_script v_k).wp (fun r => Q (enc r) A) (fun c fs => E c fs A) → sp__law_cell_at ([d0, d1] ++ []) A Q E :=
  fun A d0 d1 v_script v_k Q E h0 h1 h => ⟨d0, d1, v_script, v_k, rfl, h0, h1, h⟩
def sp__law_divisor : DSp := fun ds A Q E => ∃ (d0 : D) (d1 : D) (v_one : Int) (v_other : Int), ds = [d0, d1] ∧ vw A d0 v_one ∧ vw A d1 v_other ∧ (F__law_divisor v_one v_other).wp (fun r => Q (enc r) A) (fun c fs => E c fs A)
theorem hs__law_divisor : ∀ (A : AH) (d0 : D) (d1 : D) (v_one : Int) (v_other : Int) (Q : DK) (E : DX), vw A d0 v_one → vw A d1 v_other → (F__law_divisor v_one v_other).wp (fun r => Q (enc r) A) (fun c fs => E c fs A) → sp__law_divisor ([d0, d1] ++ []) A Q E :=
  fun A d0 d1 v_one v_other Q E h0 h1 h => ⟨d0, d1, v_one, v_other, rfl, h0, h1, h⟩
def sp__law_lowest : DSp := fun ds A Q E => ∃ (d0 : D) (d1 : D) (v_top : Int) (v_bottom : Int), ds = [d0, d1] ∧ vw A d0 v_top ∧ vw A d1 v_bottom ∧ (F__law_lowest v_top v_bottom).wp (fun r => Q (enc r) A) (fun c fs => E c fs A)
theorem hs__law_lowest : ∀ (A : AH) (d0 : D) (d1 : D) (v_top : Int) (v_bottom : Int) (Q : DK) (E : DX), vw A d0 v_top → vw A d1 v_bottom → (F__law_lowest v_top v_bottom).wp (fun r => Q (enc r) A) (fun c fs => E c fs A) → sp__law_lowest ([d0, d1] ++ []) A Q E :=
  fun A d0 d1 v_top v_bottom Q E h0 h1 h => ⟨d0, d1, v_top, v_bottom, rfl, h0, h1, h⟩
def sp__law_plus : DSp := fun ds A Q E => ∃ (d0 : D) (d1 : D) (v_one : (Int × Int)) (v_other : (Int × Int)), ds = [d0, d1] ∧ vw A d0 v_one ∧ vw A d1 v_other ∧ (F__law_plus v_one v_other).wp (fun r => Q (enc r) A) (fun c fs => E c fs A)
theorem hs__law_plus : ∀ (A : AH) (d0 : D) (d1 : D) (v_one : (Int × Int)) (v_other : (Int × Int)) (Q : DK) (E : DX), vw A d0 v_one → vw A d1 v_other → (F__law_plus v_one v_other).wp (fun r => Q (enc r) A) (fun c fs => E c fs A) → sp__law_plus ([d0, d1] ++ []) A Q E :=
  fun A d0 d1 v_one v_other Q E h0 h1 h => ⟨d0, d1, v_one, v_other, rfl, h0, h1, h⟩
def sp__law_less : DSp := fun ds A Q E => ∃ (d0 : D) (d1 : D) (v_one : Rat) (v_other : Rat), ds = [d0, d1] ∧ vw A d0 v_one ∧ vw A d1 v_other ∧ (F__law_less v_one v_other).wp (fun r => Q (enc r) A) (fun c fs => E c fs A)
theorem hs__law_less : ∀ (A : AH) (d0 : D) (d1 : D) (v_one : Rat) (v_other : Rat) (Q : DK) (E : DX), vw A d0 v_one → vw A d1 v_other → (F__law_less v_one v_other).wp (fun r => Q (enc r) A) (fun c fs => E c fs A) → sp__law_less ([d0, d1] ++ []) A Q E :=
  fun A d0 d1 v_one v_other Q E h0 h1 h => ⟨d0, d1, v_one, v_other, rfl, h0, h1, h⟩
def sp__law_places : DSp := fun ds A Q E => ∃ (d0 : D) (d1 : D) (v_script : (List Int)) (v_faces : Int), ds = [d0, d1] ∧ vw A d0 v_script ∧ vw A d1 v_faces ∧ (F__law_places v_script v_faces).wp (fun r => Q (enc r) A) (fun c fs => E c fs A)
theorem hs__law_places : ∀ (A : AH) (d0 : D) (d1 : D) (v_script : (List Int)) (v_faces : Int) (Q : DK) (E : DX), vw A d0 v_script → vw A d1 v_faces → (F__law_places v_script v_faces).wp (fun r => Q (enc r) A) (fun c fs => E c fs A) → sp__law_places ([d0, d1] ++ []) A Q E :=
  fun A d0 d1 v_script v_faces Q E h0 h1 h => ⟨d0, d1, v_script, v_faces, rfl, h0, h1, h⟩
def sp__law_face : DSp := fun ds A Q E => ∃ (d0 : D) (v_k : Int), ds = [d0] ∧ vw A d0 v_k ∧ (F__law_face v_k).wp (fun r => Q (enc r) A) (fun c fs => E c fs A)
theorem hs__law_face : ∀ (A : AH) (d0 : D) (v_k : Int) (Q : DK) (E : DX), vw A d0 v_k → (F__law_face v_k).wp (fun r => Q (enc r) A) (fun c fs => E c fs A) → sp__law_face ([d0] ++ []) A Q E :=
  fun A d0 v_k Q E h0 h => ⟨d0, v_k, rfl, h0, h⟩
def sp__law_tie : DSp := fun ds A Q E => ∃ (d0 : D) (d1 : D) (d2 : D) (v_cell : Int) (v_k : Int) (v_places_here : (List Rat)), ds = [d0, d1, d2] ∧ vw A d0 v_cell ∧ vw A d1 v_k ∧ vw A d2 v_places_here ∧ (F__law_tie v_cell v_k v_places_here).wp (fun r => Q (enc r) A) (fun c fs => E c fs A)
theorem hs__law_tie : ∀ (A : AH) (d0 : D) (d1 : D) (d2 : D) (v_cell : Int) (v_k : Int) (v_places_here : (List Rat)) (Q : DK) (E : DX), vw A d0 v_cell → vw A d1 v_k → vw A d2 v_places_here → (F__law_tie v_cell v_k v_places_here).wp (fun r => Q (enc r) A) (fun c fs => E c fs A) → sp__law_tie ([d0, d1, d2] ++ []) A Q E :=
  fun A d0 d1 d2 v_cell v_k v_places_here Q E h0 h1 h2 h => ⟨d0, d1, d2, v_cell, v_k, v_places_here, rfl, h0, h1, h2, h⟩
def sp__law_steps : DSp := fun ds A Q E => ∃ (d0 : D) (v_ties : (List TieV)), ds = [d0] ∧ vw A d0 v_ties ∧ (F__law_steps v_ties).wp (fun r => Q (enc r) A) (fun c fs => E c fs A)
theorem hs__law_steps : ∀ (A : AH) (d0 : D) (v_ties : (List TieV)) (Q : DK) (E : DX), vw A d0 v_ties → (F__law_steps v_ties).wp (fun r => Q (enc r) A) (fun c fs => E c fs A) → sp__law_steps ([d0] ++ []) A Q E :=
  fun A d0 v_ties Q E h0 h => ⟨d0, v_ties, rfl, h0, h⟩
def sp__law_chain : DSp := fun ds A Q E => ∃ (d0 : D) (d1 : D) (d2 : D) (v_steps_here : (List (T4 Str Str Rat (Str × Bool)))) (v_face_here : Str) (v_told : (T3 Str Rat (List (Str × Bool)))), ds = [d0, d1, d2] ∧ vw A d0 v_steps_here ∧ vw A d1 v_face_here ∧ vw A d2 v_told ∧ (F__law_chain v_steps_here v_face_here v_told).wp (fun r => Q (enc r) A) (fun c fs => E c fs A)
theorem hs__law_chain : ∀ (A : AH) (d0 : D) (d1 : D) (d2 : D) (v_steps_here : (List (T4 Str Str Rat (Str × Bool)))) (v_face_here : Str) (v_told : (T3 Str Rat (List (Str × Bool)))) (Q : DK) (E : DX), vw A d0 v_steps_here → vw A d1 v_face_here → vw A d2 v_told → (F__law_chain v_steps_here v_face_here v_told).wp (fun r => Q (enc r) A) (fun c fs => E c fs A) → sp__law_chain ([d0, d1, d2] ++ []) A Q E :=
  fun A d0 d1 d2 v_steps_here v_face_here v_told Q E h0 h1 h2 h => ⟨d0, d1, d2, v_steps_here, v_face_here, v_told, rfl, h0, h1, h2, h⟩
def sp__law_least : DSp := fun ds A Q E => ∃ (d0 : D) (d1 : D) (v_steps_here : (List (T4 Str Str Rat (Str × Bool)))) (v_found : (List (T3 Str Rat (List (Str × Bool))))), ds = [d0, d1] ∧ vw A d0 v_steps_here ∧ vw A d1 v_found ∧ (F__law_least v_steps_here v_found).wp (fun r => Q (enc r) A) (fun c fs => E c fs A)
theorem hs__law_least : ∀ (A : AH) (d0 : D) (d1 : D) (v_steps_here : (List (T4 Str Str Rat (Str × Bool)))) (v_found : (List (T3 Str Rat (List (Str × Bool))))) (Q : DK) (E : DX), vw A d0 v_steps_here → vw A d1 v_found → (F__law_least v_steps_here v_found).wp (fun r => Q (enc r) A) (fun c fs => E c fs A) → sp__law_least ([d0, d1] ++ []) A Q E :=
  fun A d0 d1 v_steps_here v_found Q E h0 h1 h => ⟨d0, d1, v_steps_here, v_found, rfl, h0, h1, h⟩
def sp__law_from : DSp := fun ds A Q E => ∃ (d0 : D) (d1 : D) (d2 : D) (v_ties : (List TieV)) (v_steps_here : (List (T4 Str Str Rat (Str × Bool)))) (v_face_here : Str), ds = [d0, d1, d2] ∧ vw A d0 v_ties ∧ vw A d1 v_steps_here ∧ vw A d2 v_face_here ∧ KAk A ∧ (F__law_from v_ties v_steps_here v_face_here).wp (fun r => Q (enc r) A) (fun c fs => E c fs A)
theorem hp__law_from : ∀ (A : AH) (u0 : (List TieV)) (u1 : (List (T4 Str Str Rat (Str × Bool)))) (u2 : Str), KAk A → F__law_from u0 u1 u2 = .ok true → sp__law_from [enc u0, enc u1, enc u2] A (fun r A' => r = .bl true ∧ A' = A) (fun _ _ _ => False) := fun A u0 u1 u2 hA h => ⟨enc u0, enc u1, enc u2, u0, u1, u2, rfl, vw_enc A u0, vw_enc A u1, vw_enc A u2, hA, by rw [h]; exact ⟨rfl, rfl⟩⟩
def mt_high : List (String × DSp) := [("AtLeast", sp_Tie_high), ("AtMost", sp_AtMost_high), ("Between", sp_Between_high), ("Free", sp_Tie_high), ("Just", sp_Just_high)]
def mt_low : List (String × DSp) := [("AtLeast", sp_AtLeast_low), ("AtMost", sp_Tie_low), ("Between", sp_Between_low), ("Free", sp_Tie_low), ("Just", sp_Just_low)]
def mt_steps : List (String × DSp) := [("AtLeast", sp_Tie_steps), ("AtMost", sp_Tie_steps), ("Between", sp_Tie_steps), ("Free", sp_Tie_steps), ("Just", sp_Tie_steps)]
def t_divisor (w : DW) : DS :=
  (sSeq (sAsg (eCB bAbs (aCons (eVar 0) aNil)) (dgName 0))
  (sSeq (sAsg (eCB bAbs (aCons (eVar 1) aNil)) (dgName 1))
  (sSeq (sWhile (bE (eBin (opCmp fun i j => decide (j < i)) (eVar 1) (eC (.int 0))))
  (sPar 0 1 (aCons (eVar 1) (aCons (eBin opMod (eVar 0) (eVar 1)) aNil))))
  (sRet (eVar 0)))))
def t_fraction (w : DW) : DS :=
  (sSeq (sIf (bE (eBin (opEq false) (eVar 1) (eC (.int 0))))
  (sRaise w "NoNumber")
  sNext)
  (sSeq (sAsg (eCall w sp_divisor [] (aCons (eVar 0) (aCons (eVar 1) aNil))) (dgName 2))
  (sSeq (sIf (bE (eBin (opCmp fun i j => decide (i < j)) (eVar 1) (eC (.int 0))))
  (sAsg (eNeg (eVar 2)) (dgName 2))
  sNext)
  (sRet (eTup (aCons (eBin opDiv (eVar 0) (eVar 2)) (aCons (eBin opDiv (eVar 1) (eVar 2)) aNil)))))))
def t_plus (w : DW) : DS :=
  (sRet (eCall w sp_fraction [] (aCons (eBin (opAdd mkF) (eBin opMul (eBin opIx (eVar 0) (eC (.int 0))) (eBin opIx (eVar 1) (eC (.int 1)))) (eBin opMul (eBin opIx (eVar 1) (eC (.int 0))) (eBin opIx (eVar 0) (eC (.int 1))))) (aCons (eBin opMul (eBin opIx (eVar 0) (eC (.int 1))) (eBin opIx (eVar 1) (eC (.int 1)))) aNil))))
def t_minus (w : DW) : DS :=
  (sRet (eCall w sp_fraction [] (aCons (eBin opSub (eBin opMul (eBin opIx (eVar 0) (eC (.int 0))) (eBin opIx (eVar 1) (eC (.int 1)))) (eBin opMul (eBin opIx (eVar 1) (eC (.int 0))) (eBin opIx (eVar 0) (eC (.int 1))))) (aCons (eBin opMul (eBin opIx (eVar 0) (eC (.int 1))) (eBin opIx (eVar 1) (eC (.int 1)))) aNil))))
def t_under (w : DW) : DS :=
  (sRet (eBin (opCmp fun i j => decide (i < j)) (eBin opMul (eBin opIx (eVar 0) (eC (.int 0))) (eBin opIx (eVar 1) (eC (.int 1)))) (eBin opMul (eBin opIx (eVar 1) (eC (.int 0))) (eBin opIx (eVar 0) (eC (.int 1))))))
def t_is_whole (w : DW) : DS :=
  (sRet (eAnd (eIsi "int" (eVar 0)) (eNot (eIsi "bool" (eVar 0)))))
def t_is_name (w : DW) : DS :=
  (sSeq (sIf (bOr (bNot (bE (eIsi "str" (eVar 0)))) (bOr (bE (eBin (opCmp fun i j => decide (i < j)) (eCB bLen (aCons (eVar 0) aNil)) (eC (.int 1)))) (bE (eBin (opCmp fun i j => decide (j < i)) (eCB bLen (aCons (eVar 0) aNil)) (eC (.int 8))))))
  (sRet (eC (.bl false)))
  sNext)
  (sSeq (sFor (iText (eVar 0)) (dgName 1)
  (sIf (bE (eBin (opIn true) (eVar 1) (eC (.str ("abcdefghijklmnopqrstuvwxyz" : Str)))))
  (sRet (eC (.bl false)))
  sNext))
  (sRet (eC (.bl true)))))
def t_is_fraction (w : DW) : DS :=
  (sSeq (sIf (bOr (bNot (bE (eIsi "tuple" (eVar 0)))) (bE (eBin (opEq true) (eCB bLen (aCons (eVar 0) aNil)) (eC (.int 2)))))
  (sRet (eC (.bl false)))
  sNext)
  (sSeq (sIf (bOr (bNot (bE (eCall w sp_is_whole [] (aCons (eBin opIx (eVar 0) (eC (.int 0))) aNil)))) (bOr (bNot (bE (eCall w sp_is_whole [] (aCons (eBin opIx (eVar 0) (eC (.int 1))) aNil)))) (bE (eBin (opCmp fun i j => decide (i < j)) (eBin opIx (eVar 0) (eC (.int 1))) (eC (.int 1))))))
  (sRet (eC (.bl false)))
  sNext)
  (sRet (eBin (opEq false) (eCall w sp_divisor [] (aCons (eBin opIx (eVar 0) (eC (.int 0))) (aCons (eBin opIx (eVar 0) (eC (.int 1))) aNil))) (eC (.int 1))))))
def t_Tie___init__ (w : DW) : DS :=
  (sSeq (sFldSet ["AtLeast", "AtMost", "Between", "Free", "Just"] "name" (eVar 0) (eVar 1))
  (sSeq (sFldSet ["AtLeast", "AtMost", "Between", "Free", "Just"] "start" (eVar 0) (eVar 2))
  (sFldSet ["AtLeast", "AtMost", "Between", "Free", "Just"] "end" (eVar 0) (eVar 3))))
def t_Tie_low (w : DW) : DS :=
  (sRet (eC .non))
def t_Tie_high (w : DW) : DS :=
  (sRet (eC .non))
def t_AtMost_high (w : DW) : DS :=
  (sRet (eFld ["AtMost", "Between"] "greatest" (eVar 0)))
def t_Between_high (w : DW) : DS :=
  (sRet (eFld ["AtMost", "Between"] "greatest" (eVar 0)))
def t_Just_high (w : DW) : DS :=
  (sRet (eFld ["Just"] "size" (eVar 0)))
def t_AtLeast_low (w : DW) : DS :=
  (sRet (eFld ["AtLeast", "Between"] "least" (eVar 0)))
def t_Between_low (w : DW) : DS :=
  (sRet (eFld ["AtLeast", "Between"] "least" (eVar 0)))
def t_Just_low (w : DW) : DS :=
  (sRet (eFld ["Just"] "size" (eVar 0)))
def t_Tie_steps (w : DW) : DS :=
  (sSeq (sAsg (eLst mkO aNil) (dgName 1))
  (sSeq (sIf (bE (eBin (opIs true) (eMth w "high" mt_high (eVar 0) aNil) (eC .non)))
  (sDrop (eMt "list" mApp (eVar 1) (aCons (eTup (aCons (eFld ["AtLeast", "AtMost", "Between", "Free", "Just"] "start" (eVar 0)) (aCons (eFld ["AtLeast", "AtMost", "Between", "Free", "Just"] "end" (eVar 0)) (aCons (eMth w "high" mt_high (eVar 0) aNil) (aCons (eC (.bl true)) aNil))))) aNil)))
  sNext)
  (sSeq (sIf (bE (eBin (opIs true) (eMth w "low" mt_low (eVar 0) aNil) (eC .non)))
  (sDrop (eMt "list" mApp (eVar 1) (aCons (eTup (aCons (eFld ["AtLeast", "AtMost", "Between", "Free", "Just"] "end" (eVar 0)) (aCons (eFld ["AtLeast", "AtMost", "Between", "Free", "Just"] "start" (eVar 0)) (aCons (eCall w sp_minus [] (aCons (eTup (aCons (eC (.int 0)) (aCons (eC (.int 1)) aNil))) (aCons (eMth w "low" mt_low (eVar 0) aNil) aNil))) (aCons (eC (.bl false)) aNil))))) aNil)))
  sNext)
  (sRet (eVar 1)))))
def t_AtLeast___init__ (w : DW) : DS :=
  (sSeq (sDrop (eCall w sp_Tie___init__ [] (aCons (eVar 0) (aCons (eVar 1) (aCons (eVar 2) (aCons (eVar 3) aNil))))))
  (sFldSet ["AtLeast", "Between"] "least" (eVar 0) (eVar 4)))
def t_AtMost___init__ (w : DW) : DS :=
  (sSeq (sDrop (eCall w sp_Tie___init__ [] (aCons (eVar 0) (aCons (eVar 1) (aCons (eVar 2) (aCons (eVar 3) aNil))))))
  (sFldSet ["AtMost", "Between"] "greatest" (eVar 0) (eVar 4)))
def t_Just___init__ (w : DW) : DS :=
  (sSeq (sDrop (eCall w sp_Tie___init__ [] (aCons (eVar 0) (aCons (eVar 1) (aCons (eVar 2) (aCons (eVar 3) aNil))))))
  (sFldSet ["Just"] "size" (eVar 0) (eVar 4)))
def t_Between___init__ (w : DW) : DS :=
  (sSeq (sDrop (eCall w sp_Tie___init__ [] (aCons (eVar 0) (aCons (eVar 1) (aCons (eVar 2) (aCons (eVar 3) aNil))))))
  (sSeq (sFldSet ["AtLeast", "Between"] "least" (eVar 0) (eVar 4))
  (sFldSet ["AtMost", "Between"] "greatest" (eVar 0) (eVar 5))))
def t_check_tie (w : DW) : DS :=
  (sSeq (sIf (bOr (bNot (bE (eIsi "tuple" (eVar 0)))) (bE (eBin (opEq true) (eCB bLen (aCons (eVar 0) aNil)) (eC (.int 5)))))
  (sRaise w "NoTie")
  sNext)
  (sSeq (sFor (iSeq (eSl mkF (eVar 0) oNone (oSome (eC (.int 3))))) (dgName 1)
  (sIf (bNot (bE (eCall w sp_is_name [] (aCons (eVar 1) aNil))))
  (sRaise w "NoTie")
  sNext))
  (sSeq (sIf (bE (eBin (opEq false) (eBin opIx (eVar 0) (eC (.int 1))) (eBin opIx (eVar 0) (eC (.int 2)))))
  (sRaise w "NoTie")
  sNext)
  (sSeq (sFor (iSeq (eSl mkF (eVar 0) (oSome (eC (.int 3))) oNone)) (dgName 1)
  (sIf (bAnd (bE (eBin (opIs true) (eVar 1) (eC .non))) (bNot (bE (eCall w sp_is_fraction [] (aCons (eVar 1) aNil)))))
  (sRaise w "NoTie")
  sNext))
  (sIf (bAnd (bE (eBin (opIs true) (eBin opIx (eVar 0) (eC (.int 3))) (eC .non))) (bAnd (bE (eBin (opIs true) (eBin opIx (eVar 0) (eC (.int 4))) (eC .non))) (bE (eCall w sp_under [] (aCons (eBin opIx (eVar 0) (eC (.int 4))) (aCons (eBin opIx (eVar 0) (eC (.int 3))) aNil))))))
  (sRaise w "NoTie")
  sNext)))))
def t_tie_of (w : DW) : DS :=
  (sSeq (sDrop (eCall w sp_check_tie [] (aCons (eVar 0) aNil)))
  (sSeq (sAsg (eVar 0) (dgTup 5 (dgCons (dgName 1) (dgCons (dgName 2) (dgCons (dgName 3) (dgCons (dgName 4) (dgCons (dgName 5) dgNil)))))))
  (sSeq (sIf (bAnd (bE (eBin (opIs false) (eVar 4) (eC .non))) (bE (eBin (opIs false) (eVar 5) (eC .non))))
  (sRet (eFz (eMk w "Free" sp_Tie___init__ (aCons (eVar 1) (aCons (eVar 2) (aCons (eVar 3) aNil))))))
  sNext)
  (sSeq (sIf (bE (eBin (opIs false) (eVar 5) (eC .non)))
  (sRet (eFz (eMk w "AtLeast" sp_AtLeast___init__ (aCons (eVar 1) (aCons (eVar 2) (aCons (eVar 3) (aCons (eVar 4) aNil)))))))
  sNext)
  (sSeq (sIf (bE (eBin (opIs false) (eVar 4) (eC .non)))
  (sRet (eFz (eMk w "AtMost" sp_AtMost___init__ (aCons (eVar 1) (aCons (eVar 2) (aCons (eVar 3) (aCons (eVar 5) aNil)))))))
  sNext)
  (sSeq (sIf (bE (eBin (opEq false) (eVar 4) (eVar 5)))
  (sRet (eFz (eMk w "Just" sp_Just___init__ (aCons (eVar 1) (aCons (eVar 2) (aCons (eVar 3) (aCons (eVar 4) aNil)))))))
  sNext)
  (sRet (eFz (eMk w "Between" sp_Between___init__ (aCons (eVar 1) (aCons (eVar 2) (aCons (eVar 3) (aCons (eVar 4) (aCons (eVar 5) aNil))))))))))))))
def t_all_steps (w : DW) : DS :=
  (sSeq (sAsg (eLst mkO aNil) (dgName 1))
  (sSeq (sFor (iSeq (eVar 0)) (dgName 2)
  (sFor (iSeq (eFz (eMth w "steps" mt_steps (eCall w sp_tie_of [] (aCons (eVar 2) aNil)) aNil))) (dgTup 4 (dgCons (dgName 3) (dgCons (dgName 4) (dgCons (dgName 5) (dgCons (dgName 6) dgNil)))))
  (sDrop (eMt "list" mApp (eVar 1) (aCons (eTup (aCons (eVar 3) (aCons (eVar 4) (aCons (eVar 5) (aCons (eTup (aCons (eBin opIx (eVar 2) (eC (.int 0))) (aCons (eVar 6) aNil))) aNil))))) aNil)))))
  (sFz 1
  (sRet (eVar 1)))))
def t_one_round (w : DW) : DS :=
  (sSeq (sAsg (eC .non) (dgName 3))
  (sSeq (sFor (iSeq (eVar 0)) (dgTup 4 (dgCons (dgName 4) (dgCons (dgName 5) (dgCons (dgName 6) (dgCons (dgName 7) dgNil)))))
  (sIf (bE (eBin (opIn false) (eVar 4) (eVar 1)))
  (sSeq (sAsg (eCall w sp_plus [] (aCons (eBin opIx (eVar 1) (eVar 4)) (aCons (eVar 6) aNil))) (dgName 8))
  (sIf (bOr (bE (eBin (opIn true) (eVar 5) (eVar 1))) (bE (eCall w sp_under [] (aCons (eVar 8) (aCons (eBin opIx (eVar 1) (eVar 5)) aNil)))))
  (sSeq (sAsg (eVar 8) (dgSub (eVar 1) (eVar 5)))
  (sSeq (sAsg (eTup (aCons (eVar 4) (aCons (eVar 7) aNil))) (dgSub (eVar 2) (eVar 5)))
  (sAsg (eVar 5) (dgName 3))))
  sNext))
  sNext))
  (sRet (eVar 3))))
def t_way_back (w : DW) : DS :=
  (sSeq (sAsg (eLst mkO aNil) (dgName 3))
  (sSeq (sWhile (bE (eBin (opEq true) (eVar 1) (eVar 2)))
  (sSeq (sAsg (eBin opIx (eVar 0) (eVar 1)) (dgTup 2 (dgCons (dgName 1) (dgCons (dgName 4) dgNil))))
  (sDrop (eMt "list" mApp (eVar 3) (aCons (eVar 4) aNil)))))
  (sSeq (sDrop (eMt "list" mRev (eVar 3) aNil))
  (sRet (eVar 3)))))
def t_reached (w : DW) : DS :=
  (sSeq (sAsg (eCall w sp_all_steps [] (aCons (eVar 0) aNil)) (dgName 2))
  (sSeq (sAsg (eDic1 (eVar 1) (eTup (aCons (eC (.int 0)) (aCons (eC (.int 1)) aNil)))) (dgName 3))
  (sSeq (sAsg eDic0 (dgName 4))
  (sSeq (sAsg (eVar 1) (dgName 5))
  (sSeq (sWhile (bE (eBin (opIs true) (eVar 5) (eC .non)))
  (sAsg (eCall w sp_one_round [] (aCons (eVar 2) (aCons (eVar 3) (aCons (eVar 4) aNil)))) (dgName 5)))
  (sFz 3
  (sFz 4
  (sRet (eLc finF (iSeq (eCB (bSorted mkF) (aCons (eVar 3) aNil))) (dgName 6) bYes (eTup (aCons (eVar 6) (aCons (eBin opIx (eVar 3) (eVar 6)) (aCons (eFz (eCall w0 sp_way_back [] (aCons (eVar 4) (aCons (eVar 6) (aCons (eVar 1) aNil))))) aNil)))) [6])))))))))
def t__law_cell_at (w : DW) : DS :=
  (sSeq (sIf (bE (eBin (opCmp fun i j => decide (i < j)) (eVar 1) (eCB bLen (aCons (eVar 0) aNil))))
  (sRet (eBin opIx (eVar 0) (eVar 1)))
  sNext)
  (sRet (eC (.int 0))))
def t__law_divisor (w : DW) : DS :=
  (sSeq (sAsg (eCB bAbs (aCons (eVar 0) aNil)) (dgName 0))
  (sSeq (sAsg (eCB bAbs (aCons (eVar 1) aNil)) (dgName 1))
  (sSeq (sWhile (bE (eBin (opCmp fun i j => decide (j < i)) (eVar 1) (eC (.int 0))))
  (sPar 0 1 (aCons (eVar 1) (aCons (eBin opMod (eVar 0) (eVar 1)) aNil))))
  (sRet (eVar 0)))))
def t__law_lowest (w : DW) : DS :=
  (sSeq (sAsg (eCall w sp__law_divisor [] (aCons (eVar 0) (aCons (eVar 1) aNil))) (dgName 2))
  (sRet (eTup (aCons (eBin opDiv (eVar 0) (eVar 2)) (aCons (eBin opDiv (eVar 1) (eVar 2)) aNil)))))
def t__law_plus (w : DW) : DS :=
  (sRet (eCall w sp__law_lowest [] (aCons (eBin (opAdd mkF) (eBin opMul (eBin opIx (eVar 0) (eC (.int 0))) (eBin opIx (eVar 1) (eC (.int 1)))) (eBin opMul (eBin opIx (eVar 1) (eC (.int 0))) (eBin opIx (eVar 0) (eC (.int 1))))) (aCons (eBin opMul (eBin opIx (eVar 0) (eC (.int 1))) (eBin opIx (eVar 1) (eC (.int 1)))) aNil))))
def t__law_less (w : DW) : DS :=
  (sRet (eBin (opCmp fun i j => decide (i < j)) (eBin opMul (eBin opIx (eVar 0) (eC (.int 0))) (eBin opIx (eVar 1) (eC (.int 1)))) (eBin opMul (eBin opIx (eVar 1) (eC (.int 0))) (eBin opIx (eVar 0) (eC (.int 1))))))
def t__law_places (w : DW) : DS :=
  (sSeq (sAsg (eLst mkO aNil) (dgName 2))
  (sSeq (sFor (iRng1 (aCons (eVar 1) aNil)) (dgName 3)
  (sSeq (sAsg (eCall w sp__law_cell_at [] (aCons (eVar 0) (aCons (eBin (opAdd mkF) (eC (.int 2)) (eVar 3)) aNil))) (dgName 4))
  (sSeq (sAsg (eBin opDiv (eBin opMod (eBin opMul (eVar 4) (eC (.int 69621))) (eC (.int 2147483629))) (eC (.int 37))) (dgName 5))
  (sSeq (sAsg (eBin opSub (eBin opMod (eVar 5) (eC (.int 61))) (eC (.int 30))) (dgName 6))
  (sSeq (sIf (bE (eBin (opEq false) (eBin opMod (eBin opDiv (eVar 5) (eC (.int 61))) (eC (.int 4))) (eC (.int 1))))
  (sAsg (eBin opSub (eBin opMod (eVar 4) (eBin opPow (eC (.int 10)) (eC (.int 40)))) (eBin opMul (eC (.int 5)) (eBin opPow (eC (.int 10)) (eC (.int 39))))) (dgName 6))
  sNext)
  (sDrop (eMt "list" mApp (eVar 2) (aCons (eCall w sp__law_lowest [] (aCons (eVar 6) (aCons (eBin (opAdd mkF) (eC (.int 1)) (eBin opMod (eBin opDiv (eVar 5) (eC (.int 244))) (eC (.int 6)))) aNil))) aNil))))))))
  (sFz 2
  (sRet (eVar 2)))))
def t__law_face (w : DW) : DS :=
  (sRet (eBin opIx (eLst mkF (aCons (eC (.str ("p" : Str))) (aCons (eC (.str ("pa" : Str))) (aCons (eC (.str ("pab" : Str))) (aCons (eC (.str ("qab" : Str))) (aCons (eC (.str ("qa" : Str))) (aCons (eC (.str ("apab" : Str))) aNil))))))) (eVar 0)))
def t__law_tie (w : DW) : DS :=
  (sSeq (sAsg (eBin opDiv (eBin opMod (eBin opMul (eVar 0) (eC (.int 48271))) (eC (.int 2147483647))) (eC (.int 37))) (dgName 3))
  (sSeq (sAsg (eBin opMod (eVar 3) (eCB bLen (aCons (eVar 2) aNil))) (dgName 4))
  (sSeq (sAsg (eBin opMod (eBin (opAdd mkF) (eBin (opAdd mkF) (eVar 4) (eC (.int 1))) (eBin opMod (eBin opDiv (eVar 3) (eC (.int 6))) (eBin opSub (eCB bLen (aCons (eVar 2) aNil)) (eC (.int 1))))) (eCB bLen (aCons (eVar 2) aNil))) (dgName 5))
  (sSeq (sAsg (eCall w sp__law_plus [] (aCons (eBin opIx (eVar 2) (eVar 5)) (aCons (eTup (aCons (eNeg (eBin opIx (eBin opIx (eVar 2) (eVar 4)) (eC (.int 0)))) (aCons (eBin opIx (eBin opIx (eVar 2) (eVar 4)) (eC (.int 1))) aNil))) aNil))) (dgName 6))
  (sSeq (sAsg (eCall w sp__law_plus [] (aCons (eVar 6) (aCons (eTup (aCons (eNeg (eBin opMod (eBin opDiv (eVar 3) (eC (.int 36))) (eC (.int 5)))) (aCons (eBin (opAdd mkF) (eC (.int 1)) (eBin opMod (eBin opDiv (eVar 3) (eC (.int 180))) (eC (.int 3)))) aNil))) aNil))) (dgName 7))
  (sSeq (sAsg (eCall w sp__law_plus [] (aCons (eVar 6) (aCons (eTup (aCons (eBin opMod (eBin opDiv (eVar 3) (eC (.int 540))) (eC (.int 5))) (aCons (eBin (opAdd mkF) (eC (.int 1)) (eBin opMod (eBin opDiv (eVar 3) (eC (.int 2700))) (eC (.int 3)))) aNil))) aNil))) (dgName 8))
  (sSeq (sIf (bE (eBin (opEq false) (eBin opMod (eBin opDiv (eVar 3) (eC (.int 3))) (eC (.int 5))) (eC (.int 1))))
  (sAsg (eC .non) (dgName 7))
  sNext)
  (sSeq (sIf (bE (eBin (opEq false) (eBin opMod (eBin opDiv (eVar 3) (eC (.int 5))) (eC (.int 5))) (eC (.int 1))))
  (sAsg (eC .non) (dgName 8))
  sNext)
  (sRet (eTup (aCons (eBin opIx (eC (.str ("abcdefghi" : Str))) (eVar 1)) (aCons (eCall w sp__law_face [] (aCons (eVar 4) aNil)) (aCons (eCall w sp__law_face [] (aCons (eVar 5) aNil)) (aCons (eVar 7) (aCons (eVar 8) aNil)))))))))))))))
def t__law_steps (w : DW) : DS :=
  (sSeq (sAsg (eLst mkO aNil) (dgName 1))
  (sSeq (sFor (iSeq (eVar 0)) (dgTup 5 (dgCons (dgName 2) (dgCons (dgName 3) (dgCons (dgName 4) (dgCons (dgName 5) (dgCons (dgName 6) dgNil))))))
  (sSeq (sIf (bE (eBin (opIs true) (eVar 6) (eC .non)))
  (sDrop (eMt "list" mApp (eVar 1) (aCons (eTup (aCons (eVar 3) (aCons (eVar 4) (aCons (eVar 6) (aCons (eTup (aCons (eVar 2) (aCons (eC (.bl true)) aNil))) aNil))))) aNil)))
  sNext)
  (sIf (bE (eBin (opIs true) (eVar 5) (eC .non)))
  (sDrop (eMt "list" mApp (eVar 1) (aCons (eTup (aCons (eVar 4) (aCons (eVar 3) (aCons (eTup (aCons (eNeg (eBin opIx (eVar 5) (eC (.int 0)))) (aCons (eBin opIx (eVar 5) (eC (.int 1))) aNil))) (aCons (eTup (aCons (eVar 2) (aCons (eC (.bl false)) aNil))) aNil))))) aNil)))
  sNext)))
  (sFz 1
  (sRet (eVar 1)))))
def t__law_chain (w : DW) : DS :=
  (sSeq (sAsg (eVar 2) (dgTup 3 (dgCons (dgName 3) (dgCons (dgName 4) (dgCons (dgName 5) dgNil)))))
  (sSeq (sAsg (eLst mkO (aCons (eVar 1) aNil)) (dgName 6))
  (sSeq (sAsg (eTup (aCons (eC (.int 0)) (aCons (eC (.int 1)) aNil))) (dgName 7))
  (sSeq (sFor (iSeq (eVar 5)) (dgName 8)
  (sSeq (sAsg (eLc finF (iSeq (eVar 0)) (dgName 10) (bE (eBin (opEq false) (eBin opIx (eVar 10) (eC (.int 3))) (eVar 8))) (eVar 10) [10]) (dgName 9))
  (sSeq (sIf (bOr (bE (eBin (opEq true) (eCB bLen (aCons (eVar 9) aNil)) (eC (.int 1)))) (bOr (bE (eBin (opEq true) (eBin opIx (eBin opIx (eVar 9) (eC (.int 0))) (eC (.int 0))) (eBin opIx (eVar 6) (eNeg (eC (.int 1)))))) (bE (eBin (opIn false) (eBin opIx (eBin opIx (eVar 9) (eC (.int 0))) (eC (.int 1))) (eVar 6)))))
  (sRet (eC (.bl false)))
  sNext)
  (sSeq (sDrop (eMt "list" mApp (eVar 6) (aCons (eBin opIx (eBin opIx (eVar 9) (eC (.int 0))) (eC (.int 1))) aNil)))
  (sAsg (eCall w sp__law_plus [] (aCons (eVar 7) (aCons (eBin opIx (eBin opIx (eVar 9) (eC (.int 0))) (eC (.int 2))) aNil))) (dgName 7))))))
  (sFz 6
  (sRet (eAnd (eBin (opEq false) (eBin opIx (eVar 6) (eNeg (eC (.int 1)))) (eVar 3)) (eAnd (eBin (opEq false) (eVar 7) (eVar 4)) (eAnd (eIsi "tuple" (eVar 4)) (eIsi "list" (eVar 5)))))))))))
def t__law_least (w : DW) : DS :=
  (sSeq (sAsg eDic0 (dgName 2))
  (sSeq (sFor (iSeq (eVar 1)) (dgTup 3 (dgCons (dgName 3) (dgCons (dgName 4) (dgCons (dgName 5) dgNil))))
  (sAsg (eVar 4) (dgSub (eVar 2) (eVar 3))))
  (sFz 2
  (sSeq (sFor (iSeq (eVar 0)) (dgTup 4 (dgCons (dgName 6) (dgCons (dgName 7) (dgCons (dgName 8) (dgCons (dgName 9) dgNil)))))
  (sIf (bE (eBin (opIn false) (eVar 6) (eVar 2)))
  (sIf (bOr (bE (eBin (opIn true) (eVar 7) (eVar 2))) (bE (eCall w sp__law_less [] (aCons (eCall w sp__law_plus [] (aCons (eBin opIx (eVar 2) (eVar 6)) (aCons (eVar 8) aNil))) (aCons (eBin opIx (eVar 2) (eVar 7)) aNil)))))
  (sRet (eC (.bl false)))
  sNext)
  sNext))
  (sRet (eC (.bl true)))))))
def t__law_from (w : DW) : DS :=
  (sSeq (sAsg (eCall w sp_reached [] (aCons (eCB (bList mkF) (aCons (eVar 0) aNil)) (aCons (eVar 2) aNil))) (dgName 3))
  (sSeq (sIf (bOr (bNot (bE (eIsi "list" (eVar 3)))) (bE (eBin (opIn true) (eTup (aCons (eVar 2) (aCons (eTup (aCons (eC (.int 0)) (aCons (eC (.int 1)) aNil))) (aCons (eLst mkF aNil) aNil)))) (eVar 3))))
  (sRet (eC (.bl false)))
  sNext)
  (sSeq (sAsg (eLc finF (iSeq (eVar 3)) (dgName 5) bYes (eBin opIx (eVar 5) (eC (.int 0))) [5]) (dgName 4))
  (sSeq (sIf (bE (eBin (opEq true) (eVar 4) (eSortSet mkF (eVar 4))))
  (sRet (eC (.bl false)))
  sNext)
  (sSeq (sFor (iSeq (eVar 3)) (dgName 5)
  (sIf (bOr (bNot (bE (eIsi "tuple" (eVar 5)))) (bOr (bE (eBin (opEq true) (eCB bLen (aCons (eVar 5) aNil)) (eC (.int 3)))) (bNot (bE (eCall w sp__law_chain [] (aCons (eVar 1) (aCons (eVar 2) (aCons (eVar 5) aNil))))))))
  (sRet (eC (.bl false)))
  sNext))
  (sSeq (sIf (bNot (bE (eCall w sp__law_least [] (aCons (eVar 1) (aCons (eVar 3) aNil)))))
  (sRet (eC (.bl false)))
  sNext)
  (sThN KPk 3 (sSeq (sAsg (eLc finF (iSeq (eVar 3)) (dgTup 3 (dgCons (dgName 7) (dgCons (dgName 8) (dgCons (dgName 9) dgNil)))) bYes (eTup (aCons (eVar 7) (aCons (eVar 8) (aCons (eCB (bList mkF) (aCons (eVar 9) aNil)) aNil)))) [7, 8, 9]) (dgName 6))
  (sSeq (sFor (iSeq (eVar 3)) (dgName 5) (sDrop (eMt "list" mClr2 (eBin opIx (eVar 5) (eC (.int 2))) aNil)))
  (sSeq (sDrop (eMt "list" mClr (eVar 3) aNil))
  (sRet (eBin (opEq false) (eCall w sp_reached [] (aCons (eCB (bList mkF) (aCons (eVar 0) aNil)) (aCons (eVar 2) aNil))) (eVar 6)))))))))))))
def t_law (w : DW) : DS :=
  (sSeq (sAsg (eBin (opAdd mkF) (eC (.int 2)) (eBin opMod (eCall w sp__law_cell_at [] (aCons (eVar 0) (aCons (eC (.int 0)) aNil))) (eC (.int 5)))) (dgName 1))
  (sSeq (sAsg (eCall w sp__law_places [] (aCons (eVar 0) (aCons (eVar 1) aNil))) (dgName 2))
  (sSeq (sAsg (eLst mkO aNil) (dgName 3))
  (sSeq (sFor (iRng1 (aCons (eBin (opAdd mkF) (eC (.int 1)) (eBin opMod (eBin opDiv (eCall w sp__law_cell_at [] (aCons (eVar 0) (aCons (eC (.int 0)) aNil))) (eC (.int 5))) (eC (.int 9)))) aNil)) (dgName 4)
  (sDrop (eMt "list" mApp (eVar 3) (aCons (eCall w sp__law_tie [] (aCons (eCall w sp__law_cell_at [] (aCons (eVar 0) (aCons (eBin (opAdd mkF) (eC (.int 8)) (eVar 4)) aNil))) (aCons (eVar 4) (aCons (eVar 2) aNil)))) aNil))))
  (sFz 3
  (sSeq (sAsg (eCall w sp__law_steps [] (aCons (eVar 3) aNil)) (dgName 5))
  (sForP KPk (eSortSet mkF (eBin (opAdd mkF) (eLc finF (iSeq (eVar 3)) (dgName 7) bYes (eBin opIx (eVar 7) (eC (.int 1))) [7]) (eLc finF (iSeq (eVar 3)) (dgName 7) bYes (eBin opIx (eVar 7) (eC (.int 2))) [7]))) sp__law_from 3 5 6
  (sRet (eC (.bl true))))))))))
theorem mt_low_ok (t : TieV) : ∃ sp, lookS t.cls mt_low = some sp ∧ ∀ A Q E, sp [tieO t] A Q E = Q (obD t.low) A := by
  rcases cls5 t with e | e | e | e | e <;> rw [e, lookS_eq]
  · exact ⟨_, rfl, fun A Q E => sp_Tie_low_eq (.inl e)⟩
  · exact ⟨_, rfl, fun A Q E => sp_AtLeast_low_eq e⟩
  · exact ⟨_, rfl, fun A Q E => sp_Tie_low_eq (.inr e)⟩
  · exact ⟨_, rfl, fun A Q E => sp_Just_low_eq e⟩
  · exact ⟨_, rfl, fun A Q E => sp_Between_low_eq e⟩
theorem mt_high_ok (t : TieV) : ∃ sp, lookS t.cls mt_high = some sp ∧ ∀ A Q E, sp [tieO t] A Q E = Q (obD t.high) A := by
  rcases cls5 t with e | e | e | e | e <;> rw [e, lookS_eq]
  · exact ⟨_, rfl, fun A Q E => sp_Tie_high_eq (.inl e)⟩
  · exact ⟨_, rfl, fun A Q E => sp_Tie_high_eq (.inr e)⟩
  · exact ⟨_, rfl, fun A Q E => sp_AtMost_high_eq e⟩
  · exact ⟨_, rfl, fun A Q E => sp_Just_high_eq e⟩
  · exact ⟨_, rfl, fun A Q E => sp_Between_high_eq e⟩
theorem cls_in (t : TieV) : t.cls = "AtLeast" ∨ t.cls = "AtMost" ∨ t.cls = "Between" ∨ t.cls = "Free" ∨ t.cls = "Just" := by
  rcases cls5 t with e | e | e | e | e <;> simp [e]
theorem mt_steps_ok (t : TieV) : lookS t.cls mt_steps = some sp_Tie_steps := by
  rcases cls5 t with e | e | e | e | e <;> rw [e, lookS_eq] <;> rfl
theorem stepsD_enc (t : TieV) : stepsD t = (tieSteps t).map enc := by
  unfold stepsD tieSteps
  have e : ∀ l : Rat, (0 : Rat) - l = -l := fun l => by rw [Rat.sub_eq_add_neg, Rat.zero_add]
  cases t.high <;> cases t.low <;> simp [enc, e]
theorem hm_Tie_steps : ∀ (A : AH) (x : D) (a : TieO) (Q : DK) (E : DX), vw A x a → (F_Tie_steps a).wp (fun r => ∀ p A', New A (oL r) p A' → Q (.ref p) A') (fun c fs => E c fs A) → MethOk mt_steps "steps" x A [] Q E := by
  intro A x a Q E hx h
  have e : x = tieO a.t := hx
  subst e
  unfold MethOk
  rw [asObj_tie]
  refine ⟨flds_no a.t (by decide), ?_⟩
  rw [mt_steps_ok]
  show sp_Tie_steps [tieO a.t] A Q E
  unfold F_Tie_steps at h
  split at h
  · rename_i g
    rw [sp_Tie_steps_eq]
    refine ⟨g, fun p hp => ?_⟩
    rw [stepsD_enc]; exact h p _ (New.put hp)
  · exact h.elim
theorem len_divisor {ds A Q E} (h : sp_divisor ds A Q E) : ds.length = 2 := by first | (unfold sp_divisor at h; split at h <;> first | rfl | exact h.elim) | (obtain ⟨_, rfl, _⟩ := h; rfl) | (obtain ⟨_, _, rfl, _⟩ := h; rfl)
theorem rd_divisor {ds A Q E} (h : sp_divisor ds A Q E) : t_divisor (fun c fs _ A => E c fs A) { nx := fun _ A => Q .non A, rt := Q } (startD 2 ds) A := by
  unfold sp_divisor at h
  split at h
  case h_2 => exact h.elim
  rename_i a b
  have q := h
  unfold t_divisor
  simp [sWhile_eq]
  have key : ∀ (n : Nat) (x y : Nat), y < n → Int.gcd a b = Nat.gcd x y → whileN (bE (eBin (opCmp fun i j => decide (j < i)) (eVar 1) (eC (.int 0)))) (sPar 0 1 (aCons (eVar 1) (aCons (eBin opMod (eVar 0) (eVar 1)) aNil)))
      { nx := sRet (eVar 0) { nx := fun _ A => Q .non A, rt := Q }, rt := Q } n [some (.int x), some (.int y)] A := by
    intro n
    induction n with
    | zero => intro x y h; omega
    | succ n ih =>
      intro x y hy e
      unfold whileN
      by_cases h0 : y = 0
      · subst h0
        simp
        rw [Nat.gcd_zero_right] at e
        rw [e] at q
        exact q
      · have hp : 0 < y := by omega
        simp [hp, h0]
        have e2 : (x : Int).fmod (y : Int) = ((x % y : Nat) : Int) := by rw [Int.fmod_eq_emod_of_nonneg _ (by omega)]; rfl
        rw [e2]
        refine ih y (x % y) (by have := Nat.mod_lt x (show 0 < y by omega); omega) ?_
        rw [e, Nat.gcd_comm x y, Nat.gcd_rec y x, Nat.gcd_comm]
  exact ⟨b.natAbs + 1, key _ a.natAbs b.natAbs (by omega) rfl⟩
theorem len_fraction {ds A Q E} (h : sp_fraction ds A Q E) : ds.length = 2 := by first | (unfold sp_fraction at h; split at h <;> first | rfl | exact h.elim) | (obtain ⟨_, rfl, _⟩ := h; rfl) | (obtain ⟨_, _, rfl, _⟩ := h; rfl)
theorem rd_fraction {ds A Q E} (h : sp_fraction ds A Q E) : t_fraction (fun c fs _ A => E c fs A) { nx := fun _ A => Q .non A, rt := Q } (startD 3 ds) A := by
  unfold sp_fraction at h
  split at h
  case h_2 => exact h.elim
  rename_i a b
  unfold t_fraction
  by_cases hb : b = 0
  · simp [sIf_eq, hb]
    exact h.1 hb
  · obtain ⟨⟨wa, wb⟩, q⟩ := h.2 hb
    obtain ⟨d1, d2⟩ := gcd_ok (a := a) hb wb
    have en := low_num (a := a) hb
    have ed := low_den (a := a) hb
    by_cases hn : b < 0
    · simp [sIf_eq, hb, hn, d1, d2]
      rw [if_pos hn] at en ed
      unfold frD at q
      rw [en, ed] at q
      exact q
    · simp [sIf_eq, hb, hn, d1, d2]
      rw [if_neg hn] at en ed
      unfold frD at q
      rw [en, ed] at q
      exact q
theorem len_plus {ds A Q E} (h : sp_plus ds A Q E) : ds.length = 2 := by first | (unfold sp_plus at h; split at h <;> first | rfl | exact h.elim) | (obtain ⟨_, rfl, _⟩ := h; rfl) | (obtain ⟨_, _, rfl, _⟩ := h; rfl)
theorem rd_plus {ds A Q E} (h : sp_plus ds A Q E) : t_plus (fun c fs _ A => E c fs A) { nx := fun _ A => Q .non A, rt := Q } (startD 2 ds) A := by
  unfold sp_plus at h
  split at h
  case h_2 => exact h.elim
  split at h
  case h_2 => exact h.elim
  rename_i q r hq hr
  rw [deFr_ok hq, deFr_ok hr]
  obtain ⟨⟨sq, sr⟩, k⟩ := h
  have hd := den_mul_ne q r
  unfold t_plus
  simp [mm1 sq sr, mm1 sr sq, mm3 sq sr, w_add sq sr, w_den sq sr, den_mul_ne, add_fr]
  simp at hd
  exact k
theorem len_minus {ds A Q E} (h : sp_minus ds A Q E) : ds.length = 2 := by first | (unfold sp_minus at h; split at h <;> first | rfl | exact h.elim) | (obtain ⟨_, rfl, _⟩ := h; rfl) | (obtain ⟨_, _, rfl, _⟩ := h; rfl)
theorem rd_minus {ds A Q E} (h : sp_minus ds A Q E) : t_minus (fun c fs _ A => E c fs A) { nx := fun _ A => Q .non A, rt := Q } (startD 2 ds) A := by
  unfold sp_minus at h
  split at h
  case h_2 => exact h.elim
  split at h
  case h_2 => exact h.elim
  rename_i q r hq hr
  rw [deFr_ok hq, deFr_ok hr]
  obtain ⟨⟨sq, sr⟩, k⟩ := h
  have hd := den_mul_ne q r
  unfold t_minus
  simp [mm1 sq sr, mm1 sr sq, mm3 sq sr, w_sub sq sr, w_den sq sr, den_mul_ne, sub_fr]
  simp at hd
  exact k
theorem len_under {ds A Q E} (h : sp_under ds A Q E) : ds.length = 2 := by first | (unfold sp_under at h; split at h <;> first | rfl | exact h.elim) | (obtain ⟨_, rfl, _⟩ := h; rfl) | (obtain ⟨_, _, rfl, _⟩ := h; rfl)
theorem rd_under {ds A Q E} (h : sp_under ds A Q E) : t_under (fun c fs _ A => E c fs A) { nx := fun _ A => Q .non A, rt := Q } (startD 2 ds) A := by
  unfold sp_under at h
  split at h
  case h_2 => exact h.elim
  split at h
  case h_2 => exact h.elim
  rename_i q r hq hr
  rw [deFr_ok hq, deFr_ok hr]
  obtain ⟨⟨sq, sr⟩, k⟩ := h
  unfold t_under
  simp [mm1 sq sr, mm1 sr sq]
  simpa [Rat.lt_iff] using k
theorem len_is_whole {ds A Q E} (h : sp_is_whole ds A Q E) : ds.length = 1 := by first | (unfold sp_is_whole at h; split at h <;> first | rfl | exact h.elim) | (obtain ⟨_, rfl, _⟩ := h; rfl) | (obtain ⟨_, _, rfl, _⟩ := h; rfl)
theorem ty_int_iff {A : AH} {d : D} {s : String} (h : tyD A d = some s) : isIntD d = (instB s "int" && !instB s "bool") := by
  cases d with
  | ref a =>
    have h' : (match A a with | some (.lst _) => some "list" | some (.dic _) => some "dict" | _ => none) = some s := h
    split at h' <;> cases h' <;> rfl
  | obj _ _ _ => cases h
  | _ => cases h; rfl
theorem rd_is_whole {ds A Q E} (h : sp_is_whole ds A Q E) : t_is_whole (fun c fs _ A => E c fs A) { nx := fun _ A => Q .non A, rt := Q } (startD 1 ds) A := by
  unfold sp_is_whole at h
  split at h
  case h_2 => exact h.elim
  rename_i d
  obtain ⟨h1, k⟩ := h
  obtain ⟨s, hs⟩ := Option.isSome_iff_exists.mp h1
  rw [ty_int_iff hs] at k
  unfold t_is_whole
  simp [eAnd_eq, hs]
  cases h2 : instB s "int" <;> simp [h2] at k ⊢ <;> exact k
theorem len_is_name {ds A Q E} (h : sp_is_name ds A Q E) : ds.length = 1 := by first | (unfold sp_is_name at h; split at h <;> first | rfl | exact h.elim) | (obtain ⟨_, rfl, _⟩ := h; rfl) | (obtain ⟨_, _, rfl, _⟩ := h; rfl)
theorem letters_mem (c : Nat) : decide (c ∈ ("abcdefghijklmnopqrstuvwxyz" : Str).cps.toList) = decide (97 ≤ c ∧ c ≤ 122) := by
  have e : ("abcdefghijklmnopqrstuvwxyz" : Str).cps.toList = [97,98,99,100,101,102,103,104,105,106,107,108,109,110,111,112,113,114,115,116,117,118,119,120,121,122] := by decide +kernel
  rw [e]
  apply decide_eq_decide.mpr
  simp only [List.mem_cons, List.not_mem_nil, or_false]
  omega
theorem instB_str {s : String} (h : s ≠ "str") : instB s "str" = false := by
  unfold instB; simp [h]
theorem rd_is_name {ds A Q E} (h : sp_is_name ds A Q E) : t_is_name (fun c fs _ A => E c fs A) { nx := fun _ A => Q .non A, rt := Q } (startD 2 ds) A := by
  unfold sp_is_name at h
  split at h
  · rename_i z
    obtain ⟨hf, k⟩ := h
    unfold t_is_name
    by_cases hl : 1 ≤ z.length ∧ z.length ≤ 8
    · have h1 : ¬ ((z.length : Int) < 1) := by omega
      have h2 : ¬ ((8 : Int) < z.length) := by omega
      have h3 : z.length ≠ 0 := by omega
      have h4 : ¬ 8 < z.length := by omega
      simp [sIf_eq, bOr_eq, instB, hf, h1, h2, h3, h4, sFor_eq]
      have hall : nameB z = z.cps.toList.all fun c => decide (97 ≤ c ∧ c ≤ 122) := by unfold nameB; simp [hl]
      rw [hall] at k
      refine forD_ind (fun l δ A' => A' = A ∧ (∃ o, δ = [some (.str z), o]) ∧ ∃ cs : List Nat, l = cs.map (fun c => D.str ⟨#[c]⟩) ∧ Q (.bl (cs.all fun c => decide (97 ≤ c ∧ c ≤ 122))) A) (fun _ _ _ _ => trivial) ?_ ?_ _ _ _ ⟨rfl, ⟨_, rfl⟩, _, rfl, k⟩
      · rintro δ A' ⟨rfl, ⟨o, rfl⟩, cs, e, k⟩
        cases cs with
        | nil => simpa using k
        | cons c cs => cases e
      · rintro x l δ A' N hN ⟨rfl, ⟨o, rfl⟩, cs, e, k⟩
        cases cs with
        | nil => cases e
        | cons c cs =>
          simp only [List.map_cons, List.cons.injEq] at e
          obtain ⟨rfl, rfl⟩ := e
          have lm := letters_mem c
          simp [sIf_eq, -List.mem_toArray]
          rw [List.all_cons] at k
          have lm2 : (c ∈ ("abcdefghijklmnopqrstuvwxyz" : Str).cps.toList) ↔ (97 ≤ c ∧ c ≤ 122) := decide_eq_decide.mp lm
          simp only [Array.mem_toList_iff] at lm2
          by_cases hc : 97 ≤ c ∧ c ≤ 122
          · rw [decide_eq_true hc, Bool.true_and] at k
            exact ⟨fun hh => absurd (lm2.mpr hc) hh, fun _ => hN _ _ ⟨rfl, ⟨_, rfl⟩, cs, rfl, k⟩⟩
          · rw [decide_eq_false hc, Bool.false_and] at k
            exact ⟨fun _ => k, fun hh => absurd (lm2.mp hh) hc⟩
    · have e : nameB z = false := by unfold nameB; simp [hl]
      rw [e] at k
      by_cases h1 : z.length < 1
      · have h3 : z.length = 0 := by omega
        simp [sIf_eq, bOr_eq, instB, h3]
        simpa using k
      · have h2 : 8 < z.length := by omega
        have h3 : z.length ≠ 0 := by omega
        have h5 : ¬ z.length ≤ 0 := by omega
        have h6 : ¬ ((z.length : Int) < 1) := by omega
        simp [sIf_eq, bOr_eq, instB, hf, h2, h3, h6]
        first | exact k | exact ⟨fun _ => k, fun hh => absurd hh (by omega)⟩ | exact fun hh => absurd hh (by omega)
  · rename_i d _
    obtain ⟨⟨h1, h2⟩, k⟩ := h
    obtain ⟨s, hs⟩ := Option.isSome_iff_exists.mp h1
    have hi := instB_str (s := s) (fun e => h2 (by rw [hs, e]))
    unfold t_is_name
    simp [sIf_eq, bOr_eq, hs, hi]
    exact k
  · exact h.elim
theorem len_is_fraction {ds A Q E} (h : sp_is_fraction ds A Q E) : ds.length = 1 := by first | (unfold sp_is_fraction at h; split at h <;> first | rfl | exact h.elim) | (obtain ⟨_, rfl, _⟩ := h; rfl) | (obtain ⟨_, _, rfl, _⟩ := h; rfl)
theorem isInt_ok {d : D} (h : isIntD d = true) : ∃ i, d = .int i := by
  cases d <;> first | exact ⟨_, rfl⟩ | cases h
theorem ty_tup_iff {A : AH} {d : D} {s : String} (h : tyD A d = some s) (hn : ∀ l, d ≠ .tup l) : instB s "tuple" = false := by
  cases d with
  | ref a =>
    have h' : (match A a with | some (.lst _) => some "list" | some (.dic _) => some "dict" | _ => none) = some s := h
    split at h' <;> cases h' <;> rfl
  | obj _ _ _ => cases h
  | tup l => exact absurd rfl (hn l)
  | _ => cases h; rfl
theorem rd_is_fraction {ds A Q E} (h : sp_is_fraction ds A Q E) : t_is_fraction (fun c fs _ A => E c fs A) { nx := fun _ A => Q .non A, rt := Q } (startD 1 ds) A := by
  unfold sp_is_fraction at h
  split at h
  case h_2 => exact h.elim
  rename_i d
  obtain ⟨h1, k⟩ := h
  unfold t_is_fraction
  by_cases ht : ∃ l, d = .tup l
  · obtain ⟨l, rfl⟩ := ht
    match l, h1, k with
    | [], _, k =>
      have e : fracB (.tup []) = false := rfl
      rw [e] at k
      simp [sIf_eq, bOr_eq, instB]; exact k
    | [x], _, k =>
      have e : fracB (.tup [x]) = false := by cases x <;> rfl
      rw [e] at k
      simp [sIf_eq, bOr_eq, instB]; exact k
    | x :: y :: z :: r, _, k =>
      have e : fracB (.tup (x :: y :: z :: r)) = false := by cases x <;> first | rfl | (cases y <;> rfl)
      rw [e] at k
      simp [sIf_eq, bOr_eq, instB]
      exact ⟨fun _ => k, fun hh => absurd hh (by omega)⟩
    | [x, y], h1, k =>
      simp only [tyOk, List.all_cons, List.all_nil, Bool.and_true, Bool.and_eq_true] at h1
      obtain ⟨g1, g2⟩ := h1
      cases hx : isIntD x with
      | false =>
        have e : fracB (.tup [x, y]) = false := by cases x <;> first | rfl | cases hx
        rw [e] at k
        simp [sIf_eq, bOr_eq, instB, g1, g2, hx]
        exact k
      | true =>
        obtain ⟨a, rfl⟩ := isInt_ok hx
        cases hy : isIntD y with
        | false =>
          have e : fracB (.tup [.int a, y]) = false := by cases y <;> first | rfl | cases hy
          rw [e] at k
          simp [sIf_eq, bOr_eq, instB, g1, g2, hx, hy]
          exact k
        | true =>
          obtain ⟨b, rfl⟩ := isInt_ok hy
          have e : fracB (.tup [.int a, .int b]) = (decide (1 ≤ b) && decide (Int.gcd a b = 1)) := rfl
          rw [e] at k
          by_cases hb : b < 1
          · have hb2 : ¬ 1 ≤ b := by omega
            simp [hb2] at k
            simp [sIf_eq, bOr_eq, instB, hx, hy, hb]
            exact k
          · have hb2 : 1 ≤ b := by omega
            simp [hb2] at k
            simp [sIf_eq, bOr_eq, instB, hx, hy, hb]
            have e2 : ((Int.gcd a b : Int) == 1) = decide (Int.gcd a b = 1) := by
              by_cases hg : Int.gcd a b = 1
              · simp [hg]
              · simp [hg]; omega
            first | exact k | (rw [e2]; exact k) | simpa [e2] using k
  · have h2 : (tyD A d).isSome = true := by
      cases d with
      | tup l => exact absurd ⟨l, rfl⟩ ht
      | _ => exact h1
    obtain ⟨s, hs⟩ := Option.isSome_iff_exists.mp h2
    have hi := ty_tup_iff hs fun l e => ht ⟨l, e⟩
    have e : fracB d = false := by cases d <;> first | rfl | exact absurd ⟨_, rfl⟩ ht
    rw [e] at k
    simp [sIf_eq, bOr_eq, hs, hi]
    exact k
theorem len_Tie___init__ {ds A Q E} (h : sp_Tie___init__ ds A Q E) : ds.length = 4 := by first | (unfold sp_Tie___init__ at h; split at h <;> first | rfl | exact h.elim) | (obtain ⟨_, rfl, _⟩ := h; rfl) | (obtain ⟨_, _, rfl, _⟩ := h; rfl)
theorem rd_Tie___init__ {ds A Q E} (h : sp_Tie___init__ ds A Q E) : t_Tie___init__ (fun c fs _ A => E c fs A) { nx := fun _ A => Q .non A, rt := Q } (startD 4 ds) A := by
  unfold sp_Tie___init__ at h
  split at h
  case h_2 => exact h.elim
  rename_i x a b c
  split at h
  case h_2 => exact h.elim
  rename_i k hx
  obtain ⟨hk, q⟩ := h
  unfold t_Tie___init__
  simp only [List.mem_cons, List.not_mem_nil, or_false] at hk
  rcases hk with rfl | rfl | rfl | rfl | rfl <;>
  · simp [hx, putD]
    exact q
theorem len_Tie_low {ds A Q E} (h : sp_Tie_low ds A Q E) : ds.length = 1 := by first | (unfold sp_Tie_low at h; split at h <;> first | rfl | exact h.elim) | (obtain ⟨_, rfl, _⟩ := h; rfl) | (obtain ⟨_, _, rfl, _⟩ := h; rfl)
theorem rd_Tie_low {ds A Q E} (h : sp_Tie_low ds A Q E) : t_Tie_low (fun c fs _ A => E c fs A) { nx := fun _ A => Q .non A, rt := Q } (startD 1 ds) A := by
  obtain ⟨t, rfl, hc, q⟩ := h
  obtain ⟨n, s, f, l, g⟩ := t
  unfold t_Tie_low
  cases l <;> cases g <;> simp [TieV.cls] at hc q ⊢ <;> first | exact q | (split at hc <;> simp at hc)
theorem len_Tie_high {ds A Q E} (h : sp_Tie_high ds A Q E) : ds.length = 1 := by first | (unfold sp_Tie_high at h; split at h <;> first | rfl | exact h.elim) | (obtain ⟨_, rfl, _⟩ := h; rfl) | (obtain ⟨_, _, rfl, _⟩ := h; rfl)
theorem rd_Tie_high {ds A Q E} (h : sp_Tie_high ds A Q E) : t_Tie_high (fun c fs _ A => E c fs A) { nx := fun _ A => Q .non A, rt := Q } (startD 1 ds) A := by
  obtain ⟨t, rfl, hc, q⟩ := h
  obtain ⟨n, s, f, l, g⟩ := t
  unfold t_Tie_high
  cases l <;> cases g <;> simp [TieV.cls] at hc q ⊢ <;> first | exact q | (split at hc <;> simp at hc)
theorem len_AtMost_high {ds A Q E} (h : sp_AtMost_high ds A Q E) : ds.length = 1 := by first | (unfold sp_AtMost_high at h; split at h <;> first | rfl | exact h.elim) | (obtain ⟨_, rfl, _⟩ := h; rfl) | (obtain ⟨_, _, rfl, _⟩ := h; rfl)
theorem rd_AtMost_high {ds A Q E} (h : sp_AtMost_high ds A Q E) : t_AtMost_high (fun c fs _ A => E c fs A) { nx := fun _ A => Q .non A, rt := Q } (startD 1 ds) A := by
  obtain ⟨t, rfl, hc, q⟩ := h
  obtain ⟨n, s, f, l, g⟩ := t
  unfold t_AtMost_high
  cases l with
  | none => cases g with
    | none => simp [TieV.cls] at hc
    | some g => simp [TieV.cls] at hc; try (simp [TieV.cls, TieV.flds]; exact q)
  | some l => cases g with
    | none => simp [TieV.cls] at hc; try (simp [TieV.cls, TieV.flds]; exact q)
    | some g =>
      simp only [TieV.cls] at hc
      by_cases e : l = g
      · rw [if_pos e] at hc; first | exact absurd hc (by decide) | (subst e; simp [TieV.cls, TieV.flds]; exact q)
      · rw [if_neg e] at hc; first | exact absurd hc (by decide) | (simp [TieV.cls, TieV.flds, e]; exact q)
theorem len_Between_high {ds A Q E} (h : sp_Between_high ds A Q E) : ds.length = 1 := by first | (unfold sp_Between_high at h; split at h <;> first | rfl | exact h.elim) | (obtain ⟨_, rfl, _⟩ := h; rfl) | (obtain ⟨_, _, rfl, _⟩ := h; rfl)
theorem rd_Between_high {ds A Q E} (h : sp_Between_high ds A Q E) : t_Between_high (fun c fs _ A => E c fs A) { nx := fun _ A => Q .non A, rt := Q } (startD 1 ds) A := by
  obtain ⟨t, rfl, hc, q⟩ := h
  obtain ⟨n, s, f, l, g⟩ := t
  unfold t_Between_high
  cases l with
  | none => cases g with
    | none => simp [TieV.cls] at hc
    | some g => simp [TieV.cls] at hc; try (simp [TieV.cls, TieV.flds]; exact q)
  | some l => cases g with
    | none => simp [TieV.cls] at hc; try (simp [TieV.cls, TieV.flds]; exact q)
    | some g =>
      simp only [TieV.cls] at hc
      by_cases e : l = g
      · rw [if_pos e] at hc; first | exact absurd hc (by decide) | (subst e; simp [TieV.cls, TieV.flds]; exact q)
      · rw [if_neg e] at hc; first | exact absurd hc (by decide) | (simp [TieV.cls, TieV.flds, e]; exact q)
theorem len_Just_high {ds A Q E} (h : sp_Just_high ds A Q E) : ds.length = 1 := by first | (unfold sp_Just_high at h; split at h <;> first | rfl | exact h.elim) | (obtain ⟨_, rfl, _⟩ := h; rfl) | (obtain ⟨_, _, rfl, _⟩ := h; rfl)
theorem rd_Just_high {ds A Q E} (h : sp_Just_high ds A Q E) : t_Just_high (fun c fs _ A => E c fs A) { nx := fun _ A => Q .non A, rt := Q } (startD 1 ds) A := by
  obtain ⟨t, rfl, hc, q⟩ := h
  obtain ⟨n, s, f, l, g⟩ := t
  unfold t_Just_high
  cases l with
  | none => cases g with
    | none => simp [TieV.cls] at hc
    | some g => simp [TieV.cls] at hc; try (simp [TieV.cls, TieV.flds]; exact q)
  | some l => cases g with
    | none => simp [TieV.cls] at hc; try (simp [TieV.cls, TieV.flds]; exact q)
    | some g =>
      simp only [TieV.cls] at hc
      by_cases e : l = g
      · rw [if_pos e] at hc; first | exact absurd hc (by decide) | (subst e; simp [TieV.cls, TieV.flds]; exact q)
      · rw [if_neg e] at hc; first | exact absurd hc (by decide) | (simp [TieV.cls, TieV.flds, e]; exact q)
theorem len_AtLeast_low {ds A Q E} (h : sp_AtLeast_low ds A Q E) : ds.length = 1 := by first | (unfold sp_AtLeast_low at h; split at h <;> first | rfl | exact h.elim) | (obtain ⟨_, rfl, _⟩ := h; rfl) | (obtain ⟨_, _, rfl, _⟩ := h; rfl)
theorem rd_AtLeast_low {ds A Q E} (h : sp_AtLeast_low ds A Q E) : t_AtLeast_low (fun c fs _ A => E c fs A) { nx := fun _ A => Q .non A, rt := Q } (startD 1 ds) A := by
  obtain ⟨t, rfl, hc, q⟩ := h
  obtain ⟨n, s, f, l, g⟩ := t
  unfold t_AtLeast_low
  cases l with
  | none => cases g with
    | none => simp [TieV.cls] at hc
    | some g => simp [TieV.cls] at hc; try (simp [TieV.cls, TieV.flds]; exact q)
  | some l => cases g with
    | none => simp [TieV.cls] at hc; try (simp [TieV.cls, TieV.flds]; exact q)
    | some g =>
      simp only [TieV.cls] at hc
      by_cases e : l = g
      · rw [if_pos e] at hc; first | exact absurd hc (by decide) | (subst e; simp [TieV.cls, TieV.flds]; exact q)
      · rw [if_neg e] at hc; first | exact absurd hc (by decide) | (simp [TieV.cls, TieV.flds, e]; exact q)
theorem len_Between_low {ds A Q E} (h : sp_Between_low ds A Q E) : ds.length = 1 := by first | (unfold sp_Between_low at h; split at h <;> first | rfl | exact h.elim) | (obtain ⟨_, rfl, _⟩ := h; rfl) | (obtain ⟨_, _, rfl, _⟩ := h; rfl)
theorem rd_Between_low {ds A Q E} (h : sp_Between_low ds A Q E) : t_Between_low (fun c fs _ A => E c fs A) { nx := fun _ A => Q .non A, rt := Q } (startD 1 ds) A := by
  obtain ⟨t, rfl, hc, q⟩ := h
  obtain ⟨n, s, f, l, g⟩ := t
  unfold t_Between_low
  cases l with
  | none => cases g with
    | none => simp [TieV.cls] at hc
    | some g => simp [TieV.cls] at hc; try (simp [TieV.cls, TieV.flds]; exact q)
  | some l => cases g with
    | none => simp [TieV.cls] at hc; try (simp [TieV.cls, TieV.flds]; exact q)
    | some g =>
      simp only [TieV.cls] at hc
      by_cases e : l = g
      · rw [if_pos e] at hc; first | exact absurd hc (by decide) | (subst e; simp [TieV.cls, TieV.flds]; exact q)
      · rw [if_neg e] at hc; first | exact absurd hc (by decide) | (simp [TieV.cls, TieV.flds, e]; exact q)
theorem len_Just_low {ds A Q E} (h : sp_Just_low ds A Q E) : ds.length = 1 := by first | (unfold sp_Just_low at h; split at h <;> first | rfl | exact h.elim) | (obtain ⟨_, rfl, _⟩ := h; rfl) | (obtain ⟨_, _, rfl, _⟩ := h; rfl)
theorem rd_Just_low {ds A Q E} (h : sp_Just_low ds A Q E) : t_Just_low (fun c fs _ A => E c fs A) { nx := fun _ A => Q .non A, rt := Q } (startD 1 ds) A := by
  obtain ⟨t, rfl, hc, q⟩ := h
  obtain ⟨n, s, f, l, g⟩ := t
  unfold t_Just_low
  cases l with
  | none => cases g with
    | none => simp [TieV.cls] at hc
    | some g => simp [TieV.cls] at hc; try (simp [TieV.cls, TieV.flds]; exact q)
  | some l => cases g with
    | none => simp [TieV.cls] at hc; try (simp [TieV.cls, TieV.flds]; exact q)
    | some g =>
      simp only [TieV.cls] at hc
      by_cases e : l = g
      · rw [if_pos e] at hc; first | exact absurd hc (by decide) | (subst e; simp [TieV.cls, TieV.flds]; exact q)
      · rw [if_neg e] at hc; first | exact absurd hc (by decide) | (simp [TieV.cls, TieV.flds, e]; exact q)
theorem len_Tie_steps {ds A Q E} (h : sp_Tie_steps ds A Q E) : ds.length = 1 := by first | (unfold sp_Tie_steps at h; split at h <;> first | rfl | exact h.elim) | (obtain ⟨_, rfl, _⟩ := h; rfl) | (obtain ⟨_, _, rfl, _⟩ := h; rfl)
theorem sm_zero : Sm 0 := ⟨by show (0 : Nat) < _; exact Nat.pow_pos (by decide), by show (1 : Nat) < _; exact Nat.lt_of_lt_of_le (show 1 < 2 ^ 1 by decide) (Nat.pow_le_pow_right (by decide) (by decide))⟩
theorem rd_Tie_steps {ds A Q E} (h : sp_Tie_steps ds A Q E) : t_Tie_steps (fun c fs _ A => E c fs A) { nx := fun _ A => Q .non A, rt := Q } (startD 2 ds) A := by
  obtain ⟨t, rfl, st, k⟩ := h
  unfold t_Tie_steps
  obtain ⟨sl, l1, l2⟩ := mt_low_ok t
  obtain ⟨sh, h1, h2⟩ := mt_high_ok t
  have n1 := flds_no t (m := "low") (by decide)
  have n2 := flds_no t (m := "high") (by decide)
  have c5 := cls_in t
  have e0 : D.tup [.int 0, .int 1] = frD 0 := by rw [frD_def]; rfl
  simp
  intro p hp
  have kp := k p hp
  unfold stepsD at kp
  simp [sIf_eq, h1, n2, h2, l1, n1, l2]
  cases hh : t.high with
  | none => cases hl : t.low with
    | none => rw [hl, hh] at kp; simp [sIf_eq, l1, n1, l2, hl]; exact kp
    | some l =>
      have sl := st.1 l hl
      rw [hl, hh] at kp
      simp [sIf_eq, l1, n1, l2, hl, c5, e0, sm_zero, sl]; exact kp
  | some h =>
    have sh := st.2 h hh
    cases hl : t.low with
    | none => rw [hl, hh] at kp; simp [sIf_eq, l1, n1, l2, h1, n2, h2, hl, hh, c5]; exact kp
    | some l =>
      have sl := st.1 l hl
      rw [hl, hh] at kp
      simp [sIf_eq, l1, n1, l2, h1, n2, h2, hl, hh, c5, e0, sm_zero, sl]; exact kp
theorem len_AtLeast___init__ {ds A Q E} (h : sp_AtLeast___init__ ds A Q E) : ds.length = 5 := by first | (unfold sp_AtLeast___init__ at h; split at h <;> first | rfl | exact h.elim) | (obtain ⟨_, rfl, _⟩ := h; rfl) | (obtain ⟨_, _, rfl, _⟩ := h; rfl)
theorem rd_AtLeast___init__ {ds A Q E} (h : sp_AtLeast___init__ ds A Q E) : t_AtLeast___init__ (fun c fs _ A => E c fs A) { nx := fun _ A => Q .non A, rt := Q } (startD 5 ds) A := by
  unfold sp_AtLeast___init__ at h
  split at h
  case h_2 => exact h.elim
  rename_i x a b c d0
  split at h
  case h_2 => exact h.elim
  rename_i k hx
  obtain ⟨rfl, q⟩ := h
  unfold t_AtLeast___init__
  simp [hx, putD]
  exact q
theorem len_AtMost___init__ {ds A Q E} (h : sp_AtMost___init__ ds A Q E) : ds.length = 5 := by first | (unfold sp_AtMost___init__ at h; split at h <;> first | rfl | exact h.elim) | (obtain ⟨_, rfl, _⟩ := h; rfl) | (obtain ⟨_, _, rfl, _⟩ := h; rfl)
theorem rd_AtMost___init__ {ds A Q E} (h : sp_AtMost___init__ ds A Q E) : t_AtMost___init__ (fun c fs _ A => E c fs A) { nx := fun _ A => Q .non A, rt := Q } (startD 5 ds) A := by
  unfold sp_AtMost___init__ at h
  split at h
  case h_2 => exact h.elim
  rename_i x a b c d0
  split at h
  case h_2 => exact h.elim
  rename_i k hx
  obtain ⟨rfl, q⟩ := h
  unfold t_AtMost___init__
  simp [hx, putD]
  exact q
theorem len_Just___init__ {ds A Q E} (h : sp_Just___init__ ds A Q E) : ds.length = 5 := by first | (unfold sp_Just___init__ at h; split at h <;> first | rfl | exact h.elim) | (obtain ⟨_, rfl, _⟩ := h; rfl) | (obtain ⟨_, _, rfl, _⟩ := h; rfl)
theorem rd_Just___init__ {ds A Q E} (h : sp_Just___init__ ds A Q E) : t_Just___init__ (fun c fs _ A => E c fs A) { nx := fun _ A => Q .non A, rt := Q } (startD 5 ds) A := by
  unfold sp_Just___init__ at h
  split at h
  case h_2 => exact h.elim
  rename_i x a b c d0
  split at h
  case h_2 => exact h.elim
  rename_i k hx
  obtain ⟨rfl, q⟩ := h
  unfold t_Just___init__
  simp [hx, putD]
  exact q
theorem len_Between___init__ {ds A Q E} (h : sp_Between___init__ ds A Q E) : ds.length = 6 := by first | (unfold sp_Between___init__ at h; split at h <;> first | rfl | exact h.elim) | (obtain ⟨_, rfl, _⟩ := h; rfl) | (obtain ⟨_, _, rfl, _⟩ := h; rfl)
theorem rd_Between___init__ {ds A Q E} (h : sp_Between___init__ ds A Q E) : t_Between___init__ (fun c fs _ A => E c fs A) { nx := fun _ A => Q .non A, rt := Q } (startD 6 ds) A := by
  unfold sp_Between___init__ at h
  split at h
  case h_2 => exact h.elim
  rename_i x a b c d0 d1
  split at h
  case h_2 => exact h.elim
  rename_i k hx
  obtain ⟨rfl, q⟩ := h
  unfold t_Between___init__
  simp [hx, putD]
  exact q
theorem len_check_tie {ds A Q E} (h : sp_check_tie ds A Q E) : ds.length = 1 := by first | (unfold sp_check_tie at h; split at h <;> first | rfl | exact h.elim) | (obtain ⟨_, rfl, _⟩ := h; rfl) | (obtain ⟨_, _, rfl, _⟩ := h; rfl)
theorem boundD_ok {d : D} (h : (d.isNon || fracB d) = true) : ∃ o, d = obD o := by
  cases hn : d.isNon with
  | true => exact ⟨none, by cases d <;> first | rfl | cases hn⟩
  | false =>
    rw [hn, Bool.false_or, fracB_eq] at h
    obtain ⟨q, hq⟩ := Option.isSome_iff_exists.mp h
    exact ⟨some q, deFr_ok hq⟩
theorem deOb_none {d : D} (h : (d.isNon || fracB d) = false) : deOb d = none := by
  rw [Bool.or_eq_false_iff, fracB_eq] at h
  have h2 : deFr d = none := Option.isNone_iff_eq_none.mp (by cases hh : deFr d <;> simp [hh] at h ⊢)
  unfold deOb
  split
  · cases h.1
  · rw [h2]; rfl
theorem deTie_none {a b c l g : D} (h : nameD a = false ∨ nameD b = false ∨ nameD c = false ∨ (∃ x, b = .str x ∧ c = .str x) ∨ deOb l = none ∨ deOb g = none) : deTie (.tup [a, b, c, l, g]) = none := by
  cases a with
  | str x => cases b with
    | str y => cases c with
      | str z =>
        cases hl : deOb l with
        | none => simp only [deTie, hl]
        | some lo => cases hg : deOb g with
          | none => simp only [deTie, hl, hg]
          | some hi =>
            simp only [deTie, hl, hg]
            rw [if_neg]
            intro e
            have o := (TieV.okB_iff _).mp e
            rcases h with h | h | h | ⟨w, h1, h2⟩ | h | h
            · have := o.n1; simp only at this; simp [nameD, this] at h
            · have := o.n2; simp only at this; simp [nameD, this] at h
            · have := o.n3; simp only at this; simp [nameD, this] at h
            · cases h1; cases h2; exact o.ne rfl
            · rw [h] at hl; cases hl
            · rw [h] at hg; cases hg
      | _ => rfl
    | _ => rfl
  | _ => rfl
theorem rd_check_tie {ds A Q E} (h : sp_check_tie ds A Q E) : t_check_tie (fun c fs _ A => E c fs A) { nx := fun _ A => Q .non A, rt := Q } (startD 2 ds) A := by
  unfold sp_check_tie at h
  split at h
  case h_2 => exact h.elim
  rename_i d
  obtain ⟨⟨h1, h2⟩, k⟩ := h
  unfold t_check_tie
  by_cases ht : ∃ l, d = .tup l
  · obtain ⟨l, rfl⟩ := ht
    by_cases hl : l.length = 5
    · obtain ⟨a, b, c, lo, hi, rfl⟩ : ∃ a b c lo hi, l = [a, b, c, lo, hi] := by
        match l, hl with
        | [a, b, c, lo, hi], _ => exact ⟨a, b, c, lo, hi, rfl⟩
      have g := h2 _ rfl rfl
      simp only [List.mem_cons, List.not_mem_nil, or_false, forall_eq_or_imp, forall_eq] at g
      obtain ⟨⟨a1, a2, a3⟩, ⟨b1, b2, b3⟩, ⟨c1, c2, c3⟩, ⟨l1, l2, l3⟩, ⟨g1, g2, g3⟩⟩ := g
      have na := fun (Q : DK) (E : DX) => is_name_any (Q := Q) (E := E) (tyOk_ty a1) fun z e => (a2 z e).1
      have nb := fun (Q : DK) (E : DX) => is_name_any (Q := Q) (E := E) (tyOk_ty b1) fun z e => (b2 z e).1
      have nc := fun (Q : DK) (E : DX) => is_name_any (Q := Q) (E := E) (tyOk_ty c1) fun z e => (c2 z e).1
      have e1 : DL.cutD [a, b, c, lo, hi] none (some 3) = [a, b, c] := rfl
      have e2 : DL.cutD [a, b, c, lo, hi] (some 3) none = [lo, hi] := rfl
      simp [sIf_eq, bOr_eq, bAnd_eq, instB, sFor_eq, e1, e2, forD, na, nb, nc, l1, g1]
      cases ha : nameD a with
      | false => simp; rw [deTie_none (.inl ha)] at k; exact k
      | true => cases hb : nameD b with
        | false => simp; rw [deTie_none (.inr (.inl hb))] at k; exact k
        | true => cases hc : nameD c with
          | false => simp; rw [deTie_none (.inr (.inr (.inl hc)))] at k; exact k
          | true =>
            obtain ⟨x, rfl, hx⟩ := nameD_ok ha
            obtain ⟨y, rfl, hy⟩ := nameD_ok hb
            obtain ⟨z, rfl, hz⟩ := nameD_ok hc
            simp [(b2 y rfl).2, (c2 z rfl).2]
            refine ⟨fun e => ?_, fun e => ?_⟩
            · rw [deTie_none (.inr (.inr (.inr (.inl ⟨y, rfl, by rw [e]⟩))))] at k; exact k
            · cases hlo : (lo.isNon || fracB lo) with
              | false =>
                rw [deTie_none (.inr (.inr (.inr (.inr (.inl (deOb_none hlo))))))] at k
                rw [Bool.or_eq_false_iff] at hlo
                simp [hlo.1, hlo.2]
                exact k
              | true => cases hhi : (hi.isNon || fracB hi) with
                | false =>
                  rw [deTie_none (.inr (.inr (.inr (.inr (.inr (deOb_none hhi))))))] at k
                  rw [Bool.or_eq_false_iff] at hhi
                  obtain ⟨o, rfl⟩ := boundD_ok hlo
                  cases o <;> simp [hhi.1, hhi.2] <;> exact k
                | true =>
                  obtain ⟨o, rfl⟩ := boundD_ok hlo
                  obtain ⟨p, rfl⟩ := boundD_ok hhi
                  have kd : deTie (.tup [.str x, .str y, .str z, obD o, obD p]) = if leOb o p = true then some ⟨x, y, z, o, p⟩ else none := by
                    unfold deTie
                    simp only [deOb_obD]
                    by_cases hle : leOb o p = true
                    · rw [if_pos hle, if_pos ((TieV.okB_iff _).mpr ⟨hx, hy, hz, e, hle⟩)]
                    · rw [if_neg hle, if_neg (fun q => hle ((TieV.okB_iff _).mp q).le)]
                  rw [kd] at k
                  cases o with
                  | none => cases p with
                    | none => simp; simpa [leOb] using k
                    | some p => simp; simpa [leOb] using k
                  | some o => cases p with
                    | none => simp; simpa [leOb] using k
                    | some p =>
                      have so := l3 o rfl
                      have sp := g3 p rfl
                      simp [so, sp]
                      by_cases hlt : p < o
                      · have hn : ¬ o ≤ p := Rat.not_le.mpr hlt
                        simp [leOb, hn] at k
                        simp [hlt]; exact k
                      · have hn : o ≤ p := Rat.not_lt.mp hlt
                        simp [leOb, hn] at k
                        simp [hlt]; exact k
    · have e : deTie (.tup l) = none := by
        unfold deTie
        split
        · rename_i heq
          cases heq
          exact absurd rfl hl
        · rfl
      rw [e] at k
      simp [sIf_eq, bOr_eq, instB]
      exact ⟨fun _ => k, fun q => absurd (by omega) hl⟩
  · obtain ⟨s, hs⟩ := Option.isSome_iff_exists.mp h1
    have hi := ty_tup_iff hs fun l e => ht ⟨l, e⟩
    have e : deTie d = none := by
      unfold deTie
      split
      · exact absurd ⟨_, rfl⟩ ht
      · rfl
    rw [e] at k
    simp [sIf_eq, bOr_eq, hs, hi]
    exact k
theorem len_tie_of {ds A Q E} (h : sp_tie_of ds A Q E) : ds.length = 1 := by first | (unfold sp_tie_of at h; split at h <;> first | rfl | exact h.elim) | (obtain ⟨_, rfl, _⟩ := h; rfl) | (obtain ⟨_, _, rfl, _⟩ := h; rfl)
theorem deTie_inv {d : D} {t : TieV} (h : deTie d = some t) : d = tieD t ∧ t.Ok := by
  unfold deTie at h
  split at h
  · split at h
    · rename_i lo hi hlo hhi
      split at h
      · rename_i hk
        cases h
        exact ⟨by rw [deOb_ok hlo, deOb_ok hhi]; rfl, (TieV.okB_iff _).mp hk⟩
      · cases h
    · cases h
  · cases h
theorem rd_tie_of {ds A Q E} (h : sp_tie_of ds A Q E) : t_tie_of (fun c fs _ A => E c fs A) { nx := fun _ A => Q .non A, rt := Q } (startD 6 ds) A := by
  unfold sp_tie_of at h
  split at h
  case h_2 => exact h.elim
  rename_i d
  obtain ⟨h1, k⟩ := h
  unfold t_tie_of
  cases hd : deTie d with
  | none => rw [hd] at k; simp [h1, hd]; exact k
  | some t =>
    rw [hd] at k
    obtain ⟨rfl, ok⟩ := deTie_inv hd
    obtain ⟨n, s, f, l, g⟩ := t
    simp [h1, hd]
    unfold tieD
    have hl : (l = none ∧ g = none) ∨ (∃ x, l = some x ∧ g = none) ∨ (∃ x, l = none ∧ g = some x) ∨ ∃ x y, l = some x ∧ g = some y := by
      cases l <;> cases g <;> simp
    rcases hl with ⟨rfl, rfl⟩ | ⟨x, rfl, rfl⟩ | ⟨x, rfl, rfl⟩ | ⟨x, y, rfl, rfl⟩
    · simp [sIf_eq, bAnd_eq]
      intro p hp
      simp [hp]
      unfold tieO TieV.cls TieV.flds at k
      exact k
    · simp [sIf_eq, bAnd_eq]
      intro p hp
      simp [hp]
      unfold tieO TieV.cls TieV.flds at k
      exact k
    · simp [sIf_eq, bAnd_eq]
      intro p hp
      simp [hp]
      unfold tieO TieV.cls TieV.flds at k
      exact k
    · simp [sIf_eq, bAnd_eq]
      unfold tieO TieV.cls TieV.flds at k
      by_cases e : x = y
      · simp [e] at k ⊢
        intro p hp
        simp [hp]
        exact k
      · simp [e] at k ⊢
        intro p hp
        simp [hp]
        exact k
theorem len_all_steps {ds A Q E} (h : sp_all_steps ds A Q E) : ds.length = 1 := by obtain ⟨_, _, e, _⟩ := h; rw [e]; rfl
theorem rd_all_steps {ds A Q E} (h : sp_all_steps ds A Q E) : t_all_steps (fun c fs _ A => dropE E c fs A) { nx := fun _ A => dropQ Q .non A, rt := dropQ Q } (startD 7 ds) A := by
  obtain ⟨d0, v_ties, rfl, h0, h⟩ := h
  have hw : WX A (fun c fs _ A' => dropE E c fs A') (fun c fs => E c fs A) := fun c fs δ A' s h => ⟨A, s, h⟩
  have hrt : ∀ (a : (List (T4 Str Str Rat (Str × Bool)))) A', Sub A A' → Q (enc a) A → dropQ Q (enc a) A' := fun a A' s h => ⟨A, s, h⟩
  have key : SS A (fun c fs => E c fs A) { nx := fun _ A => dropQ Q .non A, rt := dropQ Q } (fun (r : (List (T4 Str Str Rat (Str × Bool)))) => Q (enc r) A) [.val d0, .emp, .emp, .emp, .emp, .emp, .emp] (t_all_steps (fun c fs _ A => dropE E c fs A)) (F_all_steps v_ties) := 
  (ss_asgO (we hw) (so_lst ses_nil) fun steps_1 =>
  (ss_for (we hw) (fun (st_3 : (List (T4 Str Str Rat (Str × Bool)))) => [.val d0, .own (oL st_3), .emp, .emp, .emp, .emp, .emp]) _ [true, true, false, false, false, false, false] rfl (sif_var (i := 0) rfl h0) (fun x_2 st_3 => (sg_name (i := 2))) (fun V' N B hN_28 x_2 st_3 =>
  (ss_one (ss_for (we hw) (fun (st_34 : (List (T4 Str Str Rat (Str × Bool)))) => [.val d0, .own (oL st_34), .val (enc x_2), .emp, .emp, .emp, .emp]) _ [true, true, true, false, false, false, false] rfl (sif_seq (se_fzO (so_meth0 hm_Tie_steps ((se_call1 hs_tie_of ((se_dyn (se_var (i := 2) rfl))).v)).v))) (fun x_33 st_34 => (sg_tup4 rfl)) (fun V' N B hN_43 x_33 st_34 =>
  (ss_norm (J := [.val d0, .own (oL st_34), .val (enc x_2), .val (enc x_33.a), .val (enc x_33.b), .val (enc x_33.c), .val (enc x_33.d)]) rfl
  (ss_one (ss_app (we hw) rfl (se_tup4 (se_var (i := 3) rfl) (se_var (i := 4) rfl) (se_var (i := 5) rfl) (se_tup2 (se_proj (fun t : TieV => t.name) 0 (fun _ => ⟨_, rfl, rfl⟩) (se_var (i := 2) rfl)) (se_var (i := 6) rfl))) fun steps_46 =>
  (ss_next [true, true, true, false, false, false, false] rfl fun δ A v e => hN_43 _ δ A v e))))) fun st_34 =>
  (ss_next [true, true, false, false, false, false, false] rfl fun δ A v e => hN_28 _ δ A v e)))) fun st_3 =>
  (ss_fz (i := 1) rfl
  (ss_one (ss_ret1 (we hw) (se_var (i := 1) rfl) (fun a A' s h => hrt a A' s h))))))
  exact key _ _ ⟨Sub.refl A, [], (.val (.emp (.emp (.emp (.emp (.emp (.emp .nil)))))))⟩ h
theorem len_one_round {ds A Q E} (h : sp_one_round ds A Q E) : ds.length = 3 := by obtain ⟨_, _, _, _, _, _, _, e, _⟩ := h; rw [e]; rfl
theorem rd_one_round {ds A Q E} (h : sp_one_round ds A Q E) : t_one_round (fun c fs _ A => dropE E c fs A) { nx := fun _ A => dropQ Q .non A, rt := dropQ Q } (startD 9 ds) A := by
  obtain ⟨A0, d0, p1, p2, v_steps, v_sums, v_ways, rfl, hn, h0, h⟩ := h
  have hw : WX A0 (fun c fs _ A' => dropE E c fs A') (fun _ _ => False) := fun _ _ _ _ _ h => h.elim
  have key : SS A0 (fun _ _ => False) { nx := fun _ A => dropQ Q .non A, rt := dropQ Q } (fun r => ∀ A', NewL A0 [(p1, .dic (encKV r.2.1.l)), (p2, .dic (encKV r.2.2.l))] A' → Q (enc r.1) A') [.val d0, .own (oP p1 v_sums), .own (oP p2 v_ways), .emp, .emp, .emp, .emp, .emp, .emp] (t_one_round (fun c fs _ A => dropE E c fs A)) (F_one_round v_steps v_sums v_ways) :=
  (ss_asg (we hw) se_unit fun last_1 =>
  (ss_for (we hw) (fun (st_3 : (Dic Str Rat) × (Dic Str (Str × (Str × Bool))) × (Option Str)) => [.val d0, .own (oP p1 st_3.1), .own (oP p2 st_3.2.1), .val (enc st_3.2.2), .emp, .emp, .emp, .emp, .emp]) _ [true, true, true, true, false, false, false, false, false] rfl (sif_var (i := 0) rfl h0) (fun x_2 st_3 => (sg_tup4 rfl)) (fun V' N B hN_96 x_2 st_3 =>
  (ss_norm (J := [.val d0, .own (oP p1 st_3.1), .own (oP p2 st_3.2.1), .val (enc st_3.2.2), .val (enc x_2.a), .val (enc x_2.b), .val (enc x_2.c), .val (enc x_2.d), .emp]) rfl
  (ss_one (ss_ifs (we hw) (st_of (se_inD0 (se_var (i := 4) rfl) (sv_ownDP (i := 1) rfl)))
  (ss_asg (we hw) (se_call2 hs_plus ((se_get (sv_ownDP (i := 1) rfl) (se_var (i := 4) rfl))).v ((se_var (i := 6) rfl)).v) fun total_124 =>
  (ss_one (ss_ifs (we hw) (st_or (st_of (se_inD1 (se_var (i := 5) rfl) (sv_ownDP (i := 1) rfl))) (st_of (se_call2 hs_under ((se_var (i := 8) rfl)).v ((se_get (sv_ownDP (i := 1) rfl) (se_var (i := 5) rfl))).v)))
  (ss_setDP (we hw) rfl (se_var (i := 8) rfl) (se_var (i := 5) rfl) fun sums_136 =>
  (ss_norm (J := [.val d0, .own (oP p1 sums_136), .own (oP p2 st_3.2.1), .val (enc st_3.2.2), .val (enc x_2.a), .val (enc x_2.b), .val (enc x_2.c), .val (enc x_2.d), .val (enc total_124)]) rfl
  (ss_setDP (we hw) rfl (se_tup2 (se_var (i := 4) rfl) (se_var (i := 7) rfl)) (se_var (i := 5) rfl) fun ways_139 =>
  (ss_one (ss_asg (we hw) (se_var (i := 5) rfl) fun last_144 =>
  (ss_next [true, true, true, true, false, false, false, false, false] rfl fun δ A v e => hN_96 _ δ A v e))))))
  (ss_next [true, true, true, true, false, false, false, false, false] rfl fun δ A v e => hN_96 _ δ A v e))))
  (ss_next [true, true, true, true, false, false, false, false, false] rfl fun δ A v e => hN_96 _ δ A v e))))) fun st_3 =>
  (ss_one (pn_ret (f := fun (s' : (Dic Str Rat) × (Dic Str (Str × (Str × Bool)))) => [(p1, AO.dic (encKV s'.1.l)), (p2, AO.dic (encKV s'.2.l))]) (we hw) (se_var (i := 3) rfl) hn.nd rfl (by intro x hx; simp only [List.mem_cons, List.not_mem_nil, or_false] at hx; rcases hx with rfl | rfl; exact ⟨1, rfl⟩; exact ⟨2, rfl⟩)))))
  exact key _ _ ⟨hn.sub, _, (.val (.own (.own (.emp (.emp (.emp (.emp (.emp (.emp .nil)))))) hn.own2.1.2 (fun _ _ h => nomatch h) hn.own2.2.2.1) hn.own2.1.1 (fun a ha => by simpa using hn.own2.2.2.2 a ha) hn.own2.2.1))⟩ h
theorem len_way_back {ds A Q E} (h : sp_way_back ds A Q E) : ds.length = 3 := by obtain ⟨_, _, _, _, _, _, e, _⟩ := h; rw [e]; rfl
theorem rd_way_back {ds A Q E} (h : sp_way_back ds A Q E) : t_way_back (fun c fs _ A => dropE E c fs A) { nx := fun _ A => dropQ Q .non A, rt := dropQ Q } (startD 5 ds) A := by
  obtain ⟨d0, d1, d2, v_ways, v_face, v_stop, rfl, h0, h1, h2, h⟩ := h
  have e1 : d1 = enc v_face := h1
  subst e1
  have e2 : d2 = enc v_stop := h2
  subst e2
  have hw : WX A (fun c fs _ A' => dropE E c fs A') (fun c fs => E c fs A) := fun c fs δ A' s h => ⟨A, s, h⟩
  have hrtO : ∀ (a : (List (Str × Bool))) A1 A' p, Sub A A1 → New A1 (oL a) p A' → (∀ p A', New A (oL a) p A' → Q (.ref p) A') → dropQ Q (.ref p) A' := fun a A1 A' p s hn h => rtO s hn h
  have hrtW : ∀ (a : (List (Str × Bool))) A' p, Sub A A' → A' p = some (.lst (a.map enc)) → A p = none → (∀ p A', New A (oL a) p A' → Q (.ref p) A') → dropQ Q (.ref p) A' := fun a A' p s h1 h2 h => rtW s h1 h2 h
  have key : SS A (fun c fs => E c fs A) { nx := fun _ A => dropQ Q .non A, rt := dropQ Q } (fun r => ∀ p A', New A (oL r) p A' → Q (.ref p) A') [.val d0, .val (enc v_face), .val (enc v_stop), .emp, .emp] (t_way_back (fun c fs _ A => dropE E c fs A)) (F_way_back v_ways v_face v_stop) := 
  (ss_asgO (we hw) (so_lst ses_nil) fun chain_1 =>
  (ss_while hw (fun (st_2 : Str × (List (Str × Bool))) => [.val d0, .val (enc st_2.1), .val (enc v_stop), .own (oL st_2.2), .emp]) [true, true, true, true, false] rfl (fun _ _ _ h => h.elim) (fun st_2 => (st_of (sv_bin (op_eqV true (by decide)) ((se_var (i := 1) rfl)).v ((se_var (i := 2) rfl)).v))) (fun V' N B hN_6 hB_7 hR_8 st_2 =>
  (ss_asgT (we hw) (se_get (sv_var (i := 0) rfl h0) (se_var (i := 1) rfl)) (fun p_9 => sg_tup2 rfl) fun p_9 =>
  (ss_norm (J := [.val d0, .val (enc p_9.1), .val (enc v_stop), .own (oL st_2.2), .val (enc p_9.2)]) rfl
  (ss_one (ss_app (we hw) rfl (se_var (i := 4) rfl) fun chain_10 =>
  (ss_next [true, true, true, true, false] rfl fun δ A v e => hN_6 _ δ A v e)))))) fun st_2 =>
  (ss_rev rfl (ss_one (ss_retOwn (i := 3) rfl (fun A' p s hA hp h => hrtW _ A' p s hA hp h))))))
  exact key _ _ ⟨Sub.refl A, [], (.val (.val (.val (.emp (.emp .nil)))))⟩ h
theorem len_reached {ds A Q E} (h : sp_reached ds A Q E) : ds.length = 2 := by obtain ⟨_, _, _, _, e, _⟩ := h; rw [e]; rfl
theorem rd_reached {ds A Q E} (h : sp_reached ds A Q E) : t_reached (fun c fs _ A => dropE E c fs A) { nx := fun _ A => dropQ Q .non A, rt := dropQ Q } (startD 7 ds) A := by
  obtain ⟨d0, d1, v_ties, v_face, rfl, h0, h1, h⟩ := h
  have e1 : d1 = enc v_face := h1
  subst e1
  have hw : WX A (fun c fs _ A' => dropE E c fs A') (fun c fs => E c fs A) := fun c fs δ A' s h => ⟨A, s, h⟩
  have hrt : ∀ (a : (List (T3 Str Rat (List (Str × Bool))))) A', Sub A A' → Q (enc a) A → dropQ Q (enc a) A' := fun a A' s h => ⟨A, s, h⟩
  have key : SS A (fun c fs => E c fs A) { nx := fun _ A => dropQ Q .non A, rt := dropQ Q } (fun (r : (List (T3 Str Rat (List (Str × Bool))))) => Q (enc r) A) [.val d0, .val (enc v_face), .emp, .emp, .emp, .emp, .emp] (t_reached (fun c fs _ A => dropE E c fs A)) (F_reached v_ties v_face) := 
  (ss_asg (we hw) (se_call1 hs_all_steps (sv_var (i := 0) rfl h0)) fun steps_2 =>
  (ss_asgO (we hw) (so_dic1 (se_var (i := 1) rfl) (se_toRat (se_tup2 (se_int 0) (se_int 1))) (by intros; simp) (by intros; simp)) fun sums_5 =>
  (ss_norm (J := [.val d0, .val (enc v_face), .val (enc steps_2), .own (oD sums_5), .emp, .emp, .emp]) rfl
  (ss_asgO (we hw) so_dic0 fun ways_6 =>
  (ss_asg (we hw) (se_var (i := 1) rfl) fun last_7 =>
  (ss_norm (J := [.val d0, .val (enc v_face), .val (enc steps_2), .own (oD sums_5), .own (oD ways_6), .val (enc last_7), .emp]) rfl
  (ss_while hw (fun (st_8 : (Dic Str Rat) × (Dic Str (Str × (Str × Bool))) × (Option Str)) => [.val d0, .val (enc v_face), .val (enc steps_2), .own (oD st_8.1), .own (oD st_8.2.1), .val (enc st_8.2.2), .emp]) [true, true, true, true, true, true, false] rfl hrt (fun st_8 => (st_of (se_isN1 (se_var (i := 5) rfl)))) (fun V' N B hN_19 hB_20 hR_21 st_8 =>
  (ss_one (ss_io23of3 (we hw) rfl rfl hs_one_round (se_var (i := 2) rfl) fun pr_26 =>
  (ss_next [true, true, true, true, true, true, false] rfl fun δ A v e => hN_19 _ δ A v e)))) fun st_8 =>
  (ss_fzD (i := 3) rfl
  (ss_fzD (i := 4) rfl
  (ss_norm (J := [.val d0, .val (enc v_face), .val (enc steps_2), .val (enc st_8.1), .val (enc st_8.2.1), .val (enc st_8.2.2), .emp]) rfl
  (ss_one (ss_ret1 (we hw) (se_lc _ (sic_v ((sv_cb cb_sortedD ((se_var (i := 3) rfl)).v)).v) (fun x_27 => (sg_name (i := 6))) (fun x_27 => st_yes) (fun x_27 => (se_tup3 (se_var (i := 6) rfl) (se_get ((se_var (i := 3) rfl)).v (se_var (i := 6) rfl)) (se_fzO (so_call3 hs_way_back ((se_var (i := 4) rfl)).v ((se_var (i := 6) rfl)).v ((se_var (i := 1) rfl)).v))))) (fun a A' s h => hrt a A' s h)))))))))))))
  exact key _ _ ⟨Sub.refl A, [], (.val (.val (.emp (.emp (.emp (.emp (.emp .nil)))))))⟩ h
theorem len__law_cell_at {ds A Q E} (h : sp__law_cell_at ds A Q E) : ds.length = 2 := by obtain ⟨_, _, _, _, e, _⟩ := h; rw [e]; rfl
theorem rd__law_cell_at {ds A Q E} (h : sp__law_cell_at ds A Q E) : t__law_cell_at (fun c fs _ A => dropE E c fs A) { nx := fun _ A => dropQ Q .non A, rt := dropQ Q } (startD 2 ds) A := by
  obtain ⟨d0, d1, v_script, v_k, rfl, h0, h1, h⟩ := h
  have e1 : d1 = enc v_k := h1
  subst e1
  have hw : WX A (fun c fs _ A' => dropE E c fs A') (fun c fs => E c fs A) := fun c fs δ A' s h => ⟨A, s, h⟩
  have hrt : ∀ (a : Int) A', Sub A A' → Q (enc a) A → dropQ Q (enc a) A' := fun a A' s h => ⟨A, s, h⟩
  have key : SS A (fun c fs => E c fs A) { nx := fun _ A => dropQ Q .non A, rt := dropQ Q } (fun (r : Int) => Q (enc r) A) [.val d0, .val (enc v_k)] (t__law_cell_at (fun c fs _ A => dropE E c fs A)) (F__law_cell_at v_script v_k) := by unfold F__law_cell_at; exact
  (ss_ifs (we hw) (st_of (se_bin op_cmpI (se_var (i := 1) rfl) (sv_cb cb_len (sv_var (i := 0) rfl h0))))
  (ss_one (ss_ret1 (we hw) (se_ix (sv_var (i := 0) rfl h0) (se_var (i := 1) rfl)) (fun a A' s h => hrt a A' s h)))
  (ss_into (ss_one (ss_ret1 (we hw) (se_int 0) (fun a A' s h => hrt a A' s h)))))
  exact key _ _ ⟨Sub.refl A, [], (.val (.val .nil))⟩ h
theorem len__law_divisor {ds A Q E} (h : sp__law_divisor ds A Q E) : ds.length = 2 := by obtain ⟨_, _, _, _, e, _⟩ := h; rw [e]; rfl
theorem rd__law_divisor {ds A Q E} (h : sp__law_divisor ds A Q E) : t__law_divisor (fun c fs _ A => dropE E c fs A) { nx := fun _ A => dropQ Q .non A, rt := dropQ Q } (startD 2 ds) A := by
  obtain ⟨d0, d1, v_one, v_other, rfl, h0, h1, h⟩ := h
  have e0 : d0 = enc v_one := h0
  subst e0
  have e1 : d1 = enc v_other := h1
  subst e1
  have hw : WX A (fun c fs _ A' => dropE E c fs A') (fun c fs => E c fs A) := fun c fs δ A' s h => ⟨A, s, h⟩
  have hrt : ∀ (a : Int) A', Sub A A' → Q (enc a) A → dropQ Q (enc a) A' := fun a A' s h => ⟨A, s, h⟩
  have key : SS A (fun c fs => E c fs A) { nx := fun _ A => dropQ Q .non A, rt := dropQ Q } (fun (r : Int) => Q (enc r) A) [.val (enc v_one), .val (enc v_other)] (t__law_divisor (fun c fs _ A => dropE E c fs A)) (F__law_divisor v_one v_other) := 
  (ss_asg (we hw) (se_cb cb_abs (se_var (i := 0) rfl)) fun one_1 =>
  (ss_asg (we hw) (se_cb cb_abs (se_var (i := 1) rfl)) fun other_2 =>
  (ss_norm (J := [.val (enc one_1), .val (enc other_2)]) rfl
  (ss_while hw (fun (st_3 : Int × Int) => [.val (enc st_3.1), .val (enc st_3.2)]) [true, true] rfl hrt (fun st_3 => (st_of (se_bin op_cmpI (se_var (i := 1) rfl) (se_int 0)))) (fun V' N B hN_8 hB_9 hR_10 st_3 =>
  (ss_one (ss_par (we hw) (se_var (i := 1) rfl) (se_bin op_modI (se_var (i := 0) rfl) (se_var (i := 1) rfl)) fun one_13 other_14 =>
  (ss_next [true, true] rfl fun δ A v e => hN_8 _ δ A v e)))) fun st_3 =>
  (ss_one (ss_ret1 (we hw) (se_var (i := 0) rfl) (fun a A' s h => hrt a A' s h)))))))
  exact key _ _ ⟨Sub.refl A, [], (.val (.val .nil))⟩ h
theorem len__law_lowest {ds A Q E} (h : sp__law_lowest ds A Q E) : ds.length = 2 := by obtain ⟨_, _, _, _, e, _⟩ := h; rw [e]; rfl
theorem rd__law_lowest {ds A Q E} (h : sp__law_lowest ds A Q E) : t__law_lowest (fun c fs _ A => dropE E c fs A) { nx := fun _ A => dropQ Q .non A, rt := dropQ Q } (startD 3 ds) A := by
  obtain ⟨d0, d1, v_top, v_bottom, rfl, h0, h1, h⟩ := h
  have e0 : d0 = enc v_top := h0
  subst e0
  have e1 : d1 = enc v_bottom := h1
  subst e1
  have hw : WX A (fun c fs _ A' => dropE E c fs A') (fun c fs => E c fs A) := fun c fs δ A' s h => ⟨A, s, h⟩
  have hrt : ∀ (a : Rat) A', Sub A A' → Q (enc a) A → dropQ Q (enc a) A' := fun a A' s h => ⟨A, s, h⟩
  have key : SS A (fun c fs => E c fs A) { nx := fun _ A => dropQ Q .non A, rt := dropQ Q } (fun (r : Rat) => Q (enc r) A) [.val (enc v_top), .val (enc v_bottom), .emp] (t__law_lowest (fun c fs _ A => dropE E c fs A)) (F__law_lowest v_top v_bottom) := 
  (ss_asg (we hw) (se_call2 hs__law_divisor ((se_var (i := 0) rfl)).v ((se_var (i := 1) rfl)).v) fun by_3 =>
  (ss_one (ss_ret1 (we hw) (se_toRat (se_tup2 (se_bin op_divI (se_var (i := 0) rfl) (se_var (i := 2) rfl)) (se_bin op_divI (se_var (i := 1) rfl) (se_var (i := 2) rfl)))) (fun a A' s h => hrt a A' s h))))
  exact key _ _ ⟨Sub.refl A, [], (.val (.val (.emp .nil)))⟩ h
theorem len__law_plus {ds A Q E} (h : sp__law_plus ds A Q E) : ds.length = 2 := by obtain ⟨_, _, _, _, e, _⟩ := h; rw [e]; rfl
theorem rd__law_plus {ds A Q E} (h : sp__law_plus ds A Q E) : t__law_plus (fun c fs _ A => dropE E c fs A) { nx := fun _ A => dropQ Q .non A, rt := dropQ Q } (startD 2 ds) A := by
  obtain ⟨d0, d1, v_one, v_other, rfl, h0, h1, h⟩ := h
  have e0 : d0 = enc v_one := h0
  subst e0
  have e1 : d1 = enc v_other := h1
  subst e1
  have hw : WX A (fun c fs _ A' => dropE E c fs A') (fun c fs => E c fs A) := fun c fs δ A' s h => ⟨A, s, h⟩
  have hrt : ∀ (a : Rat) A', Sub A A' → Q (enc a) A → dropQ Q (enc a) A' := fun a A' s h => ⟨A, s, h⟩
  have key : SS A (fun c fs => E c fs A) { nx := fun _ A => dropQ Q .non A, rt := dropQ Q } (fun (r : Rat) => Q (enc r) A) [.val (enc v_one), .val (enc v_other)] (t__law_plus (fun c fs _ A => dropE E c fs A)) (F__law_plus v_one v_other) := 
  (ss_one (ss_ret1 (we hw) (se_call2 hs__law_lowest ((se_bin op_addI (se_bin op_mulI (se_proj (fun t : (Int × Int) => t.1) 0 (fun _ => ⟨_, rfl, rfl⟩) (se_var (i := 0) rfl)) (se_proj (fun t : (Int × Int) => t.2) 1 (fun _ => ⟨_, rfl, rfl⟩) (se_var (i := 1) rfl))) (se_bin op_mulI (se_proj (fun t : (Int × Int) => t.1) 0 (fun _ => ⟨_, rfl, rfl⟩) (se_var (i := 1) rfl)) (se_proj (fun t : (Int × Int) => t.2) 1 (fun _ => ⟨_, rfl, rfl⟩) (se_var (i := 0) rfl))))).v ((se_bin op_mulI (se_proj (fun t : (Int × Int) => t.2) 1 (fun _ => ⟨_, rfl, rfl⟩) (se_var (i := 0) rfl)) (se_proj (fun t : (Int × Int) => t.2) 1 (fun _ => ⟨_, rfl, rfl⟩) (se_var (i := 1) rfl)))).v) (fun a A' s h => hrt a A' s h)))
  exact key _ _ ⟨Sub.refl A, [], (.val (.val .nil))⟩ h
theorem len__law_less {ds A Q E} (h : sp__law_less ds A Q E) : ds.length = 2 := by obtain ⟨_, _, _, _, e, _⟩ := h; rw [e]; rfl
theorem rd__law_less {ds A Q E} (h : sp__law_less ds A Q E) : t__law_less (fun c fs _ A => dropE E c fs A) { nx := fun _ A => dropQ Q .non A, rt := dropQ Q } (startD 2 ds) A := by
  obtain ⟨d0, d1, v_one, v_other, rfl, h0, h1, h⟩ := h
  have e0 : d0 = enc v_one := h0
  subst e0
  have e1 : d1 = enc v_other := h1
  subst e1
  have hw : WX A (fun c fs _ A' => dropE E c fs A') (fun c fs => E c fs A) := fun c fs δ A' s h => ⟨A, s, h⟩
  have hrt : ∀ (a : Bool) A', Sub A A' → Q (enc a) A → dropQ Q (enc a) A' := fun a A' s h => ⟨A, s, h⟩
  have key : SS A (fun c fs => E c fs A) { nx := fun _ A => dropQ Q .non A, rt := dropQ Q } (fun (r : Bool) => Q (enc r) A) [.val (enc v_one), .val (enc v_other)] (t__law_less (fun c fs _ A => dropE E c fs A)) (F__law_less v_one v_other) := 
  (ss_one (ss_ret1 (we hw) (se_bin op_cmpI (se_bin op_mulI (se_proj (fun q : Rat => q.num) 0 ix_num (se_var (i := 0) rfl)) (se_proj (fun q : Rat => (q.den : Int)) 1 ix_den (se_var (i := 1) rfl))) (se_bin op_mulI (se_proj (fun q : Rat => q.num) 0 ix_num (se_var (i := 1) rfl)) (se_proj (fun q : Rat => (q.den : Int)) 1 ix_den (se_var (i := 0) rfl)))) (fun a A' s h => hrt a A' s h)))
  exact key _ _ ⟨Sub.refl A, [], (.val (.val .nil))⟩ h
theorem len__law_places {ds A Q E} (h : sp__law_places ds A Q E) : ds.length = 2 := by obtain ⟨_, _, _, _, e, _⟩ := h; rw [e]; rfl
theorem rd__law_places {ds A Q E} (h : sp__law_places ds A Q E) : t__law_places (fun c fs _ A => dropE E c fs A) { nx := fun _ A => dropQ Q .non A, rt := dropQ Q } (startD 7 ds) A := by
  obtain ⟨d0, d1, v_script, v_faces, rfl, h0, h1, h⟩ := h
  have e1 : d1 = enc v_faces := h1
  subst e1
  have hw : WX A (fun c fs _ A' => dropE E c fs A') (fun c fs => E c fs A) := fun c fs δ A' s h => ⟨A, s, h⟩
  have hrt : ∀ (a : (List Rat)) A', Sub A A' → Q (enc a) A → dropQ Q (enc a) A' := fun a A' s h => ⟨A, s, h⟩
  have key : SS A (fun c fs => E c fs A) { nx := fun _ A => dropQ Q .non A, rt := dropQ Q } (fun (r : (List Rat)) => Q (enc r) A) [.val d0, .val (enc v_faces), .emp, .emp, .emp, .emp, .emp] (t__law_places (fun c fs _ A => dropE E c fs A)) (F__law_places v_script v_faces) := 
  (ss_asgO (we hw) (so_lst ses_nil) fun places_here_1 =>
  (ss_for (we hw) (fun (st_3 : (List Rat)) => [.val d0, .val (enc v_faces), .own (oL st_3), .emp, .emp, .emp, .emp]) _ [true, true, true, false, false, false, false] rfl (sif_rng1 (se_var (i := 1) rfl)) (fun x_2 st_3 => (sg_name (i := 3))) (fun V' N B hN_51 x_2 st_3 =>
  (ss_asg (we hw) (se_call2 hs__law_cell_at (sv_var (i := 0) rfl h0) ((se_bin op_addI (se_int 2) (se_var (i := 3) rfl))).v) fun cell_58 =>
  (ss_norm (J := [.val d0, .val (enc v_faces), .own (oL st_3), .val (enc x_2), .val (enc cell_58), .emp, .emp]) rfl
  (ss_asg (we hw) (se_divR 37 (by decide) (se_modR 2147483629 (by decide) (se_mulR 69621 (by decide) (se_var (i := 4) rfl)))) fun mixed_65 =>
  (ss_asg (we hw) (se_bin op_subI (se_modR 61 (by decide) (se_var (i := 5) rfl)) (se_int 30)) fun top_70 =>
  (ss_norm (J := [.val d0, .val (enc v_faces), .own (oL st_3), .val (enc x_2), .val (enc cell_58), .val (enc mixed_65), .val (enc top_70)]) rfl
  (ss_join (fun (st_82 : Int) => [.val d0, .val (enc v_faces), .own (oL st_3), .val (enc x_2), .val (enc cell_58), .val (enc mixed_65), .val (enc st_82)]) (fun V' N hN_83 => ss_if (we hw) (st_of (se_bin op_eqI (se_modR 4 (by decide) (se_divR 61 (by decide) (se_var (i := 5) rfl))) (se_int 1)))
  (ss_one (ss_asg (we hw) (se_bin op_subI (se_modE ((10 ^ 40) : Int) (by decide +kernel) (se_var (i := 4) rfl) (se_powN 10 40 40 rfl (by decide))) (se_mulL 5 (by decide) (se_powN 10 39 39 rfl (by decide)))) fun top_90 =>
  (ss_next [true, true, true, true, true, true, true] rfl fun δ A v e => hN_83 _ δ A v e)))
  (ss_next [true, true, true, true, true, true, true] rfl fun δ A v e => hN_83 _ δ A v e)) fun st_82 =>
  (ss_one (ss_app (we hw) rfl (se_call2 hs__law_lowest ((se_var (i := 6) rfl)).v ((se_bin op_addI (se_int 1) (se_modR 6 (by decide) (se_divR 244 (by decide) (se_var (i := 5) rfl))))).v) fun places_here_91 =>
  (ss_next [true, true, true, false, false, false, false] rfl fun δ A v e => hN_51 _ δ A v e)))))))))) fun st_3 =>
  (ss_fz (i := 2) rfl
  (ss_one (ss_ret1 (we hw) (se_var (i := 2) rfl) (fun a A' s h => hrt a A' s h))))))
  exact key _ _ ⟨Sub.refl A, [], (.val (.val (.emp (.emp (.emp (.emp (.emp .nil)))))))⟩ h
theorem len__law_face {ds A Q E} (h : sp__law_face ds A Q E) : ds.length = 1 := by obtain ⟨_, _, e, _⟩ := h; rw [e]; rfl
theorem rd__law_face {ds A Q E} (h : sp__law_face ds A Q E) : t__law_face (fun c fs _ A => dropE E c fs A) { nx := fun _ A => dropQ Q .non A, rt := dropQ Q } (startD 1 ds) A := by
  obtain ⟨d0, v_k, rfl, h0, h⟩ := h
  have e0 : d0 = enc v_k := h0
  subst e0
  have hw : WX A (fun c fs _ A' => dropE E c fs A') (fun c fs => E c fs A) := fun c fs δ A' s h => ⟨A, s, h⟩
  have hrt : ∀ (a : Str) A', Sub A A' → Q (enc a) A → dropQ Q (enc a) A' := fun a A' s h => ⟨A, s, h⟩
  have key : SS A (fun c fs => E c fs A) { nx := fun _ A => dropQ Q .non A, rt := dropQ Q } (fun (r : Str) => Q (enc r) A) [.val (enc v_k)] (t__law_face (fun c fs _ A => dropE E c fs A)) (F__law_face v_k) := 
  (ss_one (ss_ret1 (we hw) (se_ix ((se_lst (ses_cons (se_str "p") (ses_cons (se_str "pa") (ses_cons (se_str "pab") (ses_cons (se_str "qab") (ses_cons (se_str "qa") (ses_cons (se_str "apab") ses_nil)))))))).v (se_var (i := 0) rfl)) (fun a A' s h => hrt a A' s h)))
  exact key _ _ ⟨Sub.refl A, [], (.val .nil)⟩ h
theorem len__law_tie {ds A Q E} (h : sp__law_tie ds A Q E) : ds.length = 3 := by obtain ⟨_, _, _, _, _, _, e, _⟩ := h; rw [e]; rfl
theorem rd__law_tie {ds A Q E} (h : sp__law_tie ds A Q E) : t__law_tie (fun c fs _ A => dropE E c fs A) { nx := fun _ A => dropQ Q .non A, rt := dropQ Q } (startD 9 ds) A := by
  obtain ⟨d0, d1, d2, v_cell, v_k, v_places_here, rfl, h0, h1, h2, h⟩ := h
  have e0 : d0 = enc v_cell := h0
  subst e0
  have e1 : d1 = enc v_k := h1
  subst e1
  have hw : WX A (fun c fs _ A' => dropE E c fs A') (fun c fs => E c fs A) := fun c fs δ A' s h => ⟨A, s, h⟩
  have hrt : ∀ (a : TieV) A', Sub A A' → Q (enc a) A → dropQ Q (enc a) A' := fun a A' s h => ⟨A, s, h⟩
  have key : SS A (fun c fs => E c fs A) { nx := fun _ A => dropQ Q .non A, rt := dropQ Q } (fun (r : TieV) => Q (enc r) A) [.val (enc v_cell), .val (enc v_k), .val d2, .emp, .emp, .emp, .emp, .emp, .emp] (t__law_tie (fun c fs _ A => dropE E c fs A)) (F__law_tie v_cell v_k v_places_here) := 
  (ss_asg (we hw) (se_divR 37 (by decide) (se_modR 2147483647 (by decide) (se_mulR 48271 (by decide) (se_var (i := 0) rfl)))) fun mixed_7 =>
  (ss_asg (we hw) (se_bin op_modI (se_var (i := 3) rfl) (sv_cb cb_len (sv_var (i := 2) rfl h2))) fun start_10 =>
  (ss_norm (J := [.val (enc v_cell), .val (enc v_k), .val d2, .val (enc mixed_7), .val (enc start_10), .emp, .emp, .emp, .emp]) rfl
  (ss_asg (we hw) (se_bin op_modI (se_bin op_addI (se_bin op_addI (se_var (i := 4) rfl) (se_int 1)) (se_bin op_modI (se_divR 6 (by decide) (se_var (i := 3) rfl)) (se_bin op_subI (sv_cb cb_len (sv_var (i := 2) rfl h2)) (se_int 1)))) (sv_cb cb_len (sv_var (i := 2) rfl h2))) fun end_23 =>
  (ss_asg (we hw) (se_call2 hs__law_plus ((se_ofRat (se_ix (sv_var (i := 2) rfl h2) (se_var (i := 5) rfl)))).v ((se_tup2 (se_neg (se_proj (fun q : Rat => q.num) 0 ix_num (se_ix (sv_var (i := 2) rfl h2) (se_var (i := 4) rfl)))) (se_proj (fun q : Rat => (q.den : Int)) 1 ix_den (se_ix (sv_var (i := 2) rfl h2) (se_var (i := 4) rfl))))).v) fun apart_28 =>
  (ss_norm (J := [.val (enc v_cell), .val (enc v_k), .val d2, .val (enc mixed_7), .val (enc start_10), .val (enc end_23), .val (enc apart_28), .emp, .emp]) rfl
  (ss_asg (we hw) (se_some (se_call2 hs__law_plus ((se_ofRat (se_var (i := 6) rfl))).v ((se_tup2 (se_neg (se_modR 5 (by decide) (se_divR 36 (by decide) (se_var (i := 3) rfl)))) (se_bin op_addI (se_int 1) (se_modR 3 (by decide) (se_divR 180 (by decide) (se_var (i := 3) rfl)))))).v)) fun low_43 =>
  (ss_asg (we hw) (se_some (se_call2 hs__law_plus ((se_ofRat (se_var (i := 6) rfl))).v ((se_tup2 (se_modR 5 (by decide) (se_divR 540 (by decide) (se_var (i := 3) rfl))) (se_bin op_addI (se_int 1) (se_modR 3 (by decide) (se_divR 2700 (by decide) (se_var (i := 3) rfl)))))).v)) fun high_58 =>
  (ss_norm (J := [.val (enc v_cell), .val (enc v_k), .val d2, .val (enc mixed_7), .val (enc start_10), .val (enc end_23), .val (enc apart_28), .val (enc low_43), .val (enc high_58)]) rfl
  (ss_join (fun (st_64 : (Option Rat)) => [.val (enc v_cell), .val (enc v_k), .val d2, .val (enc mixed_7), .val (enc start_10), .val (enc end_23), .val (enc apart_28), .val (enc st_64), .val (enc high_58)]) (fun V' N hN_65 => ss_if (we hw) (st_of (se_bin op_eqI (se_modR 5 (by decide) (se_divR 3 (by decide) (se_var (i := 3) rfl))) (se_int 1)))
  (ss_one (ss_asg (we hw) se_non fun low_66 =>
  (ss_next [true, true, true, true, true, true, true, true, true] rfl fun δ A v e => hN_65 _ δ A v e)))
  (ss_next [true, true, true, true, true, true, true, true, true] rfl fun δ A v e => hN_65 _ δ A v e)) fun st_64 =>
  (ss_join (fun (st_72 : (Option Rat)) => [.val (enc v_cell), .val (enc v_k), .val d2, .val (enc mixed_7), .val (enc start_10), .val (enc end_23), .val (enc apart_28), .val (enc st_64), .val (enc st_72)]) (fun V' N hN_73 => ss_if (we hw) (st_of (se_bin op_eqI (se_modR 5 (by decide) (se_divR 5 (by decide) (se_var (i := 3) rfl))) (se_int 1)))
  (ss_one (ss_asg (we hw) se_non fun high_74 =>
  (ss_next [true, true, true, true, true, true, true, true, true] rfl fun δ A v e => hN_73 _ δ A v e)))
  (ss_next [true, true, true, true, true, true, true, true, true] rfl fun δ A v e => hN_73 _ δ A v e)) fun st_72 =>
  (ss_one (ss_ret1 (we hw) (se_co (fun t : (T5 Str Str Str (Option Rat) (Option Rat)) => ({ name := t.a, start := t.b, fin := t.c, low := t.d, high := t.e } : TieV)) (fun _ => rfl) (se_tup5 (se_bin op_ixS (se_str "abcdefghi") (se_var (i := 1) rfl)) (se_call1 hs__law_face ((se_var (i := 4) rfl)).v) (se_call1 hs__law_face ((se_var (i := 5) rfl)).v) (se_var (i := 7) rfl) (se_var (i := 8) rfl))) (fun a A' s h => hrt a A' s h))))))))))))))
  exact key _ _ ⟨Sub.refl A, [], (.val (.val (.val (.emp (.emp (.emp (.emp (.emp (.emp .nil)))))))))⟩ h
theorem len__law_steps {ds A Q E} (h : sp__law_steps ds A Q E) : ds.length = 1 := by obtain ⟨_, _, e, _⟩ := h; rw [e]; rfl
theorem rd__law_steps {ds A Q E} (h : sp__law_steps ds A Q E) : t__law_steps (fun c fs _ A => dropE E c fs A) { nx := fun _ A => dropQ Q .non A, rt := dropQ Q } (startD 7 ds) A := by
  obtain ⟨d0, v_ties, rfl, h0, h⟩ := h
  have hw : WX A (fun c fs _ A' => dropE E c fs A') (fun c fs => E c fs A) := fun c fs δ A' s h => ⟨A, s, h⟩
  have hrt : ∀ (a : (List (T4 Str Str Rat (Str × Bool)))) A', Sub A A' → Q (enc a) A → dropQ Q (enc a) A' := fun a A' s h => ⟨A, s, h⟩
  have key : SS A (fun c fs => E c fs A) { nx := fun _ A => dropQ Q .non A, rt := dropQ Q } (fun (r : (List (T4 Str Str Rat (Str × Bool)))) => Q (enc r) A) [.val d0, .emp, .emp, .emp, .emp, .emp, .emp] (t__law_steps (fun c fs _ A => dropE E c fs A)) (F__law_steps v_ties) := 
  (ss_asgO (we hw) (so_lst ses_nil) fun steps_here_1 =>
  (ss_for (we hw) (fun (st_3 : (List (T4 Str Str Rat (Str × Bool)))) => [.val d0, .own (oL st_3), .emp, .emp, .emp, .emp, .emp]) _ [true, true, false, false, false, false, false] rfl (sif_var (i := 0) rfl h0) (fun x_2 st_3 => (sg_tup5 rfl)) (fun V' N B hN_42 x_2 st_3 =>
  (ss_norm (J := [.val d0, .own (oL st_3), .val (enc x_2.name), .val (enc x_2.start), .val (enc x_2.fin), .val (enc x_2.low), .val (enc x_2.high)]) rfl
  (ss_join (fun (st_53 : (List (T4 Str Str Rat (Str × Bool)))) => [.val d0, .own (oL st_53), .val (enc x_2.name), .val (enc x_2.start), .val (enc x_2.fin), .val (enc x_2.low), .val (enc x_2.high)]) (fun V' N hN_54 => ss_if (we hw) (st_of (se_isN1 (se_var (i := 6) rfl)))
  (ss_one (ss_app (we hw) rfl (se_tup4 (se_var (i := 3) rfl) (se_var (i := 4) rfl) (se_unw (se_var (i := 6) rfl)) (se_tup2 (se_var (i := 2) rfl) (se_bl true))) fun steps_here_55 =>
  (ss_next [true, true, true, true, true, true, true] rfl fun δ A v e => hN_54 _ δ A v e)))
  (ss_next [true, true, true, true, true, true, true] rfl fun δ A v e => hN_54 _ δ A v e)) fun st_53 =>
  (ss_one (ss_ifs (we hw) (st_of (se_isN1 (se_var (i := 5) rfl)))
  (ss_one (ss_app (we hw) rfl (se_tup4 (se_var (i := 4) rfl) (se_var (i := 3) rfl) (se_toRat (se_tup2 (se_neg (se_proj (fun q : Rat => q.num) 0 ix_num (se_unw (se_var (i := 5) rfl)))) (se_proj (fun q : Rat => (q.den : Int)) 1 ix_den (se_unw (se_var (i := 5) rfl))))) (se_tup2 (se_var (i := 2) rfl) (se_bl false))) fun steps_here_73 =>
  (ss_next [true, true, false, false, false, false, false] rfl fun δ A v e => hN_42 _ δ A v e)))
  (ss_next [true, true, false, false, false, false, false] rfl fun δ A v e => hN_42 _ δ A v e)))))) fun st_3 =>
  (ss_fz (i := 1) rfl
  (ss_one (ss_ret1 (we hw) (se_var (i := 1) rfl) (fun a A' s h => hrt a A' s h))))))
  exact key _ _ ⟨Sub.refl A, [], (.val (.emp (.emp (.emp (.emp (.emp (.emp .nil)))))))⟩ h
theorem len__law_chain {ds A Q E} (h : sp__law_chain ds A Q E) : ds.length = 3 := by obtain ⟨_, _, _, _, _, _, e, _⟩ := h; rw [e]; rfl
theorem rd__law_chain {ds A Q E} (h : sp__law_chain ds A Q E) : t__law_chain (fun c fs _ A => dropE E c fs A) { nx := fun _ A => dropQ Q .non A, rt := dropQ Q } (startD 11 ds) A := by
  obtain ⟨d0, d1, d2, v_steps_here, v_face_here, v_told, rfl, h0, h1, h2, h⟩ := h
  have e1 : d1 = enc v_face_here := h1
  subst e1
  have e2 : d2 = enc v_told := h2
  subst e2
  have hw : WX A (fun c fs _ A' => dropE E c fs A') (fun c fs => E c fs A) := fun c fs δ A' s h => ⟨A, s, h⟩
  have hrt : ∀ (a : Bool) A', Sub A A' → Q (enc a) A → dropQ Q (enc a) A' := fun a A' s h => ⟨A, s, h⟩
  have key : SS A (fun c fs => E c fs A) { nx := fun _ A => dropQ Q .non A, rt := dropQ Q } (fun (r : Bool) => Q (enc r) A) [.val d0, .val (enc v_face_here), .val (enc v_told), .emp, .emp, .emp, .emp, .emp, .emp, .emp, .emp] (t__law_chain (fun c fs _ A => dropE E c fs A)) (F__law_chain v_steps_here v_face_here v_told) := 
  (ss_asgT (we hw) (se_var (i := 2) rfl) (fun p_1 => sg_tup3 rfl) fun p_1 =>
  (ss_norm (J := [.val d0, .val (enc v_face_here), .val (enc v_told), .val (enc p_1.a), .val (enc p_1.b), .val (enc p_1.c), .emp, .emp, .emp, .emp, .emp]) rfl
  (ss_asgO (we hw) (so_lst (ses_cons (se_var (i := 1) rfl) ses_nil)) fun seen_4 =>
  (ss_asg (we hw) (se_toRat (se_tup2 (se_int 0) (se_int 1))) fun here_7 =>
  (ss_norm (J := [.val d0, .val (enc v_face_here), .val (enc v_told), .val (enc p_1.a), .val (enc p_1.b), .val (enc p_1.c), .own (oL seen_4), .val (enc here_7), .emp, .emp, .emp]) rfl
  (ss_forF (we hw) (fun (st_9 : (List Str) × Rat) => [.val d0, .val (enc v_face_here), .val (enc v_told), .val (enc p_1.a), .val (enc p_1.b), .val (enc p_1.c), .own (oL st_9.1), .val (enc st_9.2), .emp, .emp, .emp]) _ [true, true, true, true, true, true, true, true, false, false, false] rfl (sif_seq (se_var (i := 5) rfl)) hrt (fun x_8 st_9 => (sg_name (i := 8))) (fun V' N B hN_20 hB_21 hR_22 x_8 st_9 =>
  (ss_asg (we hw) (se_lc _ (sic_v (sv_var (i := 0) rfl h0)) (fun x_23 => (sg_name (i := 10))) (fun x_23 => (st_of (sv_bin (op_eqV false (by decide)) ((se_proj (fun t : (T4 Str Str Rat (Str × Bool)) => t.d) 3 (fun _ => ⟨_, rfl, rfl⟩) (se_var (i := 10) rfl))).v ((se_var (i := 8) rfl)).v))) (fun x_23 => (se_var (i := 10) rfl))) fun found_25 =>
  (ss_norm (J := [.val d0, .val (enc v_face_here), .val (enc v_told), .val (enc p_1.a), .val (enc p_1.b), .val (enc p_1.c), .own (oL st_9.1), .val (enc st_9.2), .val (enc x_8), .val (enc found_25), .emp]) rfl
  (ss_ifs (we hw) (st_or (st_of (se_bin op_neI (sv_cb cb_len ((se_var (i := 9) rfl)).v) (se_int 1))) (st_or (st_of (sv_bin (op_eqV true (by decide)) ((se_proj (fun t : (T4 Str Str Rat (Str × Bool)) => t.a) 0 (fun _ => ⟨_, rfl, rfl⟩) (se_ix ((se_var (i := 9) rfl)).v (se_int 0)))).v ((se_ix (sv_own (i := 6) rfl) (se_neg (se_int 1)))).v)) (st_of (se_in false (by decide) (se_proj (fun t : (T4 Str Str Rat (Str × Bool)) => t.b) 1 (fun _ => ⟨_, rfl, rfl⟩) (se_ix ((se_var (i := 9) rfl)).v (se_int 0))) (sv_own (i := 6) rfl)))))
  (ss_one (ss_ret (we hw) (se_bl false) (fun a A' s h => hR_22 a A' s h)))
  (ss_into (ss_app (we hw) rfl (se_proj (fun t : (T4 Str Str Rat (Str × Bool)) => t.b) 1 (fun _ => ⟨_, rfl, rfl⟩) (se_ix ((se_var (i := 9) rfl)).v (se_int 0))) fun seen_28 =>
  (ss_one (ss_asg (we hw) (se_call2 hs__law_plus ((se_ofRat (se_var (i := 7) rfl))).v ((se_ofRat (se_proj (fun t : (T4 Str Str Rat (Str × Bool)) => t.c) 2 (fun _ => ⟨_, rfl, rfl⟩) (se_ix ((se_var (i := 9) rfl)).v (se_int 0))))).v) fun here_32 =>
  (ss_next [true, true, true, true, true, true, true, true, false, false, false] rfl fun δ A v e => hN_20 _ δ A v e))))))))) fun st_9 =>
  (ss_fz (i := 6) rfl
  (ss_one (ss_ret1 (we hw) (se_and (sv_bin (op_eqV false (by decide)) ((se_ix ((se_var (i := 6) rfl)).v (se_neg (se_int 1)))).v ((se_var (i := 3) rfl)).v) (se_and (se_bin op_eqF (se_var (i := 7) rfl) (se_var (i := 4) rfl)) (se_and (se_isi true (by decide +kernel) (fun _ _ => ty_fr) (se_var (i := 4) rfl)) (sv_isi true (by decide +kernel) ((se_var (i := 5) rfl)).v)))) (fun a A' s h => hrt a A' s h))))))))))
  exact key _ _ ⟨Sub.refl A, [], (.val (.val (.val (.emp (.emp (.emp (.emp (.emp (.emp (.emp (.emp .nil)))))))))))⟩ h
theorem len__law_least {ds A Q E} (h : sp__law_least ds A Q E) : ds.length = 2 := by obtain ⟨_, _, _, _, e, _⟩ := h; rw [e]; rfl
theorem rd__law_least {ds A Q E} (h : sp__law_least ds A Q E) : t__law_least (fun c fs _ A => dropE E c fs A) { nx := fun _ A => dropQ Q .non A, rt := dropQ Q } (startD 10 ds) A := by
  obtain ⟨d0, d1, v_steps_here, v_found, rfl, h0, h1, h⟩ := h
  have hw : WX A (fun c fs _ A' => dropE E c fs A') (fun c fs => E c fs A) := fun c fs δ A' s h => ⟨A, s, h⟩
  have hrt : ∀ (a : Bool) A', Sub A A' → Q (enc a) A → dropQ Q (enc a) A' := fun a A' s h => ⟨A, s, h⟩
  have key : SS A (fun c fs => E c fs A) { nx := fun _ A => dropQ Q .non A, rt := dropQ Q } (fun (r : Bool) => Q (enc r) A) [.val d0, .val d1, .emp, .emp, .emp, .emp, .emp, .emp, .emp, .emp] (t__law_least (fun c fs _ A => dropE E c fs A)) (F__law_least v_steps_here v_found) := 
  (ss_asgO (we hw) so_dic0 fun sums_1 =>
  (ss_for (we hw) (fun (st_3 : (Dic Str Rat)) => [.val d0, .val d1, .own (oD st_3), .emp, .emp, .emp, .emp, .emp, .emp, .emp]) _ [true, true, true, false, false, false, false, false, false, false] rfl (sif_var (i := 1) rfl h1) (fun x_2 st_3 => (sg_tup3 rfl)) (fun V' N B hN_7 x_2 st_3 =>
  (ss_norm (J := [.val d0, .val d1, .own (oD st_3), .val (enc x_2.a), .val (enc x_2.b), .val (enc x_2.c), .emp, .emp, .emp, .emp]) rfl
  (ss_one (ss_setD (we hw) rfl (se_var (i := 4) rfl) (se_var (i := 3) rfl) fun sums_10 =>
  (ss_next [true, true, true, false, false, false, false, false, false, false] rfl fun δ A v e => hN_7 _ δ A v e))))) fun st_3 =>
  (ss_fzD (i := 2) rfl
  (ss_forF (we hw) (fun (st_15 : Unit) => [.val d0, .val d1, .val (enc st_3), .emp, .emp, .emp, .emp, .emp, .emp, .emp]) _ [true, true, true, false, false, false, false, false, false, false] rfl (sif_var (i := 0) rfl h0) hrt (fun x_14 st_15 => (sg_tup4 rfl)) (fun V' N B hN_28 hB_29 hR_30 x_14 st_15 =>
  (ss_norm (J := [.val d0, .val d1, .val (enc st_3), .emp, .emp, .emp, .val (enc x_14.a), .val (enc x_14.b), .val (enc x_14.c), .val (enc x_14.d)]) rfl
  (ss_one (ss_ifs (we hw) (st_of (se_inD0 (se_var (i := 6) rfl) ((se_var (i := 2) rfl)).v))
  (ss_one (ss_ifs (we hw) (st_or (st_of (se_inD1 (se_var (i := 7) rfl) ((se_var (i := 2) rfl)).v)) (st_of (se_call2 hs__law_less ((se_call2 hs__law_plus ((se_ofRat (se_get ((se_var (i := 2) rfl)).v (se_var (i := 6) rfl)))).v ((se_ofRat (se_var (i := 8) rfl))).v)).v ((se_get ((se_var (i := 2) rfl)).v (se_var (i := 7) rfl))).v)))
  (ss_one (ss_ret (we hw) (se_bl false) (fun a A' s h => hR_30 a A' s h)))
  (ss_next [true, true, true, false, false, false, false, false, false, false] rfl fun δ A v e => hN_28 _ δ A v e)))
  (ss_next [true, true, true, false, false, false, false, false, false, false] rfl fun δ A v e => hN_28 _ δ A v e))))) fun st_15 =>
  (ss_one (ss_ret1 (we hw) (se_bl true) (fun a A' s h => hrt a A' s h)))))))
  exact key _ _ ⟨Sub.refl A, [], (.val (.val (.emp (.emp (.emp (.emp (.emp (.emp (.emp (.emp .nil))))))))))⟩ h
theorem len__law_from {ds A Q E} (h : sp__law_from ds A Q E) : ds.length = 3 := by obtain ⟨_, _, _, _, _, _, e, _⟩ := h; rw [e]; rfl
theorem rd__law_from {ds A Q E} (h : sp__law_from ds A Q E) : t__law_from (fun c fs _ A => dropE E c fs A) { nx := fun _ A => dropQ Q .non A, rt := dropQ Q } (startD 10 ds) A := by
  obtain ⟨d0, d1, d2, v_ties, v_steps_here, v_face_here, rfl, h0, h1, h2, hA, h⟩ := h
  have e2 : d2 = enc v_face_here := h2
  subst e2
  have hw : WX A (fun c fs _ A' => dropE E c fs A') (fun c fs => E c fs A) := fun c fs δ A' s h => ⟨A, s, h⟩
  have hrt : ∀ (a : Bool) A', Sub A A' → Q (enc a) A → dropQ Q (enc a) A' := fun a A' s h => ⟨A, s, h⟩
  have key : SS A (fun c fs => E c fs A) { nx := fun _ A => dropQ Q .non A, rt := dropQ Q } (fun (r : Bool) => Q (enc r) A) [.val d0, .val d1, .val (enc v_face_here), .emp, .emp, .emp, .emp, .emp, .emp, .emp] (t__law_from (fun c fs _ A => dropE E c fs A)) (F__law_from v_ties v_steps_here v_face_here) := 
  (ss_asg (we hw) (se_call2 hs_reached ((sv_cb cb_list (sv_var (i := 0) rfl h0))).v ((se_var (i := 2) rfl)).v) fun found_3 =>
  (ss_ifs (we hw) (st_or (st_not (st_of (sv_isi true (by decide +kernel) ((se_var (i := 3) rfl)).v))) (st_of (se_in true (by decide) (se_tup3 (se_var (i := 2) rfl) (se_toRat (se_tup2 (se_int 0) (se_int 1))) (se_lst ses_nil)) ((se_var (i := 3) rfl)).v)))
  (ss_one (ss_ret1 (we hw) (se_bl false) (fun a A' s h => hrt a A' s h)))
  (ss_into (ss_asg (we hw) (se_lc _ (sic_v ((se_var (i := 3) rfl)).v) (fun x_14 => (sg_name (i := 5))) (fun x_14 => st_yes) (fun x_14 => (se_proj (fun t : (T3 Str Rat (List (Str × Bool))) => t.a) 0 (fun _ => ⟨_, rfl, rfl⟩) (se_var (i := 5) rfl)))) fun names_16 =>
  (ss_norm (J := [.val d0, .val d1, .val (enc v_face_here), .val (enc found_3), .val (enc names_16), .emp, .emp, .emp, .emp, .emp]) rfl
  (ss_ifs (we hw) (st_of (sv_bin (op_eqV true (by decide)) ((se_var (i := 4) rfl)).v ((se_sortSet ((se_var (i := 4) rfl)).v)).v))
  (ss_one (ss_ret1 (we hw) (se_bl false) (fun a A' s h => hrt a A' s h)))
  (ss_into (ss_forF (we hw) (fun (st_18 : Unit) => [.val d0, .val d1, .val (enc v_face_here), .val (enc found_3), .val (enc names_16), .emp, .emp, .emp, .emp, .emp]) _ [true, true, true, true, true, false, false, false, false, false] rfl (sif_seq (se_var (i := 3) rfl)) hrt (fun x_17 st_18 => (sg_name (i := 5))) (fun V' N B hN_24 hB_25 hR_26 x_17 st_18 =>
  (ss_one (ss_ifs (we hw) (st_or (st_not (st_of (se_isi true (by decide +kernel) (fun _ _ => rfl) (se_var (i := 5) rfl)))) (st_or (st_of (se_bin op_neI (se_cb (cb_lenT (fun _ => ⟨_, rfl, rfl⟩)) (se_var (i := 5) rfl)) (se_int 3))) (st_not (st_of (se_call3 hs__law_chain (sv_var (i := 1) rfl h1) ((se_var (i := 2) rfl)).v ((se_var (i := 5) rfl)).v)))))
  (ss_one (ss_ret (we hw) (se_bl false) (fun a A' s h => hR_26 a A' s h)))
  (ss_next [true, true, true, true, true, false, false, false, false, false] rfl fun δ A v e => hN_24 _ δ A v e)))) fun st_18 =>
  (ss_ifs (we hw) (st_not (st_of (se_call2 hs__law_least (sv_var (i := 1) rfl h1) ((se_var (i := 3) rfl)).v)))
  (ss_one (ss_ret1 (we hw) (se_bl false) (fun a A' s h => hrt a A' s h)))
  (ss_into (ss_thN (i := 3) (k := 6) (J := [.val d0, .emp, .val (enc v_face_here), .emp, .emp, .emp, .emp, .emp, .emp, .emp]) hA rfl [true, false, true, false, false, false, false, false, false, false] rfl rfl rfl rfl rfl (by decide) (by simp only [List.length_cons, List.length_nil]; decide) (by decide) (kds_cons (kd_vw h0) (kds_cons (KEnc.kd v_face_here) kds_nil)) fun kept_35 =>
  (ss_norm (J := [.val d0, .emp, .val (enc v_face_here), .emp, .emp, .emp, .val (enc kept_35), .emp, .emp, .emp]) rfl (ss_one (ss_ret1 (we hw) (sv_bin (op_eqV false (by decide)) ((se_call2 hs_reached ((sv_cb cb_list (sv_var (i := 0) rfl h0))).v ((se_var (i := 2) rfl)).v)).v ((se_var (i := 6) rfl)).v) (fun a A' s h => hrt a A' s h)))))))))))))))
  exact key _ _ ⟨Sub.refl A, [], (.val (.val (.val (.emp (.emp (.emp (.emp (.emp (.emp (.emp .nil))))))))))⟩ h
theorem len_law {ds A Q E} (h : spLawC ds A Q E) : ds.length = 1 := by obtain ⟨_, _, rfl, _⟩ := h; rfl
theorem rd_law {ds A Q E} (h : spLawC ds A Q E) : t_law (fun c fs _ A => dropE E c fs A) { nx := fun _ A => dropQ Q .non A, rt := dropQ Q } (startD 8 ds) A := by
  obtain ⟨v_script, d0, rfl, h0', hl, hA, q⟩ := h
  have h0 : vw A d0 v_script := h0'
  have h : (F_law v_script).wp (fun r => Q (enc r) A) (fun c fs => E c fs A) := by rw [law_ok v_script hl]; exact q A
  have hw : WX A (fun c fs _ A' => dropE E c fs A') (fun c fs => E c fs A) := fun c fs δ A' s h => ⟨A, s, h⟩
  have hrt : ∀ (a : Bool) A', Sub A A' → Q (enc a) A → dropQ Q (enc a) A' := fun a A' s h => ⟨A, s, h⟩
  have key : SS A (fun c fs => E c fs A) { nx := fun _ A => dropQ Q .non A, rt := dropQ Q } (fun (r : Bool) => Q (enc r) A) [.val d0, .emp, .emp, .emp, .emp, .emp, .emp, .emp] (t_law (fun c fs _ A => dropE E c fs A)) (F_law v_script) := 
  (ss_asg (we hw) (se_bin op_addI (se_int 2) (se_modR 5 (by decide) (se_call2 hs__law_cell_at (sv_var (i := 0) rfl h0) ((se_int 0)).v))) fun faces_7 =>
  (ss_asg (we hw) (se_call2 hs__law_places (sv_var (i := 0) rfl h0) ((se_var (i := 1) rfl)).v) fun places_here_10 =>
  (ss_norm (J := [.val d0, .val (enc faces_7), .val (enc places_here_10), .emp, .emp, .emp, .emp, .emp]) rfl
  (ss_asgO (we hw) (so_lst ses_nil) fun ties_11 =>
  (ss_for (we hw) (fun (st_21 : (List TieV)) => [.val d0, .val (enc faces_7), .val (enc places_here_10), .own (oL st_21), .emp, .emp, .emp, .emp]) _ [true, true, true, true, false, false, false, false] rfl (sif_rng1 (se_bin op_addI (se_int 1) (se_modR 9 (by decide) (se_divR 5 (by decide) (se_call2 hs__law_cell_at (sv_var (i := 0) rfl h0) ((se_int 0)).v))))) (fun x_20 st_21 => (sg_name (i := 4))) (fun V' N B hN_31 x_20 st_21 =>
  (ss_one (ss_app (we hw) rfl (se_call3 hs__law_tie ((se_call2 hs__law_cell_at (sv_var (i := 0) rfl h0) ((se_bin op_addI (se_int 8) (se_var (i := 4) rfl))).v)).v ((se_var (i := 4) rfl)).v ((se_var (i := 2) rfl)).v) fun ties_34 =>
  (ss_next [true, true, true, true, false, false, false, false] rfl fun δ A v e => hN_31 _ δ A v e)))) fun st_21 =>
  (ss_fz (i := 3) rfl
  (ss_asg (we hw) (se_call1 hs__law_steps ((se_var (i := 3) rfl)).v) fun steps_here_45 =>
  (ss_norm (J := [.val d0, .val (enc faces_7), .val (enc places_here_10), .val (enc st_21), .emp, .val (enc steps_here_45), .emp, .emp]) rfl
  (ss_forP (i1 := 3) (i2 := 5) (j := 6) (we hw) hA hp__law_from (se_sortSet ((sv_bin op_cat ((se_lc _ (sic_v ((se_var (i := 3) rfl)).v) (fun x_46 => (sg_name (i := 7))) (fun x_46 => st_yes) (fun x_46 => (se_proj (fun t : TieV => t.start) 1 (fun _ => ⟨_, rfl, rfl⟩) (se_var (i := 7) rfl))))).v ((se_lc _ (sic_v ((se_var (i := 3) rfl)).v) (fun x_48 => (sg_name (i := 7))) (fun x_48 => st_yes) (fun x_48 => (se_proj (fun t : TieV => t.fin) 2 (fun _ => ⟨_, rfl, rfl⟩) (se_var (i := 7) rfl))))).v)).v) rfl rfl (by decide) (by decide) (by simp only [List.length_cons, List.length_nil]; decide) (ss_one (ss_ret1 (we hw) (se_bl true) (fun a A' s h => hrt a A' s h))))))))))))
  exact key _ _ ⟨Sub.refl A, [], (.val (.emp (.emp (.emp (.emp (.emp (.emp (.emp .nil))))))))⟩ h
end K23


namespace K23
open PySem PySem.Spec PyProof.Rows L2 DL FR TF
open TF.Enc
open H23 (top inn s_divisor s_fraction s_plus s_minus s_under s_is_whole s_is_name s_is_fraction s_Tie___init__ s_Tie_low s_Tie_high s_AtMost_high s_Between_high s_Just_high s_AtLeast_low s_Between_low s_Just_low s_Tie_steps s_AtLeast___init__ s_AtMost___init__ s_Just___init__ s_Between___init__ s_check_tie s_tie_of s_all_steps s_one_round s_way_back s_reached s__law_cell_at s__law_divisor s__law_lowest s__law_plus s__law_less s__law_places s__law_face s__law_tie s__law_steps s__law_chain s__law_least s__law_from s_law)
structure C (K : PySem.W.Frag) (mg : Str → Option Value) : Prop where
  d_divisor : ∃ fd, FunD K "divisor" "divisor" (defArgs s_divisor) (defBody s_divisor) (defScope s_divisor) [] [] (He.fAd K ("divisor", none)) fd
  d_fraction : ∃ fd, FunD K "fraction" "fraction" (defArgs s_fraction) (defBody s_fraction) (defScope s_fraction) [V.int 1] [] (He.fAd K ("fraction", none)) fd
  d_plus : ∃ fd, FunD K "plus" "plus" (defArgs s_plus) (defBody s_plus) (defScope s_plus) [] [] (He.fAd K ("plus", none)) fd
  d_minus : ∃ fd, FunD K "minus" "minus" (defArgs s_minus) (defBody s_minus) (defScope s_minus) [] [] (He.fAd K ("minus", none)) fd
  d_under : ∃ fd, FunD K "under" "under" (defArgs s_under) (defBody s_under) (defScope s_under) [] [] (He.fAd K ("under", none)) fd
  d_is_whole : ∃ fd, FunD K "is_whole" "is_whole" (defArgs s_is_whole) (defBody s_is_whole) (defScope s_is_whole) [] [] (He.fAd K ("is_whole", none)) fd
  d_is_name : ∃ fd, FunD K "is_name" "is_name" (defArgs s_is_name) (defBody s_is_name) (defScope s_is_name) [] [] (He.fAd K ("is_name", none)) fd
  d_is_fraction : ∃ fd, FunD K "is_fraction" "is_fraction" (defArgs s_is_fraction) (defBody s_is_fraction) (defScope s_is_fraction) [] [] (He.fAd K ("is_fraction", none)) fd
  d_Tie___init__ : ∃ fd, FunD K "__init__" "Tie.__init__" (defArgs s_Tie___init__) (defBody s_Tie___init__) (defScope s_Tie___init__) [] [] (He.fAd K ("Tie", some "__init__")) fd
  d_Tie_low : ∃ fd, FunD K "low" "Tie.low" (defArgs s_Tie_low) (defBody s_Tie_low) (defScope s_Tie_low) [] [] (He.fAd K ("Tie", some "low")) fd
  d_Tie_high : ∃ fd, FunD K "high" "Tie.high" (defArgs s_Tie_high) (defBody s_Tie_high) (defScope s_Tie_high) [] [] (He.fAd K ("Tie", some "high")) fd
  d_AtMost_high : ∃ fd, FunD K "high" "AtMost.high" (defArgs s_AtMost_high) (defBody s_AtMost_high) (defScope s_AtMost_high) [] [] (He.fAd K ("AtMost", some "high")) fd
  d_Between_high : ∃ fd, FunD K "high" "Between.high" (defArgs s_Between_high) (defBody s_Between_high) (defScope s_Between_high) [] [] (He.fAd K ("Between", some "high")) fd
  d_Just_high : ∃ fd, FunD K "high" "Just.high" (defArgs s_Just_high) (defBody s_Just_high) (defScope s_Just_high) [] [] (He.fAd K ("Just", some "high")) fd
  d_AtLeast_low : ∃ fd, FunD K "low" "AtLeast.low" (defArgs s_AtLeast_low) (defBody s_AtLeast_low) (defScope s_AtLeast_low) [] [] (He.fAd K ("AtLeast", some "low")) fd
  d_Between_low : ∃ fd, FunD K "low" "Between.low" (defArgs s_Between_low) (defBody s_Between_low) (defScope s_Between_low) [] [] (He.fAd K ("Between", some "low")) fd
  d_Just_low : ∃ fd, FunD K "low" "Just.low" (defArgs s_Just_low) (defBody s_Just_low) (defScope s_Just_low) [] [] (He.fAd K ("Just", some "low")) fd
  d_Tie_steps : ∃ fd, FunD K "steps" "Tie.steps" (defArgs s_Tie_steps) (defBody s_Tie_steps) (defScope s_Tie_steps) [] [] (He.fAd K ("Tie", some "steps")) fd
  d_AtLeast___init__ : ∃ fd, FunD K "__init__" "AtLeast.__init__" (defArgs s_AtLeast___init__) (defBody s_AtLeast___init__) (defScope s_AtLeast___init__) [] [] (He.fAd K ("AtLeast", some "__init__")) fd
  d_AtMost___init__ : ∃ fd, FunD K "__init__" "AtMost.__init__" (defArgs s_AtMost___init__) (defBody s_AtMost___init__) (defScope s_AtMost___init__) [] [] (He.fAd K ("AtMost", some "__init__")) fd
  d_Just___init__ : ∃ fd, FunD K "__init__" "Just.__init__" (defArgs s_Just___init__) (defBody s_Just___init__) (defScope s_Just___init__) [] [] (He.fAd K ("Just", some "__init__")) fd
  d_Between___init__ : ∃ fd, FunD K "__init__" "Between.__init__" (defArgs s_Between___init__) (defBody s_Between___init__) (defScope s_Between___init__) [] [] (He.fAd K ("Between", some "__init__")) fd
  d_check_tie : ∃ fd, FunD K "check_tie" "check_tie" (defArgs s_check_tie) (defBody s_check_tie) (defScope s_check_tie) [] [] (He.fAd K ("check_tie", none)) fd
  d_tie_of : ∃ fd, FunD K "tie_of" "tie_of" (defArgs s_tie_of) (defBody s_tie_of) (defScope s_tie_of) [] [] (He.fAd K ("tie_of", none)) fd
  d_all_steps : ∃ fd, FunD K "all_steps" "all_steps" (defArgs s_all_steps) (defBody s_all_steps) (defScope s_all_steps) [] [] (He.fAd K ("all_steps", none)) fd
  d_one_round : ∃ fd, FunD K "one_round" "one_round" (defArgs s_one_round) (defBody s_one_round) (defScope s_one_round) [] [] (He.fAd K ("one_round", none)) fd
  d_way_back : ∃ fd, FunD K "way_back" "way_back" (defArgs s_way_back) (defBody s_way_back) (defScope s_way_back) [] [] (He.fAd K ("way_back", none)) fd
  d_reached : ∃ fd, FunD K "reached" "reached" (defArgs s_reached) (defBody s_reached) (defScope s_reached) [] [] (He.fAd K ("reached", none)) fd
  d__law_cell_at : ∃ fd, FunD K "_law_cell_at" "_law_cell_at" (defArgs s__law_cell_at) (defBody s__law_cell_at) (defScope s__law_cell_at) [] [] (He.fAd K ("_law_cell_at", none)) fd
  d__law_divisor : ∃ fd, FunD K "_law_divisor" "_law_divisor" (defArgs s__law_divisor) (defBody s__law_divisor) (defScope s__law_divisor) [] [] (He.fAd K ("_law_divisor", none)) fd
  d__law_lowest : ∃ fd, FunD K "_law_lowest" "_law_lowest" (defArgs s__law_lowest) (defBody s__law_lowest) (defScope s__law_lowest) [] [] (He.fAd K ("_law_lowest", none)) fd
  d__law_plus : ∃ fd, FunD K "_law_plus" "_law_plus" (defArgs s__law_plus) (defBody s__law_plus) (defScope s__law_plus) [] [] (He.fAd K ("_law_plus", none)) fd
  d__law_less : ∃ fd, FunD K "_law_less" "_law_less" (defArgs s__law_less) (defBody s__law_less) (defScope s__law_less) [] [] (He.fAd K ("_law_less", none)) fd
  d__law_places : ∃ fd, FunD K "_law_places" "_law_places" (defArgs s__law_places) (defBody s__law_places) (defScope s__law_places) [] [] (He.fAd K ("_law_places", none)) fd
  d__law_face : ∃ fd, FunD K "_law_face" "_law_face" (defArgs s__law_face) (defBody s__law_face) (defScope s__law_face) [] [] (He.fAd K ("_law_face", none)) fd
  d__law_tie : ∃ fd, FunD K "_law_tie" "_law_tie" (defArgs s__law_tie) (defBody s__law_tie) (defScope s__law_tie) [] [] (He.fAd K ("_law_tie", none)) fd
  d__law_steps : ∃ fd, FunD K "_law_steps" "_law_steps" (defArgs s__law_steps) (defBody s__law_steps) (defScope s__law_steps) [] [] (He.fAd K ("_law_steps", none)) fd
  d__law_chain : ∃ fd, FunD K "_law_chain" "_law_chain" (defArgs s__law_chain) (defBody s__law_chain) (defScope s__law_chain) [] [] (He.fAd K ("_law_chain", none)) fd
  d__law_least : ∃ fd, FunD K "_law_least" "_law_least" (defArgs s__law_least) (defBody s__law_least) (defScope s__law_least) [] [] (He.fAd K ("_law_least", none)) fd
  d__law_from : ∃ fd, FunD K "_law_from" "_law_from" (defArgs s__law_from) (defBody s__law_from) (defScope s__law_from) [] [] (He.fAd K ("_law_from", none)) fd
  d_law : ∃ fd, FunD K "law" "law" (defArgs s_law) (defBody s_law) (defScope s_law) [] [] (He.fAd K ("law", none)) fd
  n_abs : mg "abs" = none
  n_bool : mg "bool" = none
  n_int : mg "int" = none
  n_isinstance : mg "isinstance" = none
  n_len : mg "len" = none
  n_list : mg "list" = none
  n_range : mg "range" = none
  n_set : mg "set" = none
  n_sorted : mg "sorted" = none
  n_str : mg "str" = none
  n_tuple : mg "tuple" = none
  g_AtLeast : mg "AtLeast" = some (.ref (He.ga K "AtLeast"))
  g_AtMost : mg "AtMost" = some (.ref (He.ga K "AtMost"))
  g_Between : mg "Between" = some (.ref (He.ga K "Between"))
  g_Free : mg "Free" = some (.ref (He.ga K "Free"))
  g_Just : mg "Just" = some (.ref (He.ga K "Just"))
  g_NoNumber : mg "NoNumber" = some (.ref (He.ga K "NoNumber"))
  g_NoTie : mg "NoTie" = some (.ref (He.ga K "NoTie"))
  g_Tie : mg "Tie" = some (.ref (He.ga K "Tie"))
  s_LETTERS : ∃ t, mg "LETTERS" = some (.str "abcdefghijklmnopqrstuvwxyz" t)
  x_NoNumber : (He.Fa.exc "NoNumber").ok K = true
  x_NoTie : (He.Fa.exc "NoTie").ok K = true
  f_end : ∀ c ∈ ["AtLeast", "AtMost", "Between", "Free", "Just"], FldOk K c "end"
  f_greatest : ∀ c ∈ ["AtMost", "Between"], FldOk K c "greatest"
  f_least : ∀ c ∈ ["AtLeast", "Between"], FldOk K c "least"
  f_name : ∀ c ∈ ["AtLeast", "AtMost", "Between", "Free", "Just"], FldOk K c "name"
  f_size : ∀ c ∈ ["Just"], FldOk K c "size"
  f_start : ∀ c ∈ ["AtLeast", "AtMost", "Between", "Free", "Just"], FldOk K c "start"
  me_AtLeast_high : Cls K (He.ga K "AtLeast") ∧ Meth K (He.ga K "AtLeast") "high" (He.ma K (He.ga K "Tie") "high")
  me_AtMost_high : Cls K (He.ga K "AtMost") ∧ Meth K (He.ga K "AtMost") "high" (He.ma K (He.ga K "AtMost") "high")
  me_Between_high : Cls K (He.ga K "Between") ∧ Meth K (He.ga K "Between") "high" (He.ma K (He.ga K "Between") "high")
  me_Free_high : Cls K (He.ga K "Free") ∧ Meth K (He.ga K "Free") "high" (He.ma K (He.ga K "Tie") "high")
  me_Just_high : Cls K (He.ga K "Just") ∧ Meth K (He.ga K "Just") "high" (He.ma K (He.ga K "Just") "high")
  me_AtLeast_low : Cls K (He.ga K "AtLeast") ∧ Meth K (He.ga K "AtLeast") "low" (He.ma K (He.ga K "AtLeast") "low")
  me_AtMost_low : Cls K (He.ga K "AtMost") ∧ Meth K (He.ga K "AtMost") "low" (He.ma K (He.ga K "Tie") "low")
  me_Between_low : Cls K (He.ga K "Between") ∧ Meth K (He.ga K "Between") "low" (He.ma K (He.ga K "Between") "low")
  me_Free_low : Cls K (He.ga K "Free") ∧ Meth K (He.ga K "Free") "low" (He.ma K (He.ga K "Tie") "low")
  me_Just_low : Cls K (He.ga K "Just") ∧ Meth K (He.ga K "Just") "low" (He.ma K (He.ga K "Just") "low")
  me_AtLeast_steps : Cls K (He.ga K "AtLeast") ∧ Meth K (He.ga K "AtLeast") "steps" (He.ma K (He.ga K "Tie") "steps")
  me_AtMost_steps : Cls K (He.ga K "AtMost") ∧ Meth K (He.ga K "AtMost") "steps" (He.ma K (He.ga K "Tie") "steps")
  me_Between_steps : Cls K (He.ga K "Between") ∧ Meth K (He.ga K "Between") "steps" (He.ma K (He.ga K "Tie") "steps")
  me_Free_steps : Cls K (He.ga K "Free") ∧ Meth K (He.ga K "Free") "steps" (He.ma K (He.ga K "Tie") "steps")
  me_Just_steps : Cls K (He.ga K "Just") ∧ Meth K (He.ga K "Just") "steps" (He.ma K (He.ga K "Tie") "steps")
  mk_AtLeast : L2.Mk K (He.ga K "AtLeast") (He.ma K (He.ga K "AtLeast") "__init__")
  mk_AtMost : L2.Mk K (He.ga K "AtMost") (He.ma K (He.ga K "AtMost") "__init__")
  mk_Between : L2.Mk K (He.ga K "Between") (He.ma K (He.ga K "Between") "__init__")
  mk_Free : L2.Mk K (He.ga K "Free") (He.ma K (He.ga K "Tie") "__init__")
  mk_Just : L2.Mk K (He.ga K "Just") (He.ma K (He.ga K "Just") "__init__")
  cm_Tie___init__ : fxCM "Tie" "__init__" K = true
  m_divisor : mg "divisor" = some (.ref (He.ga K "divisor"))
  m_fraction : mg "fraction" = some (.ref (He.ga K "fraction"))
  m_plus : mg "plus" = some (.ref (He.ga K "plus"))
  m_minus : mg "minus" = some (.ref (He.ga K "minus"))
  m_under : mg "under" = some (.ref (He.ga K "under"))
  m_is_whole : mg "is_whole" = some (.ref (He.ga K "is_whole"))
  m_is_name : mg "is_name" = some (.ref (He.ga K "is_name"))
  m_is_fraction : mg "is_fraction" = some (.ref (He.ga K "is_fraction"))
  m_check_tie : mg "check_tie" = some (.ref (He.ga K "check_tie"))
  m_tie_of : mg "tie_of" = some (.ref (He.ga K "tie_of"))
  m_all_steps : mg "all_steps" = some (.ref (He.ga K "all_steps"))
  m_one_round : mg "one_round" = some (.ref (He.ga K "one_round"))
  m_way_back : mg "way_back" = some (.ref (He.ga K "way_back"))
  m_reached : mg "reached" = some (.ref (He.ga K "reached"))
  m__law_cell_at : mg "_law_cell_at" = some (.ref (He.ga K "_law_cell_at"))
  m__law_divisor : mg "_law_divisor" = some (.ref (He.ga K "_law_divisor"))
  m__law_lowest : mg "_law_lowest" = some (.ref (He.ga K "_law_lowest"))
  m__law_plus : mg "_law_plus" = some (.ref (He.ga K "_law_plus"))
  m__law_less : mg "_law_less" = some (.ref (He.ga K "_law_less"))
  m__law_places : mg "_law_places" = some (.ref (He.ga K "_law_places"))
  m__law_face : mg "_law_face" = some (.ref (He.ga K "_law_face"))
  m__law_tie : mg "_law_tie" = some (.ref (He.ga K "_law_tie"))
  m__law_steps : mg "_law_steps" = some (.ref (He.ga K "_law_steps"))
  m__law_chain : mg "_law_chain" = some (.ref (He.ga K "_law_chain"))
  m__law_least : mg "_law_least" = some (.ref (He.ga K "_law_least"))
  m__law_from : mg "_law_from" = some (.ref (He.ga K "_law_from"))
  m_law : mg "law" = some (.ref (He.ga K "law"))
section
variable {P : Program} {w : World} {K : PySem.W.Frag} {mg : Str → Option Value} {base : Heap}
theorem sc_divisor : FnScope ["one", "other"] ["one", "other"] (defScope s_divisor) := ⟨rfl, rfl, rfl, by decide +kernel, rfl, by decide +kernel, by decide +kernel⟩
theorem ok_divisor (C : C K mg) {fd : FuncData} (F : FunD K "divisor" "divisor" (defArgs s_divisor) (defBody s_divisor) (defScope s_divisor) [] [] (He.fAd K ("divisor", none)) fd) : FnOk P w K mg base (CX P w) 1 (He.fAd K ("divisor", none)) fd ["one", "other"] (liftSp K sp_divisor) := by
  refine DL.fn_ok (t := t_divisor) F sc_divisor (fun ds A Q E h => len_divisor h) (fun cdv A outer s H E Z0 wd hr tk => ?_) (fun ds A Q E h => rd_divisor h)
  have hu := uA hr
  have hu65 := uC hr
  have hu64 := uB hr
  exact (qss_cons (qs_set (i := 0) sc_divisor.nd rfl (.inl rfl) (qe_callB lift_abs call_abs (by rfl) C.n_abs (by decide +kernel) (qa_cons (qe_var (pv 0)) qa_nil)))
  (qss_cons (qs_set (i := 1) sc_divisor.nd rfl (.inl rfl) (qe_callB lift_abs call_abs (by rfl) C.n_abs (by decide +kernel) (qa_cons (qe_var (pv 1)) qa_nil)))
  (qss_cons (qs_while (passes_of rfl) (qt_cmp lift_cmp op_gt (qe_var (pv 1)) qe_int (nomark _))
  (qss_one (qs_par (i := 0) (j := 1) rfl sc_divisor.nd rfl rfl (by decide) rfl rfl (qa_cons (qe_var (pv 1)) (qa_cons (qe_mod (qe_var (pv 0)) (qe_var (pv 1))) qa_nil)) (by rfl))))
  (qss_one (qs_ret (qe_var (pv 0)))))))
theorem df_divisor (C : C K mg) : DFn P w K mg base 1 "divisor" sp_divisor [] := by
  obtain ⟨fd, F⟩ := C.d_divisor
  exact dfn (ok_divisor C F) C.m_divisor F.kp (F.bindsN fun _ _ _ _ _ _ us hl => match us, hl with | [_, _], _ => rfl)
theorem sc_fraction : FnScope ["top", "bottom", "by"] ["top", "bottom"] (defScope s_fraction) := ⟨rfl, rfl, rfl, by decide +kernel, rfl, by decide +kernel, by decide +kernel⟩
theorem ok_fraction (C : C K mg) {fd : FuncData} (F : FunD K "fraction" "fraction" (defArgs s_fraction) (defBody s_fraction) (defScope s_fraction) [V.int 1] [] (He.fAd K ("fraction", none)) fd) : FnOk P w K mg base (CX P w) 2 (He.fAd K ("fraction", none)) fd ["top", "bottom"] (liftSp K sp_fraction) := by
  have F_divisor := @df_divisor P w K mg base C
  refine DL.fn_ok (t := t_fraction) F sc_fraction (fun ds A Q E h => len_fraction h) (fun cdv A outer s H E Z0 wd hr tk => ?_) (fun ds A Q E h => rd_fraction h)
  have hu := uA hr
  have hu65 := uC hr
  have hu64 := uB hr
  exact (qss_cons (qs_if (qt_cmp lift_eq (op_eqD hu64) (qe_var (pv 1)) qe_int (nomark _))
  (qss_one (qs_raiseC (c := "NoNumber") C.x_NoNumber C.g_NoNumber rfl tk (by rfl) (by decide)))
  qss_nil)
  (qss_cons (qs_set (i := 2) sc_fraction.nd rfl (.inl rfl) (qe_call F_divisor hr (by decide) (by rfl) tk (qa_cons (qe_var (pv 0)) (qa_cons (qe_var (pv 1)) qa_nil))))
  (qss_cons (qs_if (qt_cmp lift_cmp op_lt (qe_var (pv 1)) qe_int (nomark _))
  (qss_one (qs_set (i := 2) sc_fraction.nd rfl (.inl rfl) (qe_neg (qe_var (pv 2)))))
  qss_nil)
  (qss_one (qs_ret (qe_tup (qa_cons (qe_div (qe_var (pv 0)) (qe_var (pv 2))) (qa_cons (qe_div (qe_var (pv 1)) (qe_var (pv 2))) qa_nil))))))))
theorem df_fraction (C : C K mg) : DFn P w K mg base 2 "fraction" sp_fraction [] := by
  obtain ⟨fd, F⟩ := C.d_fraction
  obtain ⟨ds, v, b⟩ := F.binds1 (ps := ["top", "bottom"]) 2 1 (by decide) rfl fun _ _ _ _ _ _ _ us its hl hl2 => match us, hl, its, hl2 with | [_, _], _, [_], _ => ⟨_, rfl, rfl⟩
  exact dfnD (ok_fraction C F) C.m_fraction F.kp b v (fun Z => by simp [RVs, RV])
theorem sc_plus : FnScope ["one", "other"] ["one", "other"] (defScope s_plus) := ⟨rfl, rfl, rfl, by decide +kernel, rfl, by decide +kernel, by decide +kernel⟩
theorem ok_plus (C : C K mg) {fd : FuncData} (F : FunD K "plus" "plus" (defArgs s_plus) (defBody s_plus) (defScope s_plus) [] [] (He.fAd K ("plus", none)) fd) : FnOk P w K mg base (CX P w) 3 (He.fAd K ("plus", none)) fd ["one", "other"] (liftSp K sp_plus) := by
  have F_fraction := @df_fraction P w K mg base C
  refine DL.fn_ok (t := t_plus) F sc_plus (fun ds A Q E h => len_plus h) (fun cdv A outer s H E Z0 wd hr tk => ?_) (fun ds A Q E h => rd_plus h)
  have hu := uA hr
  have hu65 := uC hr
  have hu64 := uB hr
  exact (qss_one (qs_ret (qe_call F_fraction hr (by decide) (by rfl) tk (qa_cons (qe_add mkF_ok (qe_mul (qe_ix hu (qe_var (pv 0)) qe_int (fun _ _ => rfl)) (qe_ix hu (qe_var (pv 1)) qe_int (fun _ _ => rfl))) (qe_mul (qe_ix hu (qe_var (pv 1)) qe_int (fun _ _ => rfl)) (qe_ix hu (qe_var (pv 0)) qe_int (fun _ _ => rfl)))) (qa_cons (qe_mul (qe_ix hu (qe_var (pv 0)) qe_int (fun _ _ => rfl)) (qe_ix hu (qe_var (pv 1)) qe_int (fun _ _ => rfl))) qa_nil)))))
theorem df_plus (C : C K mg) : DFn P w K mg base 3 "plus" sp_plus [] := by
  obtain ⟨fd, F⟩ := C.d_plus
  exact dfn (ok_plus C F) C.m_plus F.kp (F.bindsN fun _ _ _ _ _ _ us hl => match us, hl with | [_, _], _ => rfl)
theorem sc_minus : FnScope ["one", "other"] ["one", "other"] (defScope s_minus) := ⟨rfl, rfl, rfl, by decide +kernel, rfl, by decide +kernel, by decide +kernel⟩
theorem ok_minus (C : C K mg) {fd : FuncData} (F : FunD K "minus" "minus" (defArgs s_minus) (defBody s_minus) (defScope s_minus) [] [] (He.fAd K ("minus", none)) fd) : FnOk P w K mg base (CX P w) 3 (He.fAd K ("minus", none)) fd ["one", "other"] (liftSp K sp_minus) := by
  have F_fraction := @df_fraction P w K mg base C
  refine DL.fn_ok (t := t_minus) F sc_minus (fun ds A Q E h => len_minus h) (fun cdv A outer s H E Z0 wd hr tk => ?_) (fun ds A Q E h => rd_minus h)
  have hu := uA hr
  have hu65 := uC hr
  have hu64 := uB hr
  exact (qss_one (qs_ret (qe_call F_fraction hr (by decide) (by rfl) tk (qa_cons (qe_sub (qe_mul (qe_ix hu (qe_var (pv 0)) qe_int (fun _ _ => rfl)) (qe_ix hu (qe_var (pv 1)) qe_int (fun _ _ => rfl))) (qe_mul (qe_ix hu (qe_var (pv 1)) qe_int (fun _ _ => rfl)) (qe_ix hu (qe_var (pv 0)) qe_int (fun _ _ => rfl)))) (qa_cons (qe_mul (qe_ix hu (qe_var (pv 0)) qe_int (fun _ _ => rfl)) (qe_ix hu (qe_var (pv 1)) qe_int (fun _ _ => rfl))) qa_nil)))))
theorem df_minus (C : C K mg) : DFn P w K mg base 3 "minus" sp_minus [] := by
  obtain ⟨fd, F⟩ := C.d_minus
  exact dfn (ok_minus C F) C.m_minus F.kp (F.bindsN fun _ _ _ _ _ _ us hl => match us, hl with | [_, _], _ => rfl)
theorem sc_under : FnScope ["one", "other"] ["one", "other"] (defScope s_under) := ⟨rfl, rfl, rfl, by decide +kernel, rfl, by decide +kernel, by decide +kernel⟩
theorem ok_under (C : C K mg) {fd : FuncData} (F : FunD K "under" "under" (defArgs s_under) (defBody s_under) (defScope s_under) [] [] (He.fAd K ("under", none)) fd) : FnOk P w K mg base (CX P w) 1 (He.fAd K ("under", none)) fd ["one", "other"] (liftSp K sp_under) := by
  refine DL.fn_ok (t := t_under) F sc_under (fun ds A Q E h => len_under h) (fun cdv A outer s H E Z0 wd hr tk => ?_) (fun ds A Q E h => rd_under h)
  have hu := uA hr
  have hu65 := uC hr
  have hu64 := uB hr
  exact (qss_one (qs_ret (qe_cmp lift_cmp op_lt (qe_mul (qe_ix hu (qe_var (pv 0)) qe_int (fun _ _ => rfl)) (qe_ix hu (qe_var (pv 1)) qe_int (fun _ _ => rfl))) (qe_mul (qe_ix hu (qe_var (pv 1)) qe_int (fun _ _ => rfl)) (qe_ix hu (qe_var (pv 0)) qe_int (fun _ _ => rfl))) (nomark _))))
theorem df_under (C : C K mg) : DFn P w K mg base 1 "under" sp_under [] := by
  obtain ⟨fd, F⟩ := C.d_under
  exact dfn (ok_under C F) C.m_under F.kp (F.bindsN fun _ _ _ _ _ _ us hl => match us, hl with | [_, _], _ => rfl)
theorem sc_is_whole : FnScope ["thing"] ["thing"] (defScope s_is_whole) := ⟨rfl, rfl, rfl, by decide +kernel, rfl, by decide +kernel, by decide +kernel⟩
theorem ok_is_whole (C : C K mg) {fd : FuncData} (F : FunD K "is_whole" "is_whole" (defArgs s_is_whole) (defBody s_is_whole) (defScope s_is_whole) [] [] (He.fAd K ("is_whole", none)) fd) : FnOk P w K mg base (CX P w) 1 (He.fAd K ("is_whole", none)) fd ["thing"] (liftSp K sp_is_whole) := by
  refine DL.fn_ok (t := t_is_whole) F sc_is_whole (fun ds A Q E h => len_is_whole h) (fun cdv A outer s H E Z0 wd hr tk => ?_) (fun ds A Q E h => rd_is_whole h)
  have hu := uA hr
  have hu65 := uC hr
  have hu64 := uB hr
  exact (qss_one (qs_ret (qe_and (qe_isi (T := "int") (by decide) (by rfl) C.n_isinstance (by rfl) C.n_int (by decide +kernel) (by decide) (by decide) (qe_var (pv 0))) (qe_one (qe_not (qe_isi (T := "bool") (by decide) (by rfl) C.n_isinstance (by rfl) C.n_bool (by decide +kernel) (by decide) (by decide) (qe_var (pv 0))))))))
theorem df_is_whole (C : C K mg) : DFn P w K mg base 1 "is_whole" sp_is_whole [] := by
  obtain ⟨fd, F⟩ := C.d_is_whole
  exact dfn (ok_is_whole C F) C.m_is_whole F.kp (F.bindsN fun _ _ _ _ _ _ us hl => match us, hl with | [_], _ => rfl)
theorem sc_is_name : FnScope ["thing", "sign"] ["thing"] (defScope s_is_name) := ⟨rfl, rfl, rfl, by decide +kernel, rfl, by decide +kernel, by decide +kernel⟩
theorem ok_is_name (C : C K mg) {fd : FuncData} (F : FunD K "is_name" "is_name" (defArgs s_is_name) (defBody s_is_name) (defScope s_is_name) [] [] (He.fAd K ("is_name", none)) fd) : FnOk P w K mg base (CX P w) 1 (He.fAd K ("is_name", none)) fd ["thing"] (liftSp K sp_is_name) := by
  refine DL.fn_ok (t := t_is_name) F sc_is_name (fun ds A Q E h => len_is_name h) (fun cdv A outer s H E Z0 wd hr tk => ?_) (fun ds A Q E h => rd_is_name h)
  have hu := uA hr
  have hu65 := uC hr
  have hu64 := uB hr
  exact (qss_cons (qs_if (qt_w (qw_or (qt_not (qt_val (qe_isi (T := "str") (by decide) (by rfl) C.n_isinstance (by rfl) C.n_str (by decide +kernel) (by decide) (by decide) (qe_var (pv 0))))) (qw_or (qt_cmp lift_cmp op_lt (qe_callB lift_len call_lenAll (by rfl) C.n_len (by decide +kernel) (qa_cons (qe_var (pv 0)) qa_nil)) qe_int (nomark _)) (qw_or1 (qt_cmp lift_cmp op_gt (qe_callB lift_len call_lenAll (by rfl) C.n_len (by decide +kernel) (qa_cons (qe_var (pv 0)) qa_nil)) qe_int (nomark _))))))
  (qss_one (qs_ret qe_bl))
  qss_nil)
  (qss_cons (qs_for (passes_of rfl) rfl (qi_str (qe_var (pv 0))) (qg_name (i := 1) sc_is_name.nd rfl (.inl rfl))
  (qss_one (qs_if (qt_cmp lift_notin (op_notInAll hu65) (qe_var (pv 1)) (qe_gstr (C.s_LETTERS) (by rfl)) (by rfl))
  (qss_one (qs_ret qe_bl))
  qss_nil)))
  (qss_one (qs_ret qe_bl))))
theorem df_is_name (C : C K mg) : DFn P w K mg base 1 "is_name" sp_is_name [] := by
  obtain ⟨fd, F⟩ := C.d_is_name
  exact dfn (ok_is_name C F) C.m_is_name F.kp (F.bindsN fun _ _ _ _ _ _ us hl => match us, hl with | [_], _ => rfl)
theorem sc_is_fraction : FnScope ["thing"] ["thing"] (defScope s_is_fraction) := ⟨rfl, rfl, rfl, by decide +kernel, rfl, by decide +kernel, by decide +kernel⟩
theorem ok_is_fraction (C : C K mg) {fd : FuncData} (F : FunD K "is_fraction" "is_fraction" (defArgs s_is_fraction) (defBody s_is_fraction) (defScope s_is_fraction) [] [] (He.fAd K ("is_fraction", none)) fd) : FnOk P w K mg base (CX P w) 2 (He.fAd K ("is_fraction", none)) fd ["thing"] (liftSp K sp_is_fraction) := by
  have F_divisor := @df_divisor P w K mg base C
  have F_is_whole := @df_is_whole P w K mg base C
  refine DL.fn_ok (t := t_is_fraction) F sc_is_fraction (fun ds A Q E h => len_is_fraction h) (fun cdv A outer s H E Z0 wd hr tk => ?_) (fun ds A Q E h => rd_is_fraction h)
  have hu := uA hr
  have hu65 := uC hr
  have hu64 := uB hr
  exact (qss_cons (qs_if (qt_w (qw_or (qt_not (qt_val (qe_isi (T := "tuple") (by decide) (by rfl) C.n_isinstance (by rfl) C.n_tuple (by decide +kernel) (by decide) (by decide) (qe_var (pv 0))))) (qw_or1 (qt_cmp lift_ne (op_neD hu64) (qe_callB lift_len call_lenAll (by rfl) C.n_len (by decide +kernel) (qa_cons (qe_var (pv 0)) qa_nil)) qe_int (nomark _)))))
  (qss_one (qs_ret qe_bl))
  qss_nil)
  (qss_cons (qs_if (qt_w (qw_or (qt_not (qt_val (qe_call F_is_whole hr (by decide) (by rfl) tk (qa_cons (qe_ix hu (qe_var (pv 0)) qe_int (fun _ _ => rfl)) qa_nil)))) (qw_or (qt_not (qt_val (qe_call F_is_whole hr (by decide) (by rfl) tk (qa_cons (qe_ix hu (qe_var (pv 0)) qe_int (fun _ _ => rfl)) qa_nil)))) (qw_or1 (qt_cmp lift_cmp op_lt (qe_ix hu (qe_var (pv 0)) qe_int (fun _ _ => rfl)) qe_int (nomark _))))))
  (qss_one (qs_ret qe_bl))
  qss_nil)
  (qss_one (qs_ret (qe_cmp lift_eq (op_eqD hu64) (qe_call F_divisor hr (by decide) (by rfl) tk (qa_cons (qe_ix hu (qe_var (pv 0)) qe_int (fun _ _ => rfl)) (qa_cons (qe_ix hu (qe_var (pv 0)) qe_int (fun _ _ => rfl)) qa_nil))) qe_int (nomark _))))))
theorem df_is_fraction (C : C K mg) : DFn P w K mg base 2 "is_fraction" sp_is_fraction [] := by
  obtain ⟨fd, F⟩ := C.d_is_fraction
  exact dfn (ok_is_fraction C F) C.m_is_fraction F.kp (F.bindsN fun _ _ _ _ _ _ us hl => match us, hl with | [_], _ => rfl)
theorem sc_Tie___init__ : FnScope ["self", "name", "start", "end"] ["self", "name", "start", "end"] (defScope s_Tie___init__) := ⟨rfl, rfl, rfl, by decide +kernel, rfl, by decide +kernel, by decide +kernel⟩
theorem ok_Tie___init__ (C : C K mg) {fd : FuncData} (F : FunD K "__init__" "Tie.__init__" (defArgs s_Tie___init__) (defBody s_Tie___init__) (defScope s_Tie___init__) [] [] (He.fAd K ("Tie", some "__init__")) fd) : FnOk P w K mg base (CX P w) 1 (He.fAd K ("Tie", some "__init__")) fd ["self", "name", "start", "end"] (liftSp K sp_Tie___init__) := by
  refine DL.fn_ok (t := t_Tie___init__) F sc_Tie___init__ (fun ds A Q E h => len_Tie___init__ h) (fun cdv A outer s H E Z0 wd hr tk => ?_) (fun ds A Q E h => rd_Tie___init__ h)
  have hu := uA hr
  have hu65 := uC hr
  have hu64 := uB hr
  exact (qss_cons (qs_fld C.f_name (qe_var (pv 0)) (qe_var (pv 1)) (by rfl))
  (qss_cons (qs_fld C.f_start (qe_var (pv 0)) (qe_var (pv 2)) (by rfl))
  (qss_one (qs_fld C.f_end (qe_var (pv 0)) (qe_var (pv 3)) (by rfl)))))
theorem mkc_Free (C : C K mg) : DMake P w K mg base 1 "Free" sp_Tie___init__ := by
  obtain ⟨fd, F⟩ := C.d_Tie___init__
  exact ⟨⟨_, fd, ["self", "name", "start", "end"], C.mk_Free, ok_Tie___init__ C F, C.g_Free, (F.bindsN fun _ _ _ _ _ _ us hl => match us, hl with | [_, _, _, _], _ => rfl)⟩⟩
theorem dcl_Tie___init__ (C : C K mg) : DCls P w K mg base 1 "Tie" "__init__" sp_Tie___init__ := by
  obtain ⟨fd, F⟩ := C.d_Tie___init__
  obtain ⟨h1, h2, h3⟩ := fxCM_ok C.cm_Tie___init__
  exact ⟨⟨_, fd, ["self", "name", "start", "end"], h1, h2, h3, C.g_Tie, ok_Tie___init__ C F, (F.bindsN fun _ _ _ _ _ _ us hl => match us, hl with | [_, _, _, _], _ => rfl)⟩⟩
theorem sc_Tie_low : FnScope ["self"] ["self"] (defScope s_Tie_low) := ⟨rfl, rfl, rfl, by decide +kernel, rfl, by decide +kernel, by decide +kernel⟩
theorem ok_Tie_low (C : C K mg) {fd : FuncData} (F : FunD K "low" "Tie.low" (defArgs s_Tie_low) (defBody s_Tie_low) (defScope s_Tie_low) [] [] (He.fAd K ("Tie", some "low")) fd) : FnOk P w K mg base (CX P w) 1 (He.fAd K ("Tie", some "low")) fd ["self"] (liftSp K sp_Tie_low) := by
  refine DL.fn_ok (t := t_Tie_low) F sc_Tie_low (fun ds A Q E h => len_Tie_low h) (fun cdv A outer s H E Z0 wd hr tk => ?_) (fun ds A Q E h => rd_Tie_low h)
  have hu := uA hr
  have hu65 := uC hr
  have hu64 := uB hr
  exact (qss_one (qs_ret qe_non))
theorem sc_Tie_high : FnScope ["self"] ["self"] (defScope s_Tie_high) := ⟨rfl, rfl, rfl, by decide +kernel, rfl, by decide +kernel, by decide +kernel⟩
theorem ok_Tie_high (C : C K mg) {fd : FuncData} (F : FunD K "high" "Tie.high" (defArgs s_Tie_high) (defBody s_Tie_high) (defScope s_Tie_high) [] [] (He.fAd K ("Tie", some "high")) fd) : FnOk P w K mg base (CX P w) 1 (He.fAd K ("Tie", some "high")) fd ["self"] (liftSp K sp_Tie_high) := by
  refine DL.fn_ok (t := t_Tie_high) F sc_Tie_high (fun ds A Q E h => len_Tie_high h) (fun cdv A outer s H E Z0 wd hr tk => ?_) (fun ds A Q E h => rd_Tie_high h)
  have hu := uA hr
  have hu65 := uC hr
  have hu64 := uB hr
  exact (qss_one (qs_ret qe_non))
theorem sc_AtMost_high : FnScope ["self"] ["self"] (defScope s_AtMost_high) := ⟨rfl, rfl, rfl, by decide +kernel, rfl, by decide +kernel, by decide +kernel⟩
theorem ok_AtMost_high (C : C K mg) {fd : FuncData} (F : FunD K "high" "AtMost.high" (defArgs s_AtMost_high) (defBody s_AtMost_high) (defScope s_AtMost_high) [] [] (He.fAd K ("AtMost", some "high")) fd) : FnOk P w K mg base (CX P w) 1 (He.fAd K ("AtMost", some "high")) fd ["self"] (liftSp K sp_AtMost_high) := by
  refine DL.fn_ok (t := t_AtMost_high) F sc_AtMost_high (fun ds A Q E h => len_AtMost_high h) (fun cdv A outer s H E Z0 wd hr tk => ?_) (fun ds A Q E h => rd_AtMost_high h)
  have hu := uA hr
  have hu65 := uC hr
  have hu64 := uB hr
  exact (qss_one (qs_ret (qe_fld C.f_greatest (qe_var (pv 0)) (by rfl))))
theorem sc_Between_high : FnScope ["self"] ["self"] (defScope s_Between_high) := ⟨rfl, rfl, rfl, by decide +kernel, rfl, by decide +kernel, by decide +kernel⟩
theorem ok_Between_high (C : C K mg) {fd : FuncData} (F : FunD K "high" "Between.high" (defArgs s_Between_high) (defBody s_Between_high) (defScope s_Between_high) [] [] (He.fAd K ("Between", some "high")) fd) : FnOk P w K mg base (CX P w) 1 (He.fAd K ("Between", some "high")) fd ["self"] (liftSp K sp_Between_high) := by
  refine DL.fn_ok (t := t_Between_high) F sc_Between_high (fun ds A Q E h => len_Between_high h) (fun cdv A outer s H E Z0 wd hr tk => ?_) (fun ds A Q E h => rd_Between_high h)
  have hu := uA hr
  have hu65 := uC hr
  have hu64 := uB hr
  exact (qss_one (qs_ret (qe_fld C.f_greatest (qe_var (pv 0)) (by rfl))))
theorem sc_Just_high : FnScope ["self"] ["self"] (defScope s_Just_high) := ⟨rfl, rfl, rfl, by decide +kernel, rfl, by decide +kernel, by decide +kernel⟩
theorem ok_Just_high (C : C K mg) {fd : FuncData} (F : FunD K "high" "Just.high" (defArgs s_Just_high) (defBody s_Just_high) (defScope s_Just_high) [] [] (He.fAd K ("Just", some "high")) fd) : FnOk P w K mg base (CX P w) 1 (He.fAd K ("Just", some "high")) fd ["self"] (liftSp K sp_Just_high) := by
  refine DL.fn_ok (t := t_Just_high) F sc_Just_high (fun ds A Q E h => len_Just_high h) (fun cdv A outer s H E Z0 wd hr tk => ?_) (fun ds A Q E h => rd_Just_high h)
  have hu := uA hr
  have hu65 := uC hr
  have hu64 := uB hr
  exact (qss_one (qs_ret (qe_fld C.f_size (qe_var (pv 0)) (by rfl))))
theorem dmt_high (C : C K mg) : ∀ p ∈ mt_high, DMeth P w K mg base 1 p.1 "high" p.2 := by
  exact (List.forall_mem_cons.mpr ⟨by
    obtain ⟨fd, F⟩ := C.d_Tie_high
    exact ⟨⟨_, fd, ["self"], C.me_AtLeast_high.1, C.me_AtLeast_high.2, fnok_mono (ok_Tie_high C F) (by decide), F.bindsN fun _ _ _ _ _ _ us hl => match us, hl with | [_], _ => rfl⟩⟩, (List.forall_mem_cons.mpr ⟨by
    obtain ⟨fd, F⟩ := C.d_AtMost_high
    exact ⟨⟨_, fd, ["self"], C.me_AtMost_high.1, C.me_AtMost_high.2, fnok_mono (ok_AtMost_high C F) (by decide), F.bindsN fun _ _ _ _ _ _ us hl => match us, hl with | [_], _ => rfl⟩⟩, (List.forall_mem_cons.mpr ⟨by
    obtain ⟨fd, F⟩ := C.d_Between_high
    exact ⟨⟨_, fd, ["self"], C.me_Between_high.1, C.me_Between_high.2, fnok_mono (ok_Between_high C F) (by decide), F.bindsN fun _ _ _ _ _ _ us hl => match us, hl with | [_], _ => rfl⟩⟩, (List.forall_mem_cons.mpr ⟨by
    obtain ⟨fd, F⟩ := C.d_Tie_high
    exact ⟨⟨_, fd, ["self"], C.me_Free_high.1, C.me_Free_high.2, fnok_mono (ok_Tie_high C F) (by decide), F.bindsN fun _ _ _ _ _ _ us hl => match us, hl with | [_], _ => rfl⟩⟩, (List.forall_mem_cons.mpr ⟨by
    obtain ⟨fd, F⟩ := C.d_Just_high
    exact ⟨⟨_, fd, ["self"], C.me_Just_high.1, C.me_Just_high.2, fnok_mono (ok_Just_high C F) (by decide), F.bindsN fun _ _ _ _ _ _ us hl => match us, hl with | [_], _ => rfl⟩⟩, (fun _ h => nomatch h)⟩)⟩)⟩)⟩)⟩)
theorem sc_AtLeast_low : FnScope ["self"] ["self"] (defScope s_AtLeast_low) := ⟨rfl, rfl, rfl, by decide +kernel, rfl, by decide +kernel, by decide +kernel⟩
theorem ok_AtLeast_low (C : C K mg) {fd : FuncData} (F : FunD K "low" "AtLeast.low" (defArgs s_AtLeast_low) (defBody s_AtLeast_low) (defScope s_AtLeast_low) [] [] (He.fAd K ("AtLeast", some "low")) fd) : FnOk P w K mg base (CX P w) 1 (He.fAd K ("AtLeast", some "low")) fd ["self"] (liftSp K sp_AtLeast_low) := by
  refine DL.fn_ok (t := t_AtLeast_low) F sc_AtLeast_low (fun ds A Q E h => len_AtLeast_low h) (fun cdv A outer s H E Z0 wd hr tk => ?_) (fun ds A Q E h => rd_AtLeast_low h)
  have hu := uA hr
  have hu65 := uC hr
  have hu64 := uB hr
  exact (qss_one (qs_ret (qe_fld C.f_least (qe_var (pv 0)) (by rfl))))
theorem sc_Between_low : FnScope ["self"] ["self"] (defScope s_Between_low) := ⟨rfl, rfl, rfl, by decide +kernel, rfl, by decide +kernel, by decide +kernel⟩
theorem ok_Between_low (C : C K mg) {fd : FuncData} (F : FunD K "low" "Between.low" (defArgs s_Between_low) (defBody s_Between_low) (defScope s_Between_low) [] [] (He.fAd K ("Between", some "low")) fd) : FnOk P w K mg base (CX P w) 1 (He.fAd K ("Between", some "low")) fd ["self"] (liftSp K sp_Between_low) := by
  refine DL.fn_ok (t := t_Between_low) F sc_Between_low (fun ds A Q E h => len_Between_low h) (fun cdv A outer s H E Z0 wd hr tk => ?_) (fun ds A Q E h => rd_Between_low h)
  have hu := uA hr
  have hu65 := uC hr
  have hu64 := uB hr
  exact (qss_one (qs_ret (qe_fld C.f_least (qe_var (pv 0)) (by rfl))))
theorem sc_Just_low : FnScope ["self"] ["self"] (defScope s_Just_low) := ⟨rfl, rfl, rfl, by decide +kernel, rfl, by decide +kernel, by decide +kernel⟩
theorem ok_Just_low (C : C K mg) {fd : FuncData} (F : FunD K "low" "Just.low" (defArgs s_Just_low) (defBody s_Just_low) (defScope s_Just_low) [] [] (He.fAd K ("Just", some "low")) fd) : FnOk P w K mg base (CX P w) 1 (He.fAd K ("Just", some "low")) fd ["self"] (liftSp K sp_Just_low) := by
  refine DL.fn_ok (t := t_Just_low) F sc_Just_low (fun ds A Q E h => len_Just_low h) (fun cdv A outer s H E Z0 wd hr tk => ?_) (fun ds A Q E h => rd_Just_low h)
  have hu := uA hr
  have hu65 := uC hr
  have hu64 := uB hr
  exact (qss_one (qs_ret (qe_fld C.f_size (qe_var (pv 0)) (by rfl))))
theorem dmt_low (C : C K mg) : ∀ p ∈ mt_low, DMeth P w K mg base 1 p.1 "low" p.2 := by
  exact (List.forall_mem_cons.mpr ⟨by
    obtain ⟨fd, F⟩ := C.d_AtLeast_low
    exact ⟨⟨_, fd, ["self"], C.me_AtLeast_low.1, C.me_AtLeast_low.2, fnok_mono (ok_AtLeast_low C F) (by decide), F.bindsN fun _ _ _ _ _ _ us hl => match us, hl with | [_], _ => rfl⟩⟩, (List.forall_mem_cons.mpr ⟨by
    obtain ⟨fd, F⟩ := C.d_Tie_low
    exact ⟨⟨_, fd, ["self"], C.me_AtMost_low.1, C.me_AtMost_low.2, fnok_mono (ok_Tie_low C F) (by decide), F.bindsN fun _ _ _ _ _ _ us hl => match us, hl with | [_], _ => rfl⟩⟩, (List.forall_mem_cons.mpr ⟨by
    obtain ⟨fd, F⟩ := C.d_Between_low
    exact ⟨⟨_, fd, ["self"], C.me_Between_low.1, C.me_Between_low.2, fnok_mono (ok_Between_low C F) (by decide), F.bindsN fun _ _ _ _ _ _ us hl => match us, hl with | [_], _ => rfl⟩⟩, (List.forall_mem_cons.mpr ⟨by
    obtain ⟨fd, F⟩ := C.d_Tie_low
    exact ⟨⟨_, fd, ["self"], C.me_Free_low.1, C.me_Free_low.2, fnok_mono (ok_Tie_low C F) (by decide), F.bindsN fun _ _ _ _ _ _ us hl => match us, hl with | [_], _ => rfl⟩⟩, (List.forall_mem_cons.mpr ⟨by
    obtain ⟨fd, F⟩ := C.d_Just_low
    exact ⟨⟨_, fd, ["self"], C.me_Just_low.1, C.me_Just_low.2, fnok_mono (ok_Just_low C F) (by decide), F.bindsN fun _ _ _ _ _ _ us hl => match us, hl with | [_], _ => rfl⟩⟩, (fun _ h => nomatch h)⟩)⟩)⟩)⟩)⟩)
theorem sc_Tie_steps : FnScope ["self", "steps"] ["self"] (defScope s_Tie_steps) := ⟨rfl, rfl, rfl, by decide +kernel, rfl, by decide +kernel, by decide +kernel⟩
theorem ok_Tie_steps (C : C K mg) {fd : FuncData} (F : FunD K "steps" "Tie.steps" (defArgs s_Tie_steps) (defBody s_Tie_steps) (defScope s_Tie_steps) [] [] (He.fAd K ("Tie", some "steps")) fd) : FnOk P w K mg base (CX P w) 4 (He.fAd K ("Tie", some "steps")) fd ["self"] (liftSp K sp_Tie_steps) := by
  have F_minus := @df_minus P w K mg base C
  have MT_high := @dmt_high P w K mg base C
  have MT_low := @dmt_low P w K mg base C
  refine DL.fn_ok (t := t_Tie_steps) F sc_Tie_steps (fun ds A Q E h => len_Tie_steps h) (fun cdv A outer s H E Z0 wd hr tk => ?_) (fun ds A Q E h => rd_Tie_steps h)
  have hu := uA hr
  have hu65 := uC hr
  have hu64 := uB hr
  exact (qss_cons (qs_set (i := 1) sc_Tie_steps.nd rfl (.inl rfl) (qe_lst mkO_ok qa_nil))
  (qss_cons (qs_if (qt_cmp lift_isnot op_isnotAll (qe_mth0 (m := "high") MT_high hr (by decide) tk (qe_var (pv 0))) qe_non (nomark _))
  (qss_one (qs_expr (qe_bm lift_app PySem.F.plainAttrs_list PySem.F.slot_list_append PySem.F.type_list_append mt_append (qe_var (pv 1)) (qa_cons (qe_tup (qa_cons (qe_fld C.f_start (qe_var (pv 0)) (by rfl)) (qa_cons (qe_fld C.f_end (qe_var (pv 0)) (by rfl)) (qa_cons (qe_mth0 (m := "high") MT_high hr (by decide) tk (qe_var (pv 0))) (qa_cons qe_bl qa_nil))))) qa_nil))))
  qss_nil)
  (qss_cons (qs_if (qt_cmp lift_isnot op_isnotAll (qe_mth0 (m := "low") MT_low hr (by decide) tk (qe_var (pv 0))) qe_non (nomark _))
  (qss_one (qs_expr (qe_bm lift_app PySem.F.plainAttrs_list PySem.F.slot_list_append PySem.F.type_list_append mt_append (qe_var (pv 1)) (qa_cons (qe_tup (qa_cons (qe_fld C.f_end (qe_var (pv 0)) (by rfl)) (qa_cons (qe_fld C.f_start (qe_var (pv 0)) (by rfl)) (qa_cons (qe_call F_minus hr (by decide) (by rfl) tk (qa_cons (qe_tup (qa_cons qe_int (qa_cons qe_int qa_nil))) (qa_cons (qe_mth0 (m := "low") MT_low hr (by decide) tk (qe_var (pv 0))) qa_nil))) (qa_cons qe_bl qa_nil))))) qa_nil))))
  qss_nil)
  (qss_one (qs_ret (qe_var (pv 1)))))))
theorem dmt_steps (C : C K mg) : ∀ p ∈ mt_steps, DMeth P w K mg base 4 p.1 "steps" p.2 := by
  exact (List.forall_mem_cons.mpr ⟨by
    obtain ⟨fd, F⟩ := C.d_Tie_steps
    exact ⟨⟨_, fd, ["self"], C.me_AtLeast_steps.1, C.me_AtLeast_steps.2, fnok_mono (ok_Tie_steps C F) (by decide), F.bindsN fun _ _ _ _ _ _ us hl => match us, hl with | [_], _ => rfl⟩⟩, (List.forall_mem_cons.mpr ⟨by
    obtain ⟨fd, F⟩ := C.d_Tie_steps
    exact ⟨⟨_, fd, ["self"], C.me_AtMost_steps.1, C.me_AtMost_steps.2, fnok_mono (ok_Tie_steps C F) (by decide), F.bindsN fun _ _ _ _ _ _ us hl => match us, hl with | [_], _ => rfl⟩⟩, (List.forall_mem_cons.mpr ⟨by
    obtain ⟨fd, F⟩ := C.d_Tie_steps
    exact ⟨⟨_, fd, ["self"], C.me_Between_steps.1, C.me_Between_steps.2, fnok_mono (ok_Tie_steps C F) (by decide), F.bindsN fun _ _ _ _ _ _ us hl => match us, hl with | [_], _ => rfl⟩⟩, (List.forall_mem_cons.mpr ⟨by
    obtain ⟨fd, F⟩ := C.d_Tie_steps
    exact ⟨⟨_, fd, ["self"], C.me_Free_steps.1, C.me_Free_steps.2, fnok_mono (ok_Tie_steps C F) (by decide), F.bindsN fun _ _ _ _ _ _ us hl => match us, hl with | [_], _ => rfl⟩⟩, (List.forall_mem_cons.mpr ⟨by
    obtain ⟨fd, F⟩ := C.d_Tie_steps
    exact ⟨⟨_, fd, ["self"], C.me_Just_steps.1, C.me_Just_steps.2, fnok_mono (ok_Tie_steps C F) (by decide), F.bindsN fun _ _ _ _ _ _ us hl => match us, hl with | [_], _ => rfl⟩⟩, (fun _ h => nomatch h)⟩)⟩)⟩)⟩)⟩)
theorem sc_AtLeast___init__ : FnScope ["self", "name", "start", "end", "least"] ["self", "name", "start", "end", "least"] (defScope s_AtLeast___init__) := ⟨rfl, rfl, rfl, by decide +kernel, rfl, by decide +kernel, by decide +kernel⟩
theorem ok_AtLeast___init__ (C : C K mg) {fd : FuncData} (F : FunD K "__init__" "AtLeast.__init__" (defArgs s_AtLeast___init__) (defBody s_AtLeast___init__) (defScope s_AtLeast___init__) [] [] (He.fAd K ("AtLeast", some "__init__")) fd) : FnOk P w K mg base (CX P w) 2 (He.fAd K ("AtLeast", some "__init__")) fd ["self", "name", "start", "end", "least"] (liftSp K sp_AtLeast___init__) := by
  have D_Tie___init__ := @dcl_Tie___init__ P w K mg base C
  refine DL.fn_ok (t := t_AtLeast___init__) F sc_AtLeast___init__ (fun ds A Q E h => len_AtLeast___init__ h) (fun cdv A outer s H E Z0 wd hr tk => ?_) (fun ds A Q E h => rd_AtLeast___init__ h)
  have hu := uA hr
  have hu65 := uC hr
  have hu64 := uB hr
  exact (qss_cons (qs_expr (qe_cls (c := "Tie") (m := "__init__") D_Tie___init__ hr (by decide) (by rfl) tk (qa_cons (qe_var (pv 0)) (qa_cons (qe_var (pv 1)) (qa_cons (qe_var (pv 2)) (qa_cons (qe_var (pv 3)) qa_nil)))) (by decide)))
  (qss_one (qs_fld C.f_least (qe_var (pv 0)) (qe_var (pv 4)) (by rfl))))
theorem mkc_AtLeast (C : C K mg) : DMake P w K mg base 2 "AtLeast" sp_AtLeast___init__ := by
  obtain ⟨fd, F⟩ := C.d_AtLeast___init__
  exact ⟨⟨_, fd, ["self", "name", "start", "end", "least"], C.mk_AtLeast, ok_AtLeast___init__ C F, C.g_AtLeast, (F.bindsN fun _ _ _ _ _ _ us hl => match us, hl with | [_, _, _, _, _], _ => rfl)⟩⟩
theorem sc_AtMost___init__ : FnScope ["self", "name", "start", "end", "greatest"] ["self", "name", "start", "end", "greatest"] (defScope s_AtMost___init__) := ⟨rfl, rfl, rfl, by decide +kernel, rfl, by decide +kernel, by decide +kernel⟩
theorem ok_AtMost___init__ (C : C K mg) {fd : FuncData} (F : FunD K "__init__" "AtMost.__init__" (defArgs s_AtMost___init__) (defBody s_AtMost___init__) (defScope s_AtMost___init__) [] [] (He.fAd K ("AtMost", some "__init__")) fd) : FnOk P w K mg base (CX P w) 2 (He.fAd K ("AtMost", some "__init__")) fd ["self", "name", "start", "end", "greatest"] (liftSp K sp_AtMost___init__) := by
  have D_Tie___init__ := @dcl_Tie___init__ P w K mg base C
  refine DL.fn_ok (t := t_AtMost___init__) F sc_AtMost___init__ (fun ds A Q E h => len_AtMost___init__ h) (fun cdv A outer s H E Z0 wd hr tk => ?_) (fun ds A Q E h => rd_AtMost___init__ h)
  have hu := uA hr
  have hu65 := uC hr
  have hu64 := uB hr
  exact (qss_cons (qs_expr (qe_cls (c := "Tie") (m := "__init__") D_Tie___init__ hr (by decide) (by rfl) tk (qa_cons (qe_var (pv 0)) (qa_cons (qe_var (pv 1)) (qa_cons (qe_var (pv 2)) (qa_cons (qe_var (pv 3)) qa_nil)))) (by decide)))
  (qss_one (qs_fld C.f_greatest (qe_var (pv 0)) (qe_var (pv 4)) (by rfl))))
theorem mkc_AtMost (C : C K mg) : DMake P w K mg base 2 "AtMost" sp_AtMost___init__ := by
  obtain ⟨fd, F⟩ := C.d_AtMost___init__
  exact ⟨⟨_, fd, ["self", "name", "start", "end", "greatest"], C.mk_AtMost, ok_AtMost___init__ C F, C.g_AtMost, (F.bindsN fun _ _ _ _ _ _ us hl => match us, hl with | [_, _, _, _, _], _ => rfl)⟩⟩
theorem sc_Just___init__ : FnScope ["self", "name", "start", "end", "size"] ["self", "name", "start", "end", "size"] (defScope s_Just___init__) := ⟨rfl, rfl, rfl, by decide +kernel, rfl, by decide +kernel, by decide +kernel⟩
theorem ok_Just___init__ (C : C K mg) {fd : FuncData} (F : FunD K "__init__" "Just.__init__" (defArgs s_Just___init__) (defBody s_Just___init__) (defScope s_Just___init__) [] [] (He.fAd K ("Just", some "__init__")) fd) : FnOk P w K mg base (CX P w) 2 (He.fAd K ("Just", some "__init__")) fd ["self", "name", "start", "end", "size"] (liftSp K sp_Just___init__) := by
  have D_Tie___init__ := @dcl_Tie___init__ P w K mg base C
  refine DL.fn_ok (t := t_Just___init__) F sc_Just___init__ (fun ds A Q E h => len_Just___init__ h) (fun cdv A outer s H E Z0 wd hr tk => ?_) (fun ds A Q E h => rd_Just___init__ h)
  have hu := uA hr
  have hu65 := uC hr
  have hu64 := uB hr
  exact (qss_cons (qs_expr (qe_cls (c := "Tie") (m := "__init__") D_Tie___init__ hr (by decide) (by rfl) tk (qa_cons (qe_var (pv 0)) (qa_cons (qe_var (pv 1)) (qa_cons (qe_var (pv 2)) (qa_cons (qe_var (pv 3)) qa_nil)))) (by decide)))
  (qss_one (qs_fld C.f_size (qe_var (pv 0)) (qe_var (pv 4)) (by rfl))))
theorem mkc_Just (C : C K mg) : DMake P w K mg base 2 "Just" sp_Just___init__ := by
  obtain ⟨fd, F⟩ := C.d_Just___init__
  exact ⟨⟨_, fd, ["self", "name", "start", "end", "size"], C.mk_Just, ok_Just___init__ C F, C.g_Just, (F.bindsN fun _ _ _ _ _ _ us hl => match us, hl with | [_, _, _, _, _], _ => rfl)⟩⟩
theorem sc_Between___init__ : FnScope ["self", "name", "start", "end", "least", "greatest"] ["self", "name", "start", "end", "least", "greatest"] (defScope s_Between___init__) := ⟨rfl, rfl, rfl, by decide +kernel, rfl, by decide +kernel, by decide +kernel⟩
theorem ok_Between___init__ (C : C K mg) {fd : FuncData} (F : FunD K "__init__" "Between.__init__" (defArgs s_Between___init__) (defBody s_Between___init__) (defScope s_Between___init__) [] [] (He.fAd K ("Between", some "__init__")) fd) : FnOk P w K mg base (CX P w) 2 (He.fAd K ("Between", some "__init__")) fd ["self", "name", "start", "end", "least", "greatest"] (liftSp K sp_Between___init__) := by
  have D_Tie___init__ := @dcl_Tie___init__ P w K mg base C
  refine DL.fn_ok (t := t_Between___init__) F sc_Between___init__ (fun ds A Q E h => len_Between___init__ h) (fun cdv A outer s H E Z0 wd hr tk => ?_) (fun ds A Q E h => rd_Between___init__ h)
  have hu := uA hr
  have hu65 := uC hr
  have hu64 := uB hr
  exact (qss_cons (qs_expr (qe_cls (c := "Tie") (m := "__init__") D_Tie___init__ hr (by decide) (by rfl) tk (qa_cons (qe_var (pv 0)) (qa_cons (qe_var (pv 1)) (qa_cons (qe_var (pv 2)) (qa_cons (qe_var (pv 3)) qa_nil)))) (by decide)))
  (qss_cons (qs_fld C.f_least (qe_var (pv 0)) (qe_var (pv 4)) (by rfl))
  (qss_one (qs_fld C.f_greatest (qe_var (pv 0)) (qe_var (pv 5)) (by rfl)))))
theorem mkc_Between (C : C K mg) : DMake P w K mg base 2 "Between" sp_Between___init__ := by
  obtain ⟨fd, F⟩ := C.d_Between___init__
  exact ⟨⟨_, fd, ["self", "name", "start", "end", "least", "greatest"], C.mk_Between, ok_Between___init__ C F, C.g_Between, (F.bindsN fun _ _ _ _ _ _ us hl => match us, hl with | [_, _, _, _, _, _], _ => rfl)⟩⟩
theorem sc_check_tie : FnScope ["thing", "part"] ["thing"] (defScope s_check_tie) := ⟨rfl, rfl, rfl, by decide +kernel, rfl, by decide +kernel, by decide +kernel⟩
theorem ok_check_tie (C : C K mg) {fd : FuncData} (F : FunD K "check_tie" "check_tie" (defArgs s_check_tie) (defBody s_check_tie) (defScope s_check_tie) [] [] (He.fAd K ("check_tie", none)) fd) : FnOk P w K mg base (CX P w) 3 (He.fAd K ("check_tie", none)) fd ["thing"] (liftSp K sp_check_tie) := by
  have F_is_fraction := @df_is_fraction P w K mg base C
  have F_is_name := @df_is_name P w K mg base C
  have F_under := @df_under P w K mg base C
  refine DL.fn_ok (t := t_check_tie) F sc_check_tie (fun ds A Q E h => len_check_tie h) (fun cdv A outer s H E Z0 wd hr tk => ?_) (fun ds A Q E h => rd_check_tie h)
  have hu := uA hr
  have hu65 := uC hr
  have hu64 := uB hr
  exact (qss_cons (qs_if (qt_w (qw_or (qt_not (qt_val (qe_isi (T := "tuple") (by decide) (by rfl) C.n_isinstance (by rfl) C.n_tuple (by decide +kernel) (by decide) (by decide) (qe_var (pv 0))))) (qw_or1 (qt_cmp lift_ne (op_neD hu64) (qe_callB lift_len call_lenAll (by rfl) C.n_len (by decide +kernel) (qa_cons (qe_var (pv 0)) qa_nil)) qe_int (nomark _)))))
  (qss_one (qs_raiseC (c := "NoTie") C.x_NoTie C.g_NoTie rfl tk (by rfl) (by decide)))
  qss_nil)
  (qss_cons (qs_for (passes_of rfl) rfl (qi_seq (qe_sl mkF_ok (qe_var (pv 0)) qo_none (qo_some qe_int))) (qg_name (i := 1) sc_check_tie.nd rfl (.inl rfl))
  (qss_one (qs_if (qt_not (qt_val (qe_call F_is_name hr (by decide) (by rfl) tk (qa_cons (qe_var (pv 1)) qa_nil))))
  (qss_one (qs_raiseC (c := "NoTie") C.x_NoTie C.g_NoTie rfl tk (by rfl) (by decide)))
  qss_nil)))
  (qss_cons (qs_if (qt_cmp lift_eq (op_eqD hu64) (qe_ix hu (qe_var (pv 0)) qe_int (fun _ _ => rfl)) (qe_ix hu (qe_var (pv 0)) qe_int (fun _ _ => rfl)) (nomark _))
  (qss_one (qs_raiseC (c := "NoTie") C.x_NoTie C.g_NoTie rfl tk (by rfl) (by decide)))
  qss_nil)
  (qss_cons (qs_for (passes_of rfl) rfl (qi_seq (qe_sl mkF_ok (qe_var (pv 0)) (qo_some qe_int) qo_none)) (qg_name (i := 1) sc_check_tie.nd rfl (.inl rfl))
  (qss_one (qs_if (qt_w (qw_and (qt_cmp lift_isnot op_isnotAll (qe_var (pv 1)) qe_non (nomark _)) (qw_and1 (qt_not (qt_val (qe_call F_is_fraction hr (by decide) (by rfl) tk (qa_cons (qe_var (pv 1)) qa_nil)))))))
  (qss_one (qs_raiseC (c := "NoTie") C.x_NoTie C.g_NoTie rfl tk (by rfl) (by decide)))
  qss_nil)))
  (qss_one (qs_if (qt_w (qw_and (qt_cmp lift_isnot op_isnotAll (qe_ix hu (qe_var (pv 0)) qe_int (fun _ _ => rfl)) qe_non (nomark _)) (qw_and (qt_cmp lift_isnot op_isnotAll (qe_ix hu (qe_var (pv 0)) qe_int (fun _ _ => rfl)) qe_non (nomark _)) (qw_and1 (qt_val (qe_call F_under hr (by decide) (by rfl) tk (qa_cons (qe_ix hu (qe_var (pv 0)) qe_int (fun _ _ => rfl)) (qa_cons (qe_ix hu (qe_var (pv 0)) qe_int (fun _ _ => rfl)) qa_nil))))))))
  (qss_one (qs_raiseC (c := "NoTie") C.x_NoTie C.g_NoTie rfl tk (by rfl) (by decide)))
  qss_nil))))))
theorem df_check_tie (C : C K mg) : DFn P w K mg base 3 "check_tie" sp_check_tie [] := by
  obtain ⟨fd, F⟩ := C.d_check_tie
  exact dfn (ok_check_tie C F) C.m_check_tie F.kp (F.bindsN fun _ _ _ _ _ _ us hl => match us, hl with | [_], _ => rfl)
theorem sc_tie_of : FnScope ["thing", "name", "start", "end", "low", "high"] ["thing"] (defScope s_tie_of) := ⟨rfl, rfl, rfl, by decide +kernel, rfl, by decide +kernel, by decide +kernel⟩
theorem ok_tie_of (C : C K mg) {fd : FuncData} (F : FunD K "tie_of" "tie_of" (defArgs s_tie_of) (defBody s_tie_of) (defScope s_tie_of) [] [] (He.fAd K ("tie_of", none)) fd) : FnOk P w K mg base (CX P w) 5 (He.fAd K ("tie_of", none)) fd ["thing"] (liftSp K sp_tie_of) := by
  have F_check_tie := @df_check_tie P w K mg base C
  have M_AtLeast := @mkc_AtLeast P w K mg base C
  have M_AtMost := @mkc_AtMost P w K mg base C
  have M_Between := @mkc_Between P w K mg base C
  have M_Free := @mkc_Free P w K mg base C
  have M_Just := @mkc_Just P w K mg base C
  refine DL.fn_ok (t := t_tie_of) F sc_tie_of (fun ds A Q E h => len_tie_of h) (fun cdv A outer s H E Z0 wd hr tk => ?_) (fun ds A Q E h => rd_tie_of h)
  have hu := uA hr
  have hu65 := uC hr
  have hu64 := uB hr
  exact (qss_cons (qs_expr (qe_call F_check_tie hr (by decide) (by rfl) tk (qa_cons (qe_var (pv 0)) qa_nil)))
  (qss_cons (qs_asg (qe_var (pv 0)) (qg_tup rfl (qgs_cons (qg_name (i := 1) sc_tie_of.nd rfl (.inl rfl)) (qgs_cons (qg_name (i := 2) sc_tie_of.nd rfl (.inl rfl)) (qgs_cons (qg_name (i := 3) sc_tie_of.nd rfl (.inl rfl)) (qgs_cons (qg_name (i := 4) sc_tie_of.nd rfl (.inl rfl)) (qgs_cons (qg_name (i := 5) sc_tie_of.nd rfl (.inl rfl)) qgs_nil)))))))
  (qss_cons (qs_if (qt_w (qw_and (qt_cmp lift_is op_isAll (qe_var (pv 4)) qe_non (nomark _)) (qw_and1 (qt_cmp lift_is op_isAll (qe_var (pv 5)) qe_non (nomark _)))))
  (qss_one (qs_ret (qe_fz (qe_mk (c := "Free") M_Free hr (by decide) (by rfl) tk (qa_cons (qe_var (pv 1)) (qa_cons (qe_var (pv 2)) (qa_cons (qe_var (pv 3)) qa_nil))) (by decide)))))
  qss_nil)
  (qss_cons (qs_if (qt_cmp lift_is op_isAll (qe_var (pv 5)) qe_non (nomark _))
  (qss_one (qs_ret (qe_fz (qe_mk (c := "AtLeast") M_AtLeast hr (by decide) (by rfl) tk (qa_cons (qe_var (pv 1)) (qa_cons (qe_var (pv 2)) (qa_cons (qe_var (pv 3)) (qa_cons (qe_var (pv 4)) qa_nil)))) (by decide)))))
  qss_nil)
  (qss_cons (qs_if (qt_cmp lift_is op_isAll (qe_var (pv 4)) qe_non (nomark _))
  (qss_one (qs_ret (qe_fz (qe_mk (c := "AtMost") M_AtMost hr (by decide) (by rfl) tk (qa_cons (qe_var (pv 1)) (qa_cons (qe_var (pv 2)) (qa_cons (qe_var (pv 3)) (qa_cons (qe_var (pv 5)) qa_nil)))) (by decide)))))
  qss_nil)
  (qss_cons (qs_if (qt_cmp lift_eq (op_eqD hu64) (qe_var (pv 4)) (qe_var (pv 5)) (nomark _))
  (qss_one (qs_ret (qe_fz (qe_mk (c := "Just") M_Just hr (by decide) (by rfl) tk (qa_cons (qe_var (pv 1)) (qa_cons (qe_var (pv 2)) (qa_cons (qe_var (pv 3)) (qa_cons (qe_var (pv 4)) qa_nil)))) (by decide)))))
  qss_nil)
  (qss_one (qs_ret (qe_fz (qe_mk (c := "Between") M_Between hr (by decide) (by rfl) tk (qa_cons (qe_var (pv 1)) (qa_cons (qe_var (pv 2)) (qa_cons (qe_var (pv 3)) (qa_cons (qe_var (pv 4)) (qa_cons (qe_var (pv 5)) qa_nil))))) (by decide)))))))))))
theorem df_tie_of (C : C K mg) : DFn P w K mg base 5 "tie_of" sp_tie_of [] := by
  obtain ⟨fd, F⟩ := C.d_tie_of
  exact dfn (ok_tie_of C F) C.m_tie_of F.kp (F.bindsN fun _ _ _ _ _ _ us hl => match us, hl with | [_], _ => rfl)
theorem sc_all_steps : FnScope ["ties", "steps", "plain", "start", "end", "cost", "forward"] ["ties"] (defScope s_all_steps) := ⟨rfl, rfl, rfl, by decide +kernel, rfl, by decide +kernel, by decide +kernel⟩
theorem ok_all_steps (C : C K mg) {fd : FuncData} (F : FunD K "all_steps" "all_steps" (defArgs s_all_steps) (defBody s_all_steps) (defScope s_all_steps) [] [] (He.fAd K ("all_steps", none)) fd) : FnOk P w K mg base (CX P w) 6 (He.fAd K ("all_steps", none)) fd ["ties"] (liftSp K sp_all_steps) := by
  have F_tie_of := @df_tie_of P w K mg base C
  have MT_steps := @dmt_steps P w K mg base C
  refine TF.fn_okX (t := t_all_steps) F sc_all_steps (fun ds A Q E h => len_all_steps h) (fun cdv A outer s H E Z0 wd hr tk => ?_) (fun ds A Q E h => rd_all_steps h)
  have hu := uA hr
  have hu65 := uC hr
  have hu64 := uB hr
  exact (qss_cons (qs_set (i := 1) sc_all_steps.nd rfl (.inl rfl) (qe_lst mkO_ok qa_nil))
  (qss_cons (qs_for (passes_of rfl) rfl (qi_seq (qe_var (pv 0))) (qg_name (i := 2) sc_all_steps.nd rfl (.inl rfl))
  (qss_one (qs_for (passes_of rfl) rfl (qi_seq (qe_fz (qe_mth0 (m := "steps") MT_steps hr (by decide) tk (qe_call F_tie_of hr (by decide) (by rfl) tk (qa_cons (qe_var (pv 2)) qa_nil))))) (qg_tup rfl (qgs_cons (qg_name (i := 3) sc_all_steps.nd rfl (.inl rfl)) (qgs_cons (qg_name (i := 4) sc_all_steps.nd rfl (.inl rfl)) (qgs_cons (qg_name (i := 5) sc_all_steps.nd rfl (.inl rfl)) (qgs_cons (qg_name (i := 6) sc_all_steps.nd rfl (.inl rfl)) qgs_nil)))))
  (qss_one (qs_expr (qe_bm lift_app PySem.F.plainAttrs_list PySem.F.slot_list_append PySem.F.type_list_append mt_append (qe_var (pv 1)) (qa_cons (qe_tup (qa_cons (qe_var (pv 3)) (qa_cons (qe_var (pv 4)) (qa_cons (qe_var (pv 5)) (qa_cons (qe_tup (qa_cons (qe_ix hu (qe_var (pv 2)) qe_int (fun _ _ => rfl)) (qa_cons (qe_var (pv 6)) qa_nil))) qa_nil))))) qa_nil)))))))
  (qss_fz (i := 1)
  (qss_one (qs_ret (qe_var (pv 1)))))))
theorem df_all_steps (C : C K mg) : DFn P w K mg base 6 "all_steps" sp_all_steps [] := by
  obtain ⟨fd, F⟩ := C.d_all_steps
  exact dfn (ok_all_steps C F) C.m_all_steps F.kp (F.bindsN fun _ _ _ _ _ _ us hl => match us, hl with | [_], _ => rfl)
theorem sc_one_round : FnScope ["steps", "sums", "ways", "last", "start", "end", "cost", "pair", "total"] ["steps", "sums", "ways"] (defScope s_one_round) := ⟨rfl, rfl, rfl, by decide +kernel, rfl, by decide +kernel, by decide +kernel⟩
theorem ok_one_round (C : C K mg) {fd : FuncData} (F : FunD K "one_round" "one_round" (defArgs s_one_round) (defBody s_one_round) (defScope s_one_round) [] [] (He.fAd K ("one_round", none)) fd) : FnOk P w K mg base (CX P w) 4 (He.fAd K ("one_round", none)) fd ["steps", "sums", "ways"] (liftSp K sp_one_round) := by
  have F_plus := @df_plus P w K mg base C
  have F_under := @df_under P w K mg base C
  refine TF.fn_okX (t := t_one_round) F sc_one_round (fun ds A Q E h => len_one_round h) (fun cdv A outer s H E Z0 wd hr tk => ?_) (fun ds A Q E h => rd_one_round h)
  have hu := uA hr
  have hu65 := uC hr
  have hu64 := uB hr
  exact (qss_cons (qs_set (i := 3) sc_one_round.nd rfl (.inl rfl) qe_non)
  (qss_cons (qs_for (passes_of rfl) rfl (qi_seq (qe_var (pv 0))) (qg_tup rfl (qgs_cons (qg_name (i := 4) sc_one_round.nd rfl (.inl rfl)) (qgs_cons (qg_name (i := 5) sc_one_round.nd rfl (.inl rfl)) (qgs_cons (qg_name (i := 6) sc_one_round.nd rfl (.inl rfl)) (qgs_cons (qg_name (i := 7) sc_one_round.nd rfl (.inl rfl)) qgs_nil)))))
  (qss_one (qs_if (qt_cmp lift_in (op_inAll hu65) (qe_var (pv 4)) (qe_var (pv 1)) (by rfl))
  (qss_cons (qs_set (i := 8) sc_one_round.nd rfl (.inl rfl) (qe_call F_plus hr (by decide) (by rfl) tk (qa_cons (qe_ix hu (qe_var (pv 1)) (qe_var (pv 4)) (fun _ _ => rfl)) (qa_cons (qe_var (pv 6)) qa_nil))))
  (qss_one (qs_if (qt_w (qw_or (qt_cmp lift_notin (op_notInAll hu65) (qe_var (pv 5)) (qe_var (pv 1)) (by rfl)) (qw_or1 (qt_val (qe_call F_under hr (by decide) (by rfl) tk (qa_cons (qe_var (pv 8)) (qa_cons (qe_ix hu (qe_var (pv 1)) (qe_var (pv 5)) (fun _ _ => rfl)) qa_nil)))))))
  (qss_cons (qs_asg (qe_var (pv 8)) (qg_sub hu (qe_var (pv 1)) (qe_var (pv 5))))
  (qss_cons (qs_asg (qe_tup (qa_cons (qe_var (pv 4)) (qa_cons (qe_var (pv 7)) qa_nil))) (qg_sub hu (qe_var (pv 2)) (qe_var (pv 5))))
  (qss_one (qs_set (i := 3) sc_one_round.nd rfl (.inl rfl) (qe_var (pv 5))))))
  qss_nil)))
  qss_nil)))
  (qss_one (qs_ret (qe_var (pv 3))))))
theorem df_one_round (C : C K mg) : DFn P w K mg base 4 "one_round" sp_one_round [] := by
  obtain ⟨fd, F⟩ := C.d_one_round
  exact dfn (ok_one_round C F) C.m_one_round F.kp (F.bindsN fun _ _ _ _ _ _ us hl => match us, hl with | [_, _, _], _ => rfl)
theorem sc_way_back : FnScope ["ways", "face", "stop", "chain", "pair"] ["ways", "face", "stop"] (defScope s_way_back) := ⟨rfl, rfl, rfl, by decide +kernel, rfl, by decide +kernel, by decide +kernel⟩
theorem ok_way_back (C : C K mg) {fd : FuncData} (F : FunD K "way_back" "way_back" (defArgs s_way_back) (defBody s_way_back) (defScope s_way_back) [] [] (He.fAd K ("way_back", none)) fd) : FnOk P w K mg base (CX P w) 1 (He.fAd K ("way_back", none)) fd ["ways", "face", "stop"] (liftSp K sp_way_back) := by
  refine TF.fn_okX (t := t_way_back) F sc_way_back (fun ds A Q E h => len_way_back h) (fun cdv A outer s H E Z0 wd hr tk => ?_) (fun ds A Q E h => rd_way_back h)
  have hu := uA hr
  have hu65 := uC hr
  have hu64 := uB hr
  exact (qss_cons (qs_set (i := 3) sc_way_back.nd rfl (.inl rfl) (qe_lst mkO_ok qa_nil))
  (qss_cons (qs_while (passes_of rfl) (qt_cmp lift_ne (op_neD hu64) (qe_var (pv 1)) (qe_var (pv 2)) (nomark _))
  (qss_cons (qs_asg (qe_ix hu (qe_var (pv 0)) (qe_var (pv 1)) (fun _ _ => rfl)) (qg_tup rfl (qgs_cons (qg_name (i := 1) sc_way_back.nd rfl (.inl rfl)) (qgs_cons (qg_name (i := 4) sc_way_back.nd rfl (.inl rfl)) qgs_nil))))
  (qss_one (qs_expr (qe_bm lift_app PySem.F.plainAttrs_list PySem.F.slot_list_append PySem.F.type_list_append mt_append (qe_var (pv 3)) (qa_cons (qe_var (pv 4)) qa_nil))))))
  (qss_cons (qs_expr (qe_bm0 lift_rev PySem.F.plainAttrs_list PySem.F.slot_list_reverse PySem.F.type_list_reverse mt_reverse (qe_var (pv 3))))
  (qss_one (qs_ret (qe_var (pv 3)))))))
theorem df_way_back (C : C K mg) : DFn P w K mg base 1 "way_back" sp_way_back [] := by
  obtain ⟨fd, F⟩ := C.d_way_back
  exact dfn (ok_way_back C F) C.m_way_back F.kp (F.bindsN fun _ _ _ _ _ _ us hl => match us, hl with | [_, _, _], _ => rfl)
theorem sc_reached : FnScope ["ties", "face", "steps", "sums", "ways", "last", "other"] ["ties", "face"] (defScope s_reached) := ⟨rfl, rfl, rfl, by decide +kernel, rfl, by decide +kernel, by decide +kernel⟩
theorem ok_reached (C : C K mg) {fd : FuncData} (F : FunD K "reached" "reached" (defArgs s_reached) (defBody s_reached) (defScope s_reached) [] [] (He.fAd K ("reached", none)) fd) : FnOk P w K mg base (CX P w) 7 (He.fAd K ("reached", none)) fd ["ties", "face"] (liftSp K sp_reached) := by
  have F_all_steps := @df_all_steps P w K mg base C
  have F_one_round := @df_one_round P w K mg base C
  have F_way_back := @df_way_back P w K mg base C
  refine TF.fn_okX (t := t_reached) F sc_reached (fun ds A Q E h => len_reached h) (fun cdv A outer s H E Z0 wd hr tk => ?_) (fun ds A Q E h => rd_reached h)
  have hu := uA hr
  have hu65 := uC hr
  have hu64 := uB hr
  exact (qss_cons (qs_set (i := 2) sc_reached.nd rfl (.inl rfl) (qe_call F_all_steps hr (by decide) (by rfl) tk (qa_cons (qe_var (pv 0)) qa_nil)))
  (qss_cons (qs_set (i := 3) sc_reached.nd rfl (.inr rfl) (qe_dic1 (qe_var (pv 1)) (qe_tup (qa_cons qe_int (qa_cons qe_int qa_nil)))))
  (qss_cons (qs_set (i := 4) sc_reached.nd rfl (.inr rfl) qe_dic0)
  (qss_cons (qs_set (i := 5) sc_reached.nd rfl (.inl rfl) (qe_var (pv 1)))
  (qss_cons (qs_while (passes_of rfl) (qt_cmp lift_isnot op_isnotAll (qe_var (pv 5)) qe_non (nomark _))
  (qss_one (qs_set (i := 5) sc_reached.nd rfl (.inl rfl) (qe_call F_one_round hr (by decide) (by rfl) tk (qa_cons (qe_var (pv 2)) (qa_cons (qe_var (pv 3)) (qa_cons (qe_var (pv 4)) qa_nil)))))))
  (qss_fz (i := 3)
  (qss_fz (i := 4)
  (qss_one (qs_ret (qe_lc (own := [("other", 6)]) finF_ok rfl sc_reached.nd (qi_seq (qe_callB (lift_sorted mkF_ok) (call_sortedAll rfl) (by rfl) C.n_sorted (by decide +kernel) (qa_cons (qe_var (pv 3)) qa_nil))) (blkOk_by (own := [("other", 6)]) (N := ["ties", "face", "steps", "sums", "ways", "last", "other"]) (sc := defScope s_reached) (by decide +kernel)) (fun _ _ _ _ _ => (qgw_name (i := 6) (by decide) sc_reached.nd rfl (by first | exact .inl rfl | exact .inr rfl))) (fun _ _ _ _ _ => qts_nil) (fun _ _ _ _ _ => (qe_tup (qa_cons (qe_var (pv 6)) (qa_cons (qe_ix hu (qe_var (pv 3)) (qe_var (pv 6)) (fun _ _ => rfl)) (qa_cons (qe_fz (qe_call F_way_back hr (by decide) (by rfl) tk0 (qa_cons (qe_var (pv 4)) (qa_cons (qe_var (pv 6)) (qa_cons (qe_var (pv 1)) qa_nil))))) qa_nil)))))))))))))))
theorem df_reached (C : C K mg) : DFn P w K mg base 7 "reached" sp_reached [] := by
  obtain ⟨fd, F⟩ := C.d_reached
  exact dfn (ok_reached C F) C.m_reached F.kp (F.bindsN fun _ _ _ _ _ _ us hl => match us, hl with | [_, _], _ => rfl)
theorem sc__law_cell_at : FnScope ["_law_script", "_law_k"] ["_law_script", "_law_k"] (defScope s__law_cell_at) := ⟨rfl, rfl, rfl, by decide +kernel, rfl, by decide +kernel, by decide +kernel⟩
theorem ok__law_cell_at (C : C K mg) {fd : FuncData} (F : FunD K "_law_cell_at" "_law_cell_at" (defArgs s__law_cell_at) (defBody s__law_cell_at) (defScope s__law_cell_at) [] [] (He.fAd K ("_law_cell_at", none)) fd) : FnOk P w K mg base (CX P w) 1 (He.fAd K ("_law_cell_at", none)) fd ["_law_script", "_law_k"] (liftSp K sp__law_cell_at) := by
  refine TF.fn_okX (t := t__law_cell_at) F sc__law_cell_at (fun ds A Q E h => len__law_cell_at h) (fun cdv A outer s H E Z0 wd hr tk => ?_) (fun ds A Q E h => rd__law_cell_at h)
  have hu := uA hr
  have hu65 := uC hr
  have hu64 := uB hr
  exact (qss_cons (qs_if (qt_cmp lift_cmp op_lt (qe_var (pv 1)) (qe_callB lift_len call_lenAll (by rfl) C.n_len (by decide +kernel) (qa_cons (qe_var (pv 0)) qa_nil)) (nomark _))
  (qss_one (qs_ret (qe_ix hu (qe_var (pv 0)) (qe_var (pv 1)) (fun _ _ => rfl))))
  qss_nil)
  (qss_one (qs_ret qe_int)))
theorem df__law_cell_at (C : C K mg) : DFn P w K mg base 1 "_law_cell_at" sp__law_cell_at [] := by
  obtain ⟨fd, F⟩ := C.d__law_cell_at
  exact dfn (ok__law_cell_at C F) C.m__law_cell_at F.kp (F.bindsN fun _ _ _ _ _ _ us hl => match us, hl with | [_, _], _ => rfl)
theorem sc__law_divisor : FnScope ["_law_one", "_law_other"] ["_law_one", "_law_other"] (defScope s__law_divisor) := ⟨rfl, rfl, rfl, by decide +kernel, rfl, by decide +kernel, by decide +kernel⟩
theorem ok__law_divisor (C : C K mg) {fd : FuncData} (F : FunD K "_law_divisor" "_law_divisor" (defArgs s__law_divisor) (defBody s__law_divisor) (defScope s__law_divisor) [] [] (He.fAd K ("_law_divisor", none)) fd) : FnOk P w K mg base (CX P w) 1 (He.fAd K ("_law_divisor", none)) fd ["_law_one", "_law_other"] (liftSp K sp__law_divisor) := by
  refine TF.fn_okX (t := t__law_divisor) F sc__law_divisor (fun ds A Q E h => len__law_divisor h) (fun cdv A outer s H E Z0 wd hr tk => ?_) (fun ds A Q E h => rd__law_divisor h)
  have hu := uA hr
  have hu65 := uC hr
  have hu64 := uB hr
  exact (qss_cons (qs_set (i := 0) sc__law_divisor.nd rfl (.inl rfl) (qe_callB lift_abs call_abs (by rfl) C.n_abs (by decide +kernel) (qa_cons (qe_var (pv 0)) qa_nil)))
  (qss_cons (qs_set (i := 1) sc__law_divisor.nd rfl (.inl rfl) (qe_callB lift_abs call_abs (by rfl) C.n_abs (by decide +kernel) (qa_cons (qe_var (pv 1)) qa_nil)))
  (qss_cons (qs_while (passes_of rfl) (qt_cmp lift_cmp op_gt (qe_var (pv 1)) qe_int (nomark _))
  (qss_one (qs_par (i := 0) (j := 1) rfl sc__law_divisor.nd rfl rfl (by decide) rfl rfl (qa_cons (qe_var (pv 1)) (qa_cons (qe_mod (qe_var (pv 0)) (qe_var (pv 1))) qa_nil)) (by rfl))))
  (qss_one (qs_ret (qe_var (pv 0)))))))
theorem df__law_divisor (C : C K mg) : DFn P w K mg base 1 "_law_divisor" sp__law_divisor [] := by
  obtain ⟨fd, F⟩ := C.d__law_divisor
  exact dfn (ok__law_divisor C F) C.m__law_divisor F.kp (F.bindsN fun _ _ _ _ _ _ us hl => match us, hl with | [_, _], _ => rfl)
theorem sc__law_lowest : FnScope ["_law_top", "_law_bottom", "_law_by"] ["_law_top", "_law_bottom"] (defScope s__law_lowest) := ⟨rfl, rfl, rfl, by decide +kernel, rfl, by decide +kernel, by decide +kernel⟩
theorem ok__law_lowest (C : C K mg) {fd : FuncData} (F : FunD K "_law_lowest" "_law_lowest" (defArgs s__law_lowest) (defBody s__law_lowest) (defScope s__law_lowest) [] [] (He.fAd K ("_law_lowest", none)) fd) : FnOk P w K mg base (CX P w) 2 (He.fAd K ("_law_lowest", none)) fd ["_law_top", "_law_bottom"] (liftSp K sp__law_lowest) := by
  have F__law_divisor := @df__law_divisor P w K mg base C
  refine TF.fn_okX (t := t__law_lowest) F sc__law_lowest (fun ds A Q E h => len__law_lowest h) (fun cdv A outer s H E Z0 wd hr tk => ?_) (fun ds A Q E h => rd__law_lowest h)
  have hu := uA hr
  have hu65 := uC hr
  have hu64 := uB hr
  exact (qss_cons (qs_set (i := 2) sc__law_lowest.nd rfl (.inl rfl) (qe_call F__law_divisor hr (by decide) (by rfl) tk (qa_cons (qe_var (pv 0)) (qa_cons (qe_var (pv 1)) qa_nil))))
  (qss_one (qs_ret (qe_tup (qa_cons (qe_div (qe_var (pv 0)) (qe_var (pv 2))) (qa_cons (qe_div (qe_var (pv 1)) (qe_var (pv 2))) qa_nil))))))
theorem df__law_lowest (C : C K mg) : DFn P w K mg base 2 "_law_lowest" sp__law_lowest [] := by
  obtain ⟨fd, F⟩ := C.d__law_lowest
  exact dfn (ok__law_lowest C F) C.m__law_lowest F.kp (F.bindsN fun _ _ _ _ _ _ us hl => match us, hl with | [_, _], _ => rfl)
theorem sc__law_plus : FnScope ["_law_one", "_law_other"] ["_law_one", "_law_other"] (defScope s__law_plus) := ⟨rfl, rfl, rfl, by decide +kernel, rfl, by decide +kernel, by decide +kernel⟩
theorem ok__law_plus (C : C K mg) {fd : FuncData} (F : FunD K "_law_plus" "_law_plus" (defArgs s__law_plus) (defBody s__law_plus) (defScope s__law_plus) [] [] (He.fAd K ("_law_plus", none)) fd) : FnOk P w K mg base (CX P w) 3 (He.fAd K ("_law_plus", none)) fd ["_law_one", "_law_other"] (liftSp K sp__law_plus) := by
  have F__law_lowest := @df__law_lowest P w K mg base C
  refine TF.fn_okX (t := t__law_plus) F sc__law_plus (fun ds A Q E h => len__law_plus h) (fun cdv A outer s H E Z0 wd hr tk => ?_) (fun ds A Q E h => rd__law_plus h)
  have hu := uA hr
  have hu65 := uC hr
  have hu64 := uB hr
  exact (qss_one (qs_ret (qe_call F__law_lowest hr (by decide) (by rfl) tk (qa_cons (qe_add mkF_ok (qe_mul (qe_ix hu (qe_var (pv 0)) qe_int (fun _ _ => rfl)) (qe_ix hu (qe_var (pv 1)) qe_int (fun _ _ => rfl))) (qe_mul (qe_ix hu (qe_var (pv 1)) qe_int (fun _ _ => rfl)) (qe_ix hu (qe_var (pv 0)) qe_int (fun _ _ => rfl)))) (qa_cons (qe_mul (qe_ix hu (qe_var (pv 0)) qe_int (fun _ _ => rfl)) (qe_ix hu (qe_var (pv 1)) qe_int (fun _ _ => rfl))) qa_nil)))))
theorem df__law_plus (C : C K mg) : DFn P w K mg base 3 "_law_plus" sp__law_plus [] := by
  obtain ⟨fd, F⟩ := C.d__law_plus
  exact dfn (ok__law_plus C F) C.m__law_plus F.kp (F.bindsN fun _ _ _ _ _ _ us hl => match us, hl with | [_, _], _ => rfl)
theorem sc__law_less : FnScope ["_law_one", "_law_other"] ["_law_one", "_law_other"] (defScope s__law_less) := ⟨rfl, rfl, rfl, by decide +kernel, rfl, by decide +kernel, by decide +kernel⟩
theorem ok__law_less (C : C K mg) {fd : FuncData} (F : FunD K "_law_less" "_law_less" (defArgs s__law_less) (defBody s__law_less) (defScope s__law_less) [] [] (He.fAd K ("_law_less", none)) fd) : FnOk P w K mg base (CX P w) 1 (He.fAd K ("_law_less", none)) fd ["_law_one", "_law_other"] (liftSp K sp__law_less) := by
  refine TF.fn_okX (t := t__law_less) F sc__law_less (fun ds A Q E h => len__law_less h) (fun cdv A outer s H E Z0 wd hr tk => ?_) (fun ds A Q E h => rd__law_less h)
  have hu := uA hr
  have hu65 := uC hr
  have hu64 := uB hr
  exact (qss_one (qs_ret (qe_cmp lift_cmp op_lt (qe_mul (qe_ix hu (qe_var (pv 0)) qe_int (fun _ _ => rfl)) (qe_ix hu (qe_var (pv 1)) qe_int (fun _ _ => rfl))) (qe_mul (qe_ix hu (qe_var (pv 1)) qe_int (fun _ _ => rfl)) (qe_ix hu (qe_var (pv 0)) qe_int (fun _ _ => rfl))) (nomark _))))
theorem df__law_less (C : C K mg) : DFn P w K mg base 1 "_law_less" sp__law_less [] := by
  obtain ⟨fd, F⟩ := C.d__law_less
  exact dfn (ok__law_less C F) C.m__law_less F.kp (F.bindsN fun _ _ _ _ _ _ us hl => match us, hl with | [_, _], _ => rfl)
theorem sc__law_places : FnScope ["_law_script", "_law_faces", "_law_places_here", "_law_k", "_law_cell", "_law_mixed", "_law_top"] ["_law_script", "_law_faces"] (defScope s__law_places) := ⟨rfl, rfl, rfl, by decide +kernel, rfl, by decide +kernel, by decide +kernel⟩
theorem ok__law_places (C : C K mg) {fd : FuncData} (F : FunD K "_law_places" "_law_places" (defArgs s__law_places) (defBody s__law_places) (defScope s__law_places) [] [] (He.fAd K ("_law_places", none)) fd) : FnOk P w K mg base (CX P w) 3 (He.fAd K ("_law_places", none)) fd ["_law_script", "_law_faces"] (liftSp K sp__law_places) := by
  have F__law_cell_at := @df__law_cell_at P w K mg base C
  have F__law_lowest := @df__law_lowest P w K mg base C
  refine TF.fn_okX (t := t__law_places) F sc__law_places (fun ds A Q E h => len__law_places h) (fun cdv A outer s H E Z0 wd hr tk => ?_) (fun ds A Q E h => rd__law_places h)
  have hu := uA hr
  have hu65 := uC hr
  have hu64 := uB hr
  exact (qss_cons (qs_set (i := 2) sc__law_places.nd rfl (.inl rfl) (qe_lst mkO_ok qa_nil))
  (qss_cons (qs_for (passes_of rfl) rfl (qi_range1 (by rfl) C.n_range (qa_cons (qe_var (pv 1)) qa_nil)) (qg_name (i := 3) sc__law_places.nd rfl (.inl rfl))
  (qss_cons (qs_set (i := 4) sc__law_places.nd rfl (.inl rfl) (qe_call F__law_cell_at hr (by decide) (by rfl) tk (qa_cons (qe_var (pv 0)) (qa_cons (qe_add mkF_ok qe_int (qe_var (pv 3))) qa_nil))))
  (qss_cons (qs_set (i := 5) sc__law_places.nd rfl (.inl rfl) (qe_div (qe_mod (qe_mul (qe_var (pv 4)) qe_int) qe_int) qe_int))
  (qss_cons (qs_set (i := 6) sc__law_places.nd rfl (.inl rfl) (qe_sub (qe_mod (qe_var (pv 5)) qe_int) qe_int))
  (qss_cons (qs_if (qt_cmp lift_eq (op_eqD hu64) (qe_mod (qe_div (qe_var (pv 5)) qe_int) qe_int) qe_int (nomark _))
  (qss_one (qs_set (i := 6) sc__law_places.nd rfl (.inl rfl) (qe_sub (qe_mod (qe_var (pv 4)) (qe_pow qe_int qe_int)) (qe_mul qe_int (qe_pow qe_int qe_int)))))
  qss_nil)
  (qss_one (qs_expr (qe_bm lift_app PySem.F.plainAttrs_list PySem.F.slot_list_append PySem.F.type_list_append mt_append (qe_var (pv 2)) (qa_cons (qe_call F__law_lowest hr (by decide) (by rfl) tk (qa_cons (qe_var (pv 6)) (qa_cons (qe_add mkF_ok qe_int (qe_mod (qe_div (qe_var (pv 5)) qe_int) qe_int)) qa_nil))) qa_nil)))))))))
  (qss_fz (i := 2)
  (qss_one (qs_ret (qe_var (pv 2)))))))
theorem df__law_places (C : C K mg) : DFn P w K mg base 3 "_law_places" sp__law_places [] := by
  obtain ⟨fd, F⟩ := C.d__law_places
  exact dfn (ok__law_places C F) C.m__law_places F.kp (F.bindsN fun _ _ _ _ _ _ us hl => match us, hl with | [_, _], _ => rfl)
theorem sc__law_face : FnScope ["_law_k"] ["_law_k"] (defScope s__law_face) := ⟨rfl, rfl, rfl, by decide +kernel, rfl, by decide +kernel, by decide +kernel⟩
theorem ok__law_face (C : C K mg) {fd : FuncData} (F : FunD K "_law_face" "_law_face" (defArgs s__law_face) (defBody s__law_face) (defScope s__law_face) [] [] (He.fAd K ("_law_face", none)) fd) : FnOk P w K mg base (CX P w) 1 (He.fAd K ("_law_face", none)) fd ["_law_k"] (liftSp K sp__law_face) := by
  refine TF.fn_okX (t := t__law_face) F sc__law_face (fun ds A Q E h => len__law_face h) (fun cdv A outer s H E Z0 wd hr tk => ?_) (fun ds A Q E h => rd__law_face h)
  have hu := uA hr
  have hu65 := uC hr
  have hu64 := uB hr
  exact (qss_one (qs_ret (qe_ix hu (qe_lst mkF_ok (qa_cons qe_str (qa_cons qe_str (qa_cons qe_str (qa_cons qe_str (qa_cons qe_str (qa_cons qe_str qa_nil))))))) (qe_var (pv 0)) (fun _ _ => rfl))))
theorem df__law_face (C : C K mg) : DFn P w K mg base 1 "_law_face" sp__law_face [] := by
  obtain ⟨fd, F⟩ := C.d__law_face
  exact dfn (ok__law_face C F) C.m__law_face F.kp (F.bindsN fun _ _ _ _ _ _ us hl => match us, hl with | [_], _ => rfl)
theorem sc__law_tie : FnScope ["_law_cell", "_law_k", "_law_places_here", "_law_mixed", "_law_start", "_law_end", "_law_apart", "_law_low", "_law_high"] ["_law_cell", "_law_k", "_law_places_here"] (defScope s__law_tie) := ⟨rfl, rfl, rfl, by decide +kernel, rfl, by decide +kernel, by decide +kernel⟩
theorem ok__law_tie (C : C K mg) {fd : FuncData} (F : FunD K "_law_tie" "_law_tie" (defArgs s__law_tie) (defBody s__law_tie) (defScope s__law_tie) [] [] (He.fAd K ("_law_tie", none)) fd) : FnOk P w K mg base (CX P w) 4 (He.fAd K ("_law_tie", none)) fd ["_law_cell", "_law_k", "_law_places_here"] (liftSp K sp__law_tie) := by
  have F__law_face := @df__law_face P w K mg base C
  have F__law_plus := @df__law_plus P w K mg base C
  refine TF.fn_okX (t := t__law_tie) F sc__law_tie (fun ds A Q E h => len__law_tie h) (fun cdv A outer s H E Z0 wd hr tk => ?_) (fun ds A Q E h => rd__law_tie h)
  have hu := uA hr
  have hu65 := uC hr
  have hu64 := uB hr
  exact (qss_cons (qs_set (i := 3) sc__law_tie.nd rfl (.inl rfl) (qe_div (qe_mod (qe_mul (qe_var (pv 0)) qe_int) qe_int) qe_int))
  (qss_cons (qs_set (i := 4) sc__law_tie.nd rfl (.inl rfl) (qe_mod (qe_var (pv 3)) (qe_callB lift_len call_lenAll (by rfl) C.n_len (by decide +kernel) (qa_cons (qe_var (pv 2)) qa_nil))))
  (qss_cons (qs_set (i := 5) sc__law_tie.nd rfl (.inl rfl) (qe_mod (qe_add mkF_ok (qe_add mkF_ok (qe_var (pv 4)) qe_int) (qe_mod (qe_div (qe_var (pv 3)) qe_int) (qe_sub (qe_callB lift_len call_lenAll (by rfl) C.n_len (by decide +kernel) (qa_cons (qe_var (pv 2)) qa_nil)) qe_int))) (qe_callB lift_len call_lenAll (by rfl) C.n_len (by decide +kernel) (qa_cons (qe_var (pv 2)) qa_nil))))
  (qss_cons (qs_set (i := 6) sc__law_tie.nd rfl (.inl rfl) (qe_call F__law_plus hr (by decide) (by rfl) tk (qa_cons (qe_ix hu (qe_var (pv 2)) (qe_var (pv 5)) (fun _ _ => rfl)) (qa_cons (qe_tup (qa_cons (qe_neg (qe_ix hu (qe_ix hu (qe_var (pv 2)) (qe_var (pv 4)) (fun _ _ => rfl)) qe_int (fun _ _ => rfl))) (qa_cons (qe_ix hu (qe_ix hu (qe_var (pv 2)) (qe_var (pv 4)) (fun _ _ => rfl)) qe_int (fun _ _ => rfl)) qa_nil))) qa_nil))))
  (qss_cons (qs_set (i := 7) sc__law_tie.nd rfl (.inl rfl) (qe_call F__law_plus hr (by decide) (by rfl) tk (qa_cons (qe_var (pv 6)) (qa_cons (qe_tup (qa_cons (qe_neg (qe_mod (qe_div (qe_var (pv 3)) qe_int) qe_int)) (qa_cons (qe_add mkF_ok qe_int (qe_mod (qe_div (qe_var (pv 3)) qe_int) qe_int)) qa_nil))) qa_nil))))
  (qss_cons (qs_set (i := 8) sc__law_tie.nd rfl (.inl rfl) (qe_call F__law_plus hr (by decide) (by rfl) tk (qa_cons (qe_var (pv 6)) (qa_cons (qe_tup (qa_cons (qe_mod (qe_div (qe_var (pv 3)) qe_int) qe_int) (qa_cons (qe_add mkF_ok qe_int (qe_mod (qe_div (qe_var (pv 3)) qe_int) qe_int)) qa_nil))) qa_nil))))
  (qss_cons (qs_if (qt_cmp lift_eq (op_eqD hu64) (qe_mod (qe_div (qe_var (pv 3)) qe_int) qe_int) qe_int (nomark _))
  (qss_one (qs_set (i := 7) sc__law_tie.nd rfl (.inl rfl) qe_non))
  qss_nil)
  (qss_cons (qs_if (qt_cmp lift_eq (op_eqD hu64) (qe_mod (qe_div (qe_var (pv 3)) qe_int) qe_int) qe_int (nomark _))
  (qss_one (qs_set (i := 8) sc__law_tie.nd rfl (.inl rfl) qe_non))
  qss_nil)
  (qss_one (qs_ret (qe_tup (qa_cons (qe_ix hu qe_str (qe_var (pv 1)) (fun _ _ => rfl)) (qa_cons (qe_call F__law_face hr (by decide) (by rfl) tk (qa_cons (qe_var (pv 4)) qa_nil)) (qa_cons (qe_call F__law_face hr (by decide) (by rfl) tk (qa_cons (qe_var (pv 5)) qa_nil)) (qa_cons (qe_var (pv 7)) (qa_cons (qe_var (pv 8)) qa_nil))))))))))))))))
theorem df__law_tie (C : C K mg) : DFn P w K mg base 4 "_law_tie" sp__law_tie [] := by
  obtain ⟨fd, F⟩ := C.d__law_tie
  exact dfn (ok__law_tie C F) C.m__law_tie F.kp (F.bindsN fun _ _ _ _ _ _ us hl => match us, hl with | [_, _, _], _ => rfl)
theorem sc__law_steps : FnScope ["_law_ties", "_law_steps_here", "_law_name", "_law_start", "_law_end", "_law_low", "_law_high"] ["_law_ties"] (defScope s__law_steps) := ⟨rfl, rfl, rfl, by decide +kernel, rfl, by decide +kernel, by decide +kernel⟩
theorem ok__law_steps (C : C K mg) {fd : FuncData} (F : FunD K "_law_steps" "_law_steps" (defArgs s__law_steps) (defBody s__law_steps) (defScope s__law_steps) [] [] (He.fAd K ("_law_steps", none)) fd) : FnOk P w K mg base (CX P w) 1 (He.fAd K ("_law_steps", none)) fd ["_law_ties"] (liftSp K sp__law_steps) := by
  refine TF.fn_okX (t := t__law_steps) F sc__law_steps (fun ds A Q E h => len__law_steps h) (fun cdv A outer s H E Z0 wd hr tk => ?_) (fun ds A Q E h => rd__law_steps h)
  have hu := uA hr
  have hu65 := uC hr
  have hu64 := uB hr
  exact (qss_cons (qs_set (i := 1) sc__law_steps.nd rfl (.inl rfl) (qe_lst mkO_ok qa_nil))
  (qss_cons (qs_for (passes_of rfl) rfl (qi_seq (qe_var (pv 0))) (qg_tup rfl (qgs_cons (qg_name (i := 2) sc__law_steps.nd rfl (.inl rfl)) (qgs_cons (qg_name (i := 3) sc__law_steps.nd rfl (.inl rfl)) (qgs_cons (qg_name (i := 4) sc__law_steps.nd rfl (.inl rfl)) (qgs_cons (qg_name (i := 5) sc__law_steps.nd rfl (.inl rfl)) (qgs_cons (qg_name (i := 6) sc__law_steps.nd rfl (.inl rfl)) qgs_nil))))))
  (qss_cons (qs_if (qt_cmp lift_isnot op_isnotAll (qe_var (pv 6)) qe_non (nomark _))
  (qss_one (qs_expr (qe_bm lift_app PySem.F.plainAttrs_list PySem.F.slot_list_append PySem.F.type_list_append mt_append (qe_var (pv 1)) (qa_cons (qe_tup (qa_cons (qe_var (pv 3)) (qa_cons (qe_var (pv 4)) (qa_cons (qe_var (pv 6)) (qa_cons (qe_tup (qa_cons (qe_var (pv 2)) (qa_cons qe_bl qa_nil))) qa_nil))))) qa_nil))))
  qss_nil)
  (qss_one (qs_if (qt_cmp lift_isnot op_isnotAll (qe_var (pv 5)) qe_non (nomark _))
  (qss_one (qs_expr (qe_bm lift_app PySem.F.plainAttrs_list PySem.F.slot_list_append PySem.F.type_list_append mt_append (qe_var (pv 1)) (qa_cons (qe_tup (qa_cons (qe_var (pv 4)) (qa_cons (qe_var (pv 3)) (qa_cons (qe_tup (qa_cons (qe_neg (qe_ix hu (qe_var (pv 5)) qe_int (fun _ _ => rfl))) (qa_cons (qe_ix hu (qe_var (pv 5)) qe_int (fun _ _ => rfl)) qa_nil))) (qa_cons (qe_tup (qa_cons (qe_var (pv 2)) (qa_cons qe_bl qa_nil))) qa_nil))))) qa_nil))))
  qss_nil))))
  (qss_fz (i := 1)
  (qss_one (qs_ret (qe_var (pv 1)))))))
theorem df__law_steps (C : C K mg) : DFn P w K mg base 1 "_law_steps" sp__law_steps [] := by
  obtain ⟨fd, F⟩ := C.d__law_steps
  exact dfn (ok__law_steps C F) C.m__law_steps F.kp (F.bindsN fun _ _ _ _ _ _ us hl => match us, hl with | [_], _ => rfl)
theorem sc__law_chain : FnScope ["_law_steps_here", "_law_face_here", "_law_told", "_law_other", "_law_total", "_law_chain_here", "_law_seen", "_law_here", "_law_pair", "_law_found", "_law_step"] ["_law_steps_here", "_law_face_here", "_law_told"] (defScope s__law_chain) := ⟨rfl, rfl, rfl, by decide +kernel, rfl, by decide +kernel, by decide +kernel⟩
theorem ok__law_chain (C : C K mg) {fd : FuncData} (F : FunD K "_law_chain" "_law_chain" (defArgs s__law_chain) (defBody s__law_chain) (defScope s__law_chain) [] [] (He.fAd K ("_law_chain", none)) fd) : FnOk P w K mg base (CX P w) 4 (He.fAd K ("_law_chain", none)) fd ["_law_steps_here", "_law_face_here", "_law_told"] (liftSp K sp__law_chain) := by
  have F__law_plus := @df__law_plus P w K mg base C
  refine TF.fn_okX (t := t__law_chain) F sc__law_chain (fun ds A Q E h => len__law_chain h) (fun cdv A outer s H E Z0 wd hr tk => ?_) (fun ds A Q E h => rd__law_chain h)
  have hu := uA hr
  have hu65 := uC hr
  have hu64 := uB hr
  exact (qss_cons (qs_asg (qe_var (pv 2)) (qg_tup rfl (qgs_cons (qg_name (i := 3) sc__law_chain.nd rfl (.inl rfl)) (qgs_cons (qg_name (i := 4) sc__law_chain.nd rfl (.inl rfl)) (qgs_cons (qg_name (i := 5) sc__law_chain.nd rfl (.inl rfl)) qgs_nil)))))
  (qss_cons (qs_set (i := 6) sc__law_chain.nd rfl (.inl rfl) (qe_lst mkO_ok (qa_cons (qe_var (pv 1)) qa_nil)))
  (qss_cons (qs_set (i := 7) sc__law_chain.nd rfl (.inl rfl) (qe_tup (qa_cons qe_int (qa_cons qe_int qa_nil))))
  (qss_cons (qs_for (passes_of rfl) rfl (qi_seq (qe_var (pv 5))) (qg_name (i := 8) sc__law_chain.nd rfl (.inr rfl))
  (qss_cons (qs_setLc (own := [("_law_step", 10)]) (i := 9) finF_ok rfl sc__law_chain.nd rfl rfl (sw_true rfl rfl rfl (by decide +kernel)) (qi_seq (qe_var (pv 0))) (blkOk_by (own := [("_law_step", 10)]) (N := ["_law_steps_here", "_law_face_here", "_law_told", "_law_other", "_law_total", "_law_chain_here", "_law_seen", "_law_here", "_law_pair", "_law_found", "_law_step"]) (sc := defScope s__law_chain) (by decide +kernel)) (fun _ _ _ _ _ => (qgw_name (i := 10) (by decide) sc__law_chain.nd rfl (by first | exact .inl rfl | exact .inr rfl))) (fun _ _ _ _ _ => (qts_one (qt_cmp lift_eq (op_eqD hu64) (qe_ix hu (qe_var (pv 10)) qe_int (fun _ _ => rfl)) (qe_var (pv 8)) (nomark _)))) (fun _ _ _ _ _ => (qe_var (pv 10))))
  (qss_cons (qs_if (qt_w (qw_or (qt_cmp lift_ne (op_neD hu64) (qe_callB lift_len call_lenAll (by rfl) C.n_len (by decide +kernel) (qa_cons (qe_var (pv 9)) qa_nil)) qe_int (nomark _)) (qw_or (qt_cmp lift_ne (op_neD hu64) (qe_ix hu (qe_ix hu (qe_var (pv 9)) qe_int (fun _ _ => rfl)) qe_int (fun _ _ => rfl)) (qe_ix hu (qe_var (pv 6)) (qe_neg qe_int) (fun _ _ => rfl)) (nomark _)) (qw_or1 (qt_cmp lift_in (op_inAll hu65) (qe_ix hu (qe_ix hu (qe_var (pv 9)) qe_int (fun _ _ => rfl)) qe_int (fun _ _ => rfl)) (qe_var (pv 6)) (by rfl))))))
  (qss_one (qs_ret qe_bl))
  qss_nil)
  (qss_cons (qs_expr (qe_bm lift_app PySem.F.plainAttrs_list PySem.F.slot_list_append PySem.F.type_list_append mt_append (qe_var (pv 6)) (qa_cons (qe_ix hu (qe_ix hu (qe_var (pv 9)) qe_int (fun _ _ => rfl)) qe_int (fun _ _ => rfl)) qa_nil)))
  (qss_one (qs_set (i := 7) sc__law_chain.nd rfl (.inl rfl) (qe_call F__law_plus hr (by decide) (by rfl) tk (qa_cons (qe_var (pv 7)) (qa_cons (qe_ix hu (qe_ix hu (qe_var (pv 9)) qe_int (fun _ _ => rfl)) qe_int (fun _ _ => rfl)) qa_nil)))))))))
  (qss_fz (i := 6)
  (qss_one (qs_ret (qe_and (qe_cmp lift_eq (op_eqD hu64) (qe_ix hu (qe_var (pv 6)) (qe_neg qe_int) (fun _ _ => rfl)) (qe_var (pv 3)) (nomark _)) (qe_and (qe_cmp lift_eq (op_eqD hu64) (qe_var (pv 7)) (qe_var (pv 4)) (nomark _)) (qe_and (qe_isi (T := "tuple") (by decide) (by rfl) C.n_isinstance (by rfl) C.n_tuple (by decide +kernel) (by decide) (by decide) (qe_var (pv 4))) (qe_one (qe_isi (T := "list") (by decide) (by rfl) C.n_isinstance (by rfl) C.n_list (by decide +kernel) (by decide) (by decide) (qe_var (pv 5))))))))))))))
theorem df__law_chain (C : C K mg) : DFn P w K mg base 4 "_law_chain" sp__law_chain [] := by
  obtain ⟨fd, F⟩ := C.d__law_chain
  exact dfn (ok__law_chain C F) C.m__law_chain F.kp (F.bindsN fun _ _ _ _ _ _ us hl => match us, hl with | [_, _, _], _ => rfl)
theorem sc__law_least : FnScope ["_law_steps_here", "_law_found", "_law_sums", "_law_other", "_law_total", "_law_chain_here", "_law_start", "_law_end", "_law_cost", "_law_pair"] ["_law_steps_here", "_law_found"] (defScope s__law_least) := ⟨rfl, rfl, rfl, by decide +kernel, rfl, by decide +kernel, by decide +kernel⟩
theorem ok__law_least (C : C K mg) {fd : FuncData} (F : FunD K "_law_least" "_law_least" (defArgs s__law_least) (defBody s__law_least) (defScope s__law_least) [] [] (He.fAd K ("_law_least", none)) fd) : FnOk P w K mg base (CX P w) 4 (He.fAd K ("_law_least", none)) fd ["_law_steps_here", "_law_found"] (liftSp K sp__law_least) := by
  have F__law_less := @df__law_less P w K mg base C
  have F__law_plus := @df__law_plus P w K mg base C
  refine TF.fn_okX (t := t__law_least) F sc__law_least (fun ds A Q E h => len__law_least h) (fun cdv A outer s H E Z0 wd hr tk => ?_) (fun ds A Q E h => rd__law_least h)
  have hu := uA hr
  have hu65 := uC hr
  have hu64 := uB hr
  exact (qss_cons (qs_set (i := 2) sc__law_least.nd rfl (.inl rfl) qe_dic0)
  (qss_cons (qs_for (passes_of rfl) rfl (qi_seq (qe_var (pv 1))) (qg_tup rfl (qgs_cons (qg_name (i := 3) sc__law_least.nd rfl (.inl rfl)) (qgs_cons (qg_name (i := 4) sc__law_least.nd rfl (.inl rfl)) (qgs_cons (qg_name (i := 5) sc__law_least.nd rfl (.inl rfl)) qgs_nil))))
  (qss_one (qs_asg (qe_var (pv 4)) (qg_sub hu (qe_var (pv 2)) (qe_var (pv 3))))))
  (qss_fz (i := 2)
  (qss_cons (qs_for (passes_of rfl) rfl (qi_seq (qe_var (pv 0))) (qg_tup rfl (qgs_cons (qg_name (i := 6) sc__law_least.nd rfl (.inl rfl)) (qgs_cons (qg_name (i := 7) sc__law_least.nd rfl (.inl rfl)) (qgs_cons (qg_name (i := 8) sc__law_least.nd rfl (.inl rfl)) (qgs_cons (qg_name (i := 9) sc__law_least.nd rfl (.inl rfl)) qgs_nil)))))
  (qss_one (qs_if (qt_cmp lift_in (op_inAll hu65) (qe_var (pv 6)) (qe_var (pv 2)) (by rfl))
  (qss_one (qs_if (qt_w (qw_or (qt_cmp lift_notin (op_notInAll hu65) (qe_var (pv 7)) (qe_var (pv 2)) (by rfl)) (qw_or1 (qt_val (qe_call F__law_less hr (by decide) (by rfl) tk (qa_cons (qe_call F__law_plus hr (by decide) (by rfl) tk (qa_cons (qe_ix hu (qe_var (pv 2)) (qe_var (pv 6)) (fun _ _ => rfl)) (qa_cons (qe_var (pv 8)) qa_nil))) (qa_cons (qe_ix hu (qe_var (pv 2)) (qe_var (pv 7)) (fun _ _ => rfl)) qa_nil)))))))
  (qss_one (qs_ret qe_bl))
  qss_nil))
  qss_nil)))
  (qss_one (qs_ret qe_bl))))))
theorem df__law_least (C : C K mg) : DFn P w K mg base 4 "_law_least" sp__law_least [] := by
  obtain ⟨fd, F⟩ := C.d__law_least
  exact dfn (ok__law_least C F) C.m__law_least F.kp (F.bindsN fun _ _ _ _ _ _ us hl => match us, hl with | [_, _], _ => rfl)
theorem sc__law_from : FnScope ["_law_ties", "_law_steps_here", "_law_face_here", "_law_found", "_law_names", "_law_told", "_law_kept", "_law_other", "_law_total", "_law_chain_here"] ["_law_ties", "_law_steps_here", "_law_face_here"] (defScope s__law_from) := ⟨rfl, rfl, rfl, by decide +kernel, rfl, by decide +kernel, by decide +kernel⟩
theorem ok__law_from (C : C K mg) {fd : FuncData} (F : FunD K "_law_from" "_law_from" (defArgs s__law_from) (defBody s__law_from) (defScope s__law_from) [] [] (He.fAd K ("_law_from", none)) fd) : FnOk P w K mg base (CX P w) 8 (He.fAd K ("_law_from", none)) fd ["_law_ties", "_law_steps_here", "_law_face_here"] (liftSpP K KPk sp__law_from) := by
  have F__law_chain := @df__law_chain P w K mg base C
  have F__law_least := @df__law_least P w K mg base C
  have F_reached := @df_reached P w K mg base C
  refine TF.fn_okQ (PL := KPk) (t := t__law_from) F sc__law_from (fun ds A Q E h => len__law_from h) (fun cdv A outer s H E Z0 wd hZ hr tk => ?_) (fun ds A Q E h => rd__law_from h)
  have hu := uA hr
  have hu65 := uC hr
  have hu64 := uB hr
  exact (qp_cons (qs_set (i := 3) sc__law_from.nd rfl (.inl rfl) (qe_call F_reached hr (by decide) (by rfl) tk (qa_cons (qe_callTy (lift_list mkF_ok) (call_listAll rfl) (by rfl) C.n_list (by decide +kernel) (qa_cons (qe_var (pv 0)) qa_nil)) (qa_cons (qe_var (pv 2)) qa_nil))))
  (qp_cons (qs_if (qt_w (qw_or (qt_not (qt_val (qe_isi (T := "list") (by decide) (by rfl) C.n_isinstance (by rfl) C.n_list (by decide +kernel) (by decide) (by decide) (qe_var (pv 3))))) (qw_or1 (qt_cmp lift_notin (op_notInAll hu65) (qe_tup (qa_cons (qe_var (pv 2)) (qa_cons (qe_tup (qa_cons qe_int (qa_cons qe_int qa_nil))) (qa_cons (qe_lst mkF_ok qa_nil) qa_nil)))) (qe_var (pv 3)) (by rfl)))))
  (qss_one (qs_ret qe_bl))
  qss_nil)
  (qp_cons (qs_setLc (own := [("_law_told", 5)]) (i := 4) finF_ok rfl sc__law_from.nd rfl rfl (sw_true rfl rfl rfl (by decide +kernel)) (qi_seq (qe_var (pv 3))) (blkOk_by (own := [("_law_told", 5)]) (N := ["_law_ties", "_law_steps_here", "_law_face_here", "_law_found", "_law_names", "_law_told", "_law_kept", "_law_other", "_law_total", "_law_chain_here"]) (sc := defScope s__law_from) (by decide +kernel)) (fun _ _ _ _ _ => (qgw_name (i := 5) (by decide) sc__law_from.nd rfl (by first | exact .inl rfl | exact .inr rfl))) (fun _ _ _ _ _ => qts_nil) (fun _ _ _ _ _ => (qe_ix hu (qe_var (pv 5)) qe_int (fun _ _ => rfl))))
  (qp_cons (qs_if (qt_cmp lift_ne (op_neD hu64) (qe_var (pv 4)) (qe_sortSet mkF_ok rfl (by rfl) C.n_sorted (by rfl) C.n_set (qe_var (pv 4))) (nomark _))
  (qss_one (qs_ret qe_bl))
  qss_nil)
  (qp_cons (qs_for (passes_of rfl) rfl (qi_seq (qe_var (pv 3))) (qg_name (i := 5) sc__law_from.nd rfl (.inl rfl))
  (qss_one (qs_if (qt_w (qw_or (qt_not (qt_val (qe_isi (T := "tuple") (by decide) (by rfl) C.n_isinstance (by rfl) C.n_tuple (by decide +kernel) (by decide) (by decide) (qe_var (pv 5))))) (qw_or (qt_cmp lift_ne (op_neD hu64) (qe_callB lift_len call_lenAll (by rfl) C.n_len (by decide +kernel) (qa_cons (qe_var (pv 5)) qa_nil)) qe_int (nomark _)) (qw_or1 (qt_not (qt_val (qe_call F__law_chain hr (by decide) (by rfl) tk (qa_cons (qe_var (pv 1)) (qa_cons (qe_var (pv 2)) (qa_cons (qe_var (pv 5)) qa_nil))))))))))
  (qss_one (qs_ret qe_bl))
  qss_nil)))
  (qp_cons (qs_if (qt_not (qt_val (qe_call F__law_least hr (by decide) (by rfl) tk (qa_cons (qe_var (pv 1)) (qa_cons (qe_var (pv 3)) qa_nil)))))
  (qss_one (qs_ret qe_bl))
  qss_nil)
  (qp_thN (i := 3) hZ (qp_of (qss_cons (qs_setLc (own := [("_law_other", 7), ("_law_total", 8), ("_law_chain_here", 9)]) (i := 6) finF_ok rfl sc__law_from.nd rfl rfl (sw_true rfl rfl rfl (by decide +kernel)) (qi_seq (qe_var (pv 3))) (blkOk_by (own := [("_law_other", 7), ("_law_total", 8), ("_law_chain_here", 9)]) (N := ["_law_ties", "_law_steps_here", "_law_face_here", "_law_found", "_law_names", "_law_told", "_law_kept", "_law_other", "_law_total", "_law_chain_here"]) (sc := defScope s__law_from) (by decide +kernel)) (fun _ _ _ _ _ => (qgw_tup rfl (qgws_cons (qgw_name (i := 7) (by decide) sc__law_from.nd rfl (by first | exact .inl rfl | exact .inr rfl)) (qgws_cons (qgw_name (i := 8) (by decide) sc__law_from.nd rfl (by first | exact .inl rfl | exact .inr rfl)) (qgws_cons (qgw_name (i := 9) (by decide) sc__law_from.nd rfl (by first | exact .inl rfl | exact .inr rfl)) qgws_nil))))) (fun _ _ _ _ _ => qts_nil) (fun _ _ _ _ _ => (qe_tup (qa_cons (qe_var (pv 7)) (qa_cons (qe_var (pv 8)) (qa_cons (qe_callTy (lift_list mkF_ok) (call_listAll rfl) (by rfl) C.n_list (by decide +kernel) (qa_cons (qe_var (pv 9)) qa_nil)) qa_nil))))))
  (qss_cons (qs_for (passes_of rfl) rfl (qi_seq (qe_var (pv 3))) (qg_name (i := 5) sc__law_from.nd rfl (.inl rfl)) (qss_one (qs_expr (qe_bm0 lift_clr2 PySem.F.plainAttrs_list PySem.F.slot_list_clear PySem.F.type_list_clear mt_clear (qe_ix hu (qe_var (pv 5)) qe_int (fun _ _ => rfl))))))
  (qss_cons (qs_expr (qe_bm0 lift_clr PySem.F.plainAttrs_list PySem.F.slot_list_clear PySem.F.type_list_clear mt_clear (qe_var (pv 3))))
  (qss_one (qs_ret (qe_cmp lift_eq (op_eqD hu64) (qe_call F_reached hr (by decide) (by rfl) tk (qa_cons (qe_callTy (lift_list mkF_ok) (call_listAll rfl) (by rfl) C.n_list (by decide +kernel) (qa_cons (qe_var (pv 0)) qa_nil)) (qa_cons (qe_var (pv 2)) qa_nil))) (qe_var (pv 6)) (nomark _)))))))))))))))
theorem dfp__law_from (C : C K mg) : DFnP P w K mg base 8 "_law_from" KPk sp__law_from := by
  obtain ⟨fd, F⟩ := C.d__law_from
  exact dfnP (ok__law_from C F) C.m__law_from F.kp (F.bindsN fun _ _ _ _ _ _ us hl => match us, hl with | [_, _, _], _ => rfl)
theorem sc_law : FnScope ["_law_script", "_law_faces", "_law_places_here", "_law_ties", "_law_k", "_law_steps_here", "_law_face_here", "_law_tie_here"] ["_law_script"] (defScope s_law) := ⟨rfl, rfl, rfl, by decide +kernel, rfl, by decide +kernel, by decide +kernel⟩
theorem ok_law (C : C K mg) {fd : FuncData} (F : FunD K "law" "law" (defArgs s_law) (defBody s_law) (defScope s_law) [] [] (He.fAd K ("law", none)) fd) : FnOk P w K mg base (CX P w) 9 (He.fAd K ("law", none)) fd ["_law_script"] (liftSpC K spLawC) := by
  have F__law_cell_at := @df__law_cell_at P w K mg base C
  have F__law_places := @df__law_places P w K mg base C
  have F__law_steps := @df__law_steps P w K mg base C
  have F__law_tie := @df__law_tie P w K mg base C
  refine TF.fn_okP (t := t_law) F sc_law (fun ds A Q E h => len_law h) (fun cdv A outer s H E Z0 wd hZ hr tk => ?_) (fun ds A Q E h => rd_law h)
  have hu := uA hr
  have hu65 := uC hr
  have hu64 := uB hr
  exact (qp_cons (qs_set (i := 1) sc_law.nd rfl (.inl rfl) (qe_add mkF_ok qe_int (qe_mod (qe_call F__law_cell_at hr (by decide) (by rfl) tk (qa_cons (qe_var (pv 0)) (qa_cons qe_int qa_nil))) qe_int)))
  (qp_cons (qs_set (i := 2) sc_law.nd rfl (.inl rfl) (qe_call F__law_places hr (by decide) (by rfl) tk (qa_cons (qe_var (pv 0)) (qa_cons (qe_var (pv 1)) qa_nil))))
  (qp_cons (qs_set (i := 3) sc_law.nd rfl (.inl rfl) (qe_lst mkO_ok qa_nil))
  (qp_cons (qs_for (passes_of rfl) rfl (qi_range1 (by rfl) C.n_range (qa_cons (qe_add mkF_ok qe_int (qe_mod (qe_div (qe_call F__law_cell_at hr (by decide) (by rfl) tk (qa_cons (qe_var (pv 0)) (qa_cons qe_int qa_nil))) qe_int) qe_int)) qa_nil)) (qg_name (i := 4) sc_law.nd rfl (.inl rfl))
  (qss_one (qs_expr (qe_bm lift_app PySem.F.plainAttrs_list PySem.F.slot_list_append PySem.F.type_list_append mt_append (qe_var (pv 3)) (qa_cons (qe_call F__law_tie hr (by decide) (by rfl) tk (qa_cons (qe_call F__law_cell_at hr (by decide) (by rfl) tk (qa_cons (qe_var (pv 0)) (qa_cons (qe_add mkF_ok qe_int (qe_var (pv 4))) qa_nil))) (qa_cons (qe_var (pv 4)) (qa_cons (qe_var (pv 2)) qa_nil)))) qa_nil)))))
  (qp_fz (i := 3)
  (qp_cons (qs_set (i := 5) sc_law.nd rfl (.inl rfl) (qe_call F__law_steps hr (by decide) (by rfl) tk (qa_cons (qe_var (pv 3)) qa_nil)))
  (qp_forP (P := KPk) (i1 := 3) (i2 := 5) (j := 6) hZ (passes_of rfl) rfl (qe_sortSet mkF_ok rfl (by rfl) C.n_sorted (by rfl) C.n_set (qe_add mkF_ok (qe_lc (own := [("_law_tie_here", 7)]) finF_ok rfl sc_law.nd (qi_seq (qe_var (pv 3))) (blkOk_by (own := [("_law_tie_here", 7)]) (N := ["_law_script", "_law_faces", "_law_places_here", "_law_ties", "_law_k", "_law_steps_here", "_law_face_here", "_law_tie_here"]) (sc := defScope s_law) (by decide +kernel)) (fun _ _ _ _ _ => (qgw_name (i := 7) (by decide) sc_law.nd rfl (by first | exact .inl rfl | exact .inr rfl))) (fun _ _ _ _ _ => qts_nil) (fun _ _ _ _ _ => (qe_ix hu (qe_var (pv 7)) qe_int (fun _ _ => rfl)))) (qe_lc (own := [("_law_tie_here", 7)]) finF_ok rfl sc_law.nd (qi_seq (qe_var (pv 3))) (blkOk_by (own := [("_law_tie_here", 7)]) (N := ["_law_script", "_law_faces", "_law_places_here", "_law_ties", "_law_k", "_law_steps_here", "_law_face_here", "_law_tie_here"]) (sc := defScope s_law) (by decide +kernel)) (fun _ _ _ _ _ => (qgw_name (i := 7) (by decide) sc_law.nd rfl (by first | exact .inl rfl | exact .inr rfl))) (fun _ _ _ _ _ => qts_nil) (fun _ _ _ _ _ => (qe_ix hu (qe_var (pv 7)) qe_int (fun _ _ => rfl)))))) sc_law.nd rfl (.inl rfl) (dfp__law_from C) hr (by decide) (by rfl) tk (pv 3) (pv 5) (pv 6) (qp_of (qss_one (qs_ret qe_bl))))))))))
end
theorem facts {P : Program} {w : World} {K : PySem.W.Frag} {h : Heap} {mg : Str → Option Value} {f : Addr} (X : K.In h) (G : h.Ns mainGlobals mg) (hfa : mg ("law" : Str) = some (.ref f)) (c : He.SaysD H23.fa H23.fn K) (cx : allX H23.fx K = true) :
    ∃ fd : FuncData, (∀ (s : Shared) (v : Value), BindsTo s fd ⟨[v], []⟩ [("_law_script", v)]) ∧ ∀ base : Heap, K.In base → base.Ns mainGlobals mg → FnOk P w K mg base (CX P w) 9 f fd ["_law_script"] (liftSpC K spLawC) := by
  have C : C K mg := {
    d_divisor := c.def_ 0 (d := H23.d_divisor) rfl
    d_fraction := c.def_ 1 (d := H23.d_fraction) rfl
    d_plus := c.def_ 2 (d := H23.d_plus) rfl
    d_minus := c.def_ 3 (d := H23.d_minus) rfl
    d_under := c.def_ 4 (d := H23.d_under) rfl
    d_is_whole := c.def_ 5 (d := H23.d_is_whole) rfl
    d_is_name := c.def_ 6 (d := H23.d_is_name) rfl
    d_is_fraction := c.def_ 7 (d := H23.d_is_fraction) rfl
    d_Tie___init__ := c.def_ 8 (d := H23.d_Tie___init__) rfl
    d_Tie_low := c.def_ 9 (d := H23.d_Tie_low) rfl
    d_Tie_high := c.def_ 10 (d := H23.d_Tie_high) rfl
    d_AtMost_high := c.def_ 11 (d := H23.d_AtMost_high) rfl
    d_Between_high := c.def_ 12 (d := H23.d_Between_high) rfl
    d_Just_high := c.def_ 13 (d := H23.d_Just_high) rfl
    d_AtLeast_low := c.def_ 14 (d := H23.d_AtLeast_low) rfl
    d_Between_low := c.def_ 15 (d := H23.d_Between_low) rfl
    d_Just_low := c.def_ 16 (d := H23.d_Just_low) rfl
    d_Tie_steps := c.def_ 17 (d := H23.d_Tie_steps) rfl
    d_AtLeast___init__ := c.def_ 18 (d := H23.d_AtLeast___init__) rfl
    d_AtMost___init__ := c.def_ 19 (d := H23.d_AtMost___init__) rfl
    d_Just___init__ := c.def_ 20 (d := H23.d_Just___init__) rfl
    d_Between___init__ := c.def_ 21 (d := H23.d_Between___init__) rfl
    d_check_tie := c.def_ 22 (d := H23.d_check_tie) rfl
    d_tie_of := c.def_ 23 (d := H23.d_tie_of) rfl
    d_all_steps := c.def_ 24 (d := H23.d_all_steps) rfl
    d_one_round := c.def_ 25 (d := H23.d_one_round) rfl
    d_way_back := c.def_ 26 (d := H23.d_way_back) rfl
    d_reached := c.def_ 27 (d := H23.d_reached) rfl
    d__law_cell_at := c.def_ 28 (d := H23.d__law_cell_at) rfl
    d__law_divisor := c.def_ 29 (d := H23.d__law_divisor) rfl
    d__law_lowest := c.def_ 30 (d := H23.d__law_lowest) rfl
    d__law_plus := c.def_ 31 (d := H23.d__law_plus) rfl
    d__law_less := c.def_ 32 (d := H23.d__law_less) rfl
    d__law_places := c.def_ 33 (d := H23.d__law_places) rfl
    d__law_face := c.def_ 34 (d := H23.d__law_face) rfl
    d__law_tie := c.def_ 35 (d := H23.d__law_tie) rfl
    d__law_steps := c.def_ 36 (d := H23.d__law_steps) rfl
    d__law_chain := c.def_ 37 (d := H23.d__law_chain) rfl
    d__law_least := c.def_ 38 (d := H23.d__law_least) rfl
    d__law_from := c.def_ 39 (d := H23.d__law_from) rfl
    d_law := c.def_ 40 (d := H23.d_law) rfl
    n_abs := He.free_ok X G (c.fact 0 (f := .free "abs") rfl)
    n_bool := He.free_ok X G (c.fact 1 (f := .free "bool") rfl)
    n_int := He.free_ok X G (c.fact 2 (f := .free "int") rfl)
    n_isinstance := He.free_ok X G (c.fact 3 (f := .free "isinstance") rfl)
    n_len := He.free_ok X G (c.fact 4 (f := .free "len") rfl)
    n_list := He.free_ok X G (c.fact 5 (f := .free "list") rfl)
    n_range := He.free_ok X G (c.fact 6 (f := .free "range") rfl)
    n_set := He.free_ok X G (c.fact 7 (f := .free "set") rfl)
    n_sorted := He.free_ok X G (c.fact 8 (f := .free "sorted") rfl)
    n_str := He.free_ok X G (c.fact 9 (f := .free "str") rfl)
    n_tuple := He.free_ok X G (c.fact 10 (f := .free "tuple") rfl)
    g_AtLeast := He.glo_ok X G (c.fact 11 (f := .glo "AtLeast") rfl)
    g_AtMost := He.glo_ok X G (c.fact 12 (f := .glo "AtMost") rfl)
    g_Between := He.glo_ok X G (c.fact 13 (f := .glo "Between") rfl)
    g_Free := He.glo_ok X G (c.fact 14 (f := .glo "Free") rfl)
    g_Just := He.glo_ok X G (c.fact 15 (f := .glo "Just") rfl)
    g_NoNumber := He.glo_ok X G (c.fact 16 (f := .glo "NoNumber") rfl)
    g_NoTie := He.glo_ok X G (c.fact 17 (f := .glo "NoTie") rfl)
    g_Tie := He.glo_ok X G (c.fact 18 (f := .glo "Tie") rfl)
    s_LETTERS := He.str_ok X G (c.fact 19 (f := .str "LETTERS" "abcdefghijklmnopqrstuvwxyz") rfl)
    x_NoNumber := (c.fact 20 (f := .exc "NoNumber") rfl)
    x_NoTie := (c.fact 21 (f := .exc "NoTie") rfl)
    f_end := (List.forall_mem_cons.mpr ⟨⟨He.cls_ok (c.fact 22 (f := .cls "AtLeast") rfl), He.noat_ok (c.fact 23 (f := .noat "AtLeast" "end") rfl)⟩, (List.forall_mem_cons.mpr ⟨⟨He.cls_ok (c.fact 24 (f := .cls "AtMost") rfl), He.noat_ok (c.fact 25 (f := .noat "AtMost" "end") rfl)⟩, (List.forall_mem_cons.mpr ⟨⟨He.cls_ok (c.fact 26 (f := .cls "Between") rfl), He.noat_ok (c.fact 27 (f := .noat "Between" "end") rfl)⟩, (List.forall_mem_cons.mpr ⟨⟨He.cls_ok (c.fact 28 (f := .cls "Free") rfl), He.noat_ok (c.fact 29 (f := .noat "Free" "end") rfl)⟩, (List.forall_mem_cons.mpr ⟨⟨He.cls_ok (c.fact 30 (f := .cls "Just") rfl), He.noat_ok (c.fact 31 (f := .noat "Just" "end") rfl)⟩, (fun _ h => nomatch h)⟩)⟩)⟩)⟩)⟩)
    f_greatest := (List.forall_mem_cons.mpr ⟨⟨He.cls_ok (c.fact 32 (f := .cls "AtMost") rfl), He.noat_ok (c.fact 33 (f := .noat "AtMost" "greatest") rfl)⟩, (List.forall_mem_cons.mpr ⟨⟨He.cls_ok (c.fact 34 (f := .cls "Between") rfl), He.noat_ok (c.fact 35 (f := .noat "Between" "greatest") rfl)⟩, (fun _ h => nomatch h)⟩)⟩)
    f_least := (List.forall_mem_cons.mpr ⟨⟨He.cls_ok (c.fact 36 (f := .cls "AtLeast") rfl), He.noat_ok (c.fact 37 (f := .noat "AtLeast" "least") rfl)⟩, (List.forall_mem_cons.mpr ⟨⟨He.cls_ok (c.fact 38 (f := .cls "Between") rfl), He.noat_ok (c.fact 39 (f := .noat "Between" "least") rfl)⟩, (fun _ h => nomatch h)⟩)⟩)
    f_name := (List.forall_mem_cons.mpr ⟨⟨He.cls_ok (c.fact 40 (f := .cls "AtLeast") rfl), He.noat_ok (c.fact 41 (f := .noat "AtLeast" "name") rfl)⟩, (List.forall_mem_cons.mpr ⟨⟨He.cls_ok (c.fact 42 (f := .cls "AtMost") rfl), He.noat_ok (c.fact 43 (f := .noat "AtMost" "name") rfl)⟩, (List.forall_mem_cons.mpr ⟨⟨He.cls_ok (c.fact 44 (f := .cls "Between") rfl), He.noat_ok (c.fact 45 (f := .noat "Between" "name") rfl)⟩, (List.forall_mem_cons.mpr ⟨⟨He.cls_ok (c.fact 46 (f := .cls "Free") rfl), He.noat_ok (c.fact 47 (f := .noat "Free" "name") rfl)⟩, (List.forall_mem_cons.mpr ⟨⟨He.cls_ok (c.fact 48 (f := .cls "Just") rfl), He.noat_ok (c.fact 49 (f := .noat "Just" "name") rfl)⟩, (fun _ h => nomatch h)⟩)⟩)⟩)⟩)⟩)
    f_size := (List.forall_mem_cons.mpr ⟨⟨He.cls_ok (c.fact 50 (f := .cls "Just") rfl), He.noat_ok (c.fact 51 (f := .noat "Just" "size") rfl)⟩, (fun _ h => nomatch h)⟩)
    f_start := (List.forall_mem_cons.mpr ⟨⟨He.cls_ok (c.fact 52 (f := .cls "AtLeast") rfl), He.noat_ok (c.fact 53 (f := .noat "AtLeast" "start") rfl)⟩, (List.forall_mem_cons.mpr ⟨⟨He.cls_ok (c.fact 54 (f := .cls "AtMost") rfl), He.noat_ok (c.fact 55 (f := .noat "AtMost" "start") rfl)⟩, (List.forall_mem_cons.mpr ⟨⟨He.cls_ok (c.fact 56 (f := .cls "Between") rfl), He.noat_ok (c.fact 57 (f := .noat "Between" "start") rfl)⟩, (List.forall_mem_cons.mpr ⟨⟨He.cls_ok (c.fact 58 (f := .cls "Free") rfl), He.noat_ok (c.fact 59 (f := .noat "Free" "start") rfl)⟩, (List.forall_mem_cons.mpr ⟨⟨He.cls_ok (c.fact 60 (f := .cls "Just") rfl), He.noat_ok (c.fact 61 (f := .noat "Just" "start") rfl)⟩, (fun _ h => nomatch h)⟩)⟩)⟩)⟩)⟩)
    me_AtLeast_high := ⟨He.cls_ok (c.fact 62 (f := .cls "AtLeast") rfl), (of_decide_eq_true (allX_at cx 0 (f := fxSame "AtLeast" "Tie" "high") rfl)) ▸ He.meth_ok (c.fact 63 (f := .meth "AtLeast" "high") rfl)⟩
    me_AtMost_high := ⟨He.cls_ok (c.fact 64 (f := .cls "AtMost") rfl), He.meth_ok (c.fact 65 (f := .meth "AtMost" "high") rfl)⟩
    me_Between_high := ⟨He.cls_ok (c.fact 66 (f := .cls "Between") rfl), He.meth_ok (c.fact 67 (f := .meth "Between" "high") rfl)⟩
    me_Free_high := ⟨He.cls_ok (c.fact 68 (f := .cls "Free") rfl), (of_decide_eq_true (allX_at cx 1 (f := fxSame "Free" "Tie" "high") rfl)) ▸ He.meth_ok (c.fact 69 (f := .meth "Free" "high") rfl)⟩
    me_Just_high := ⟨He.cls_ok (c.fact 70 (f := .cls "Just") rfl), He.meth_ok (c.fact 71 (f := .meth "Just" "high") rfl)⟩
    me_AtLeast_low := ⟨He.cls_ok (c.fact 72 (f := .cls "AtLeast") rfl), He.meth_ok (c.fact 73 (f := .meth "AtLeast" "low") rfl)⟩
    me_AtMost_low := ⟨He.cls_ok (c.fact 74 (f := .cls "AtMost") rfl), (of_decide_eq_true (allX_at cx 2 (f := fxSame "AtMost" "Tie" "low") rfl)) ▸ He.meth_ok (c.fact 75 (f := .meth "AtMost" "low") rfl)⟩
    me_Between_low := ⟨He.cls_ok (c.fact 76 (f := .cls "Between") rfl), He.meth_ok (c.fact 77 (f := .meth "Between" "low") rfl)⟩
    me_Free_low := ⟨He.cls_ok (c.fact 78 (f := .cls "Free") rfl), (of_decide_eq_true (allX_at cx 3 (f := fxSame "Free" "Tie" "low") rfl)) ▸ He.meth_ok (c.fact 79 (f := .meth "Free" "low") rfl)⟩
    me_Just_low := ⟨He.cls_ok (c.fact 80 (f := .cls "Just") rfl), He.meth_ok (c.fact 81 (f := .meth "Just" "low") rfl)⟩
    me_AtLeast_steps := ⟨He.cls_ok (c.fact 82 (f := .cls "AtLeast") rfl), (of_decide_eq_true (allX_at cx 4 (f := fxSame "AtLeast" "Tie" "steps") rfl)) ▸ He.meth_ok (c.fact 83 (f := .meth "AtLeast" "steps") rfl)⟩
    me_AtMost_steps := ⟨He.cls_ok (c.fact 84 (f := .cls "AtMost") rfl), (of_decide_eq_true (allX_at cx 5 (f := fxSame "AtMost" "Tie" "steps") rfl)) ▸ He.meth_ok (c.fact 85 (f := .meth "AtMost" "steps") rfl)⟩
    me_Between_steps := ⟨He.cls_ok (c.fact 86 (f := .cls "Between") rfl), (of_decide_eq_true (allX_at cx 6 (f := fxSame "Between" "Tie" "steps") rfl)) ▸ He.meth_ok (c.fact 87 (f := .meth "Between" "steps") rfl)⟩
    me_Free_steps := ⟨He.cls_ok (c.fact 88 (f := .cls "Free") rfl), (of_decide_eq_true (allX_at cx 7 (f := fxSame "Free" "Tie" "steps") rfl)) ▸ He.meth_ok (c.fact 89 (f := .meth "Free" "steps") rfl)⟩
    me_Just_steps := ⟨He.cls_ok (c.fact 90 (f := .cls "Just") rfl), (of_decide_eq_true (allX_at cx 8 (f := fxSame "Just" "Tie" "steps") rfl)) ▸ He.meth_ok (c.fact 91 (f := .meth "Just" "steps") rfl)⟩
    mk_AtLeast := He.mkr_ok (c.fact 92 (f := .mkr "AtLeast") rfl)
    mk_AtMost := He.mkr_ok (c.fact 93 (f := .mkr "AtMost") rfl)
    mk_Between := He.mkr_ok (c.fact 94 (f := .mkr "Between") rfl)
    mk_Free := (of_decide_eq_true (allX_at cx 9 (f := fxSame "Free" "Tie" "__init__") rfl)) ▸ He.mkr_ok (c.fact 95 (f := .mkr "Free") rfl)
    mk_Just := He.mkr_ok (c.fact 96 (f := .mkr "Just") rfl)
    cm_Tie___init__ := (allX_at cx 10 (f := fxCM "Tie" "__init__") rfl)
    m_divisor := He.glo_ok X G (c.fact 97 (f := .glo "divisor") rfl)
    m_fraction := He.glo_ok X G (c.fact 98 (f := .glo "fraction") rfl)
    m_plus := He.glo_ok X G (c.fact 99 (f := .glo "plus") rfl)
    m_minus := He.glo_ok X G (c.fact 100 (f := .glo "minus") rfl)
    m_under := He.glo_ok X G (c.fact 101 (f := .glo "under") rfl)
    m_is_whole := He.glo_ok X G (c.fact 102 (f := .glo "is_whole") rfl)
    m_is_name := He.glo_ok X G (c.fact 103 (f := .glo "is_name") rfl)
    m_is_fraction := He.glo_ok X G (c.fact 104 (f := .glo "is_fraction") rfl)
    m_check_tie := He.glo_ok X G (c.fact 105 (f := .glo "check_tie") rfl)
    m_tie_of := He.glo_ok X G (c.fact 106 (f := .glo "tie_of") rfl)
    m_all_steps := He.glo_ok X G (c.fact 107 (f := .glo "all_steps") rfl)
    m_one_round := He.glo_ok X G (c.fact 108 (f := .glo "one_round") rfl)
    m_way_back := He.glo_ok X G (c.fact 109 (f := .glo "way_back") rfl)
    m_reached := He.glo_ok X G (c.fact 110 (f := .glo "reached") rfl)
    m__law_cell_at := He.glo_ok X G (c.fact 111 (f := .glo "_law_cell_at") rfl)
    m__law_divisor := He.glo_ok X G (c.fact 112 (f := .glo "_law_divisor") rfl)
    m__law_lowest := He.glo_ok X G (c.fact 113 (f := .glo "_law_lowest") rfl)
    m__law_plus := He.glo_ok X G (c.fact 114 (f := .glo "_law_plus") rfl)
    m__law_less := He.glo_ok X G (c.fact 115 (f := .glo "_law_less") rfl)
    m__law_places := He.glo_ok X G (c.fact 116 (f := .glo "_law_places") rfl)
    m__law_face := He.glo_ok X G (c.fact 117 (f := .glo "_law_face") rfl)
    m__law_tie := He.glo_ok X G (c.fact 118 (f := .glo "_law_tie") rfl)
    m__law_steps := He.glo_ok X G (c.fact 119 (f := .glo "_law_steps") rfl)
    m__law_chain := He.glo_ok X G (c.fact 120 (f := .glo "_law_chain") rfl)
    m__law_least := He.glo_ok X G (c.fact 121 (f := .glo "_law_least") rfl)
    m__law_from := He.glo_ok X G (c.fact 122 (f := .glo "_law_from") rfl)
    m_law := He.glo_ok X G (c.fact 123 (f := .glo "law") rfl) }
  obtain ⟨fd, F⟩ := C.d_law
  have e := hfa.symm.trans C.m_law
  cases e
  have b := FunD.bindsA (ps := ["_law_script"]) F fun _ _ _ _ _ _ us hl => match us, hl with | [_], _ => rfl
  exact ⟨fd, fun s v => b s [v] rfl, fun base _ _ => ok_law C F⟩
end K23
open PySem PySem.W PySem.Calls PyProof.Rows
theorem PySem.Challenge.cw_slackchain_k23_least_sums_reached_holds : PySem.Challenge.rw_slackchain_k23_least_sums_reached.Holds := by
  w_on; o_law
  refine HandSHeadRun.head_any (r := OpenLaw.row PySem.Challenge.rw_slackchain_k23_least_sums_reached) (q := view (PySem.W.OpenLaw.row PySem.Challenge.rw_slackchain_k23_least_sums_reached).prog [42]) (H := H23.hk) (ob := H23.ob) (M := 12000) (loose := ("_wall" :: "SlackError" :: "NoNumber" :: "NoTie" :: "divisor" :: "fraction" :: "plus" :: "minus" :: "under" :: "LETTERS" :: "is_whole" :: "is_name" :: "is_fraction" :: "Tie" :: "Free" :: "AtLeast" :: "AtMost" :: "Just" :: "Between" :: "check_tie" :: "tie_of" :: "all_steps" :: "one_round" :: "way_back" :: "reached" :: "_law_cell_at" :: "_law_divisor" :: "_law_lowest" :: "_law_plus" :: "_law_less" :: "_law_places" :: "_law_face" :: "_law_tie" :: "_law_steps" :: "_law_chain" :: "_law_least" :: "_law_from" :: [])) (d := HandSHeadRun.topDef (PySem.W.OpenLaw.row PySem.Challenge.rw_slackchain_k23_least_sums_reached).prog 42) (kwd := []) H23.ob_eq
    (by kernel_rfl) (fun s => by kernel_rfl) H23.run (by kernel_rfl) (by kernel_rfl) (by kernel_rfl) (by rfl) (by first | assumption | decide +kernel) (by decide +kernel) ⟨rfl, rfl, rfl, rfl, rfl, by decide +kernel⟩ ?hw ?hc
  case hw => w_witness2
  case hc =>
    refine DL.walk_ofW (l := PySem.Challenge.rw_slackchain_k23_least_sums_reached) (n := 63) (k := 9) (x := "_law_script") rfl (by decide) (by kernel_rfl) ⟨rfl, by decide, by decide⟩ ?F
    intro w mg fa h Y G hmg0
    obtain ⟨K, KX, c⟩ := Y
    have hmg : mg ("law" : PySem.Str) = some (.ref fa) := by
      have e : (HandSHeadRun.topDef (PySem.W.OpenLaw.row PySem.Challenge.rw_slackchain_k23_least_sums_reached).prog 42).name = ("law" : PySem.Str) := by kernel_rfl
      rw [← e]
      exact hmg0
    obtain ⟨fd, hb, hF⟩ := K23.facts (P := (PySem.Challenge.rw_slackchain_k23_least_sums_reached).prog) (w := w) KX G hmg c.1 c.2
    exact ⟨K, fd, DL.liftSpC K DL.spLawC, KX, hb, fun H a ns hl hS => DL.sp_endC hl hS, hF⟩

